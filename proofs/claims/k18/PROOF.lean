import PyProof.Rows.All
import Wide.All
import OpenK.AllK
import Wide.FinOn
import HandS.ForMost
import HandS.Deep
import HandS.Flow
import HandS.Conv
import HandS.TupAny
import HandS.TupMul
import HandS.Wide
import HandS.WideBits
import KE.SortData
import KE.KDictPairs
import HandS.IsInst
import HandS.TupLe
import HandS.Style
import HandS.More
import HandS.Evl
import HandS.Dict
import HandS.TupSets
import KE.KeyNested
import HandS.ExcValue
import HandS.Ends
import PySem.Challenge.RW_forcedtold_k18_idle_rules
set_option Elab.async false
set_option linter.all false
set_option maxRecDepth 100000
set_option maxHeartbeats 4000000
section
namespace VL
open PySem PySem.Spec PyProof.Rows L2

/-! ### tuples whose object is known to have no dict of its own -/
def TupN (K : PySem.W.Frag) (H : Hp) (a : Addr) (xs : List V) : Prop :=
  (∃ o, H a = some (.frz o (.tup xs)) ∧ o.dict = none) ∨
    ∃ (o : Obj) (its : Array Value) (n : Nat), K.lookup a = some o ∧ o.cls = .type "tuple" ∧ o.dict = none ∧ o.data = .seq its n ∧ its.size ≤ sizeLine ∧ Vals xs its.toList
theorem TupN.sq {K : PySem.W.Frag} {H : Hp} {a : Addr} {xs : List V} (h : TupN K H a xs) : SqT K H a xs := by
  rcases h with ⟨o, e, _⟩ | ⟨o, its, n, h1, h2, _, h3⟩
  · exact .inl (.inr ⟨o, e⟩)
  · exact .inr ⟨o, its, n, h1, h2, h3⟩
/-- what a heap holds of it -/
theorem TupN.at {X : Cx} {pins : List (Addr × Obj)} {σ : L2.St} {H : Hp} {s : Shared} {a : Addr} {xs : List V} (I : Inv X pins σ H s) (h : TupN X.K H a xs) :
    ∃ its : List Value, Vals xs its ∧ PlainSeq "tuple" s.heap a its.toArray ∧ xs.length ≤ sizeLine := by
  rcases h with ⟨o, e, hd⟩ | ⟨o, its, n, hk, hc, hd, hs, hz, r⟩
  · obtain ⟨ho, z, its, r, ⟨o', ho', hc, n, hdat⟩⟩ := I.hok a _ e
    rw [ho] at ho'; cases ho'
    exact ⟨its, r, ⟨o, n, ho, hc, hd, hdat⟩, z⟩
  · refine ⟨its.toList, r, ⟨o, n, I.kIn a o hk, hc, hd, by simpa using hs⟩, ?_⟩
    have el := r.length
    simp only [Array.length_toList] at el
    omega
section
variable {X : Cx} {es : List Expr} {t : TA} {pos : Pos}
def tTupN (t : TA) : TE := fun σ H Q => t σ H fun xs H1 => xs.length ≤ sizeLine ∧ ∀ p o, H1 p = none → o.dict = none → Q (.ref p) (upd H1 p (.frz o (.tup xs)))
theorem pe_tupN {x1} (h : PA X es t) : PE X (.Tuple es x1 pos) (tTupN t) :=
  ⟨fun pins s σ H Q I hq => wpAny_Tuple_spliced (thn (h.run pos pins s σ H _ I hq) fun us s1 ⟨xs, H1, I1, r, z, q⟩ => ⟨by rw [← r.length]; exact z,
    .ref s1.heap.objs.size, upd H1 s1.heap.objs.size (.frz _ (.tup xs)), I1.laid (t' := s1.toks) (fun b u e => Heap.get?_push_of_some _ e) (Nat.le_refl _) ⟨Heap.get?_push_size _ rfl, z, us, r, _, Heap.get?_push_size _ rfl, rfl, _, rfl⟩, rfl, q _ _ (I1.hok.fresh (Nat.le_refl _)) rfl⟩)⟩
/-- tuple(xs) of a list, of a tuple -/
theorem call_tupN : CallR X (.type "tuple") (fun xs H Q => ∃ p ys, xs = [.ref p] ∧ ((SqL X.K H p ys ∧ ∀ l o, H l = none → o.dict = none → Q (.ref l) (upd H l (.frz o (.tup ys)))) ∨ (SqT X.K H p ys ∧ Q (.ref p) H))) := by
  intro pins s σ H xs us Q I r ⟨p, ys, ex, h⟩
  subst ex
  obtain ⟨u, eu, rx⟩ := vals1 r
  subst eu
  cases rx
  rcases h with ⟨hq, q⟩ | ⟨hq, q⟩
  · obtain ⟨its, ri, pl, hz⟩ := I.list hq
    have hl := ri.length
    refine call_tuple_list pl.isList (fun hp kp => ?_) (by simp only [List.size_toArray] <;> omega)
    have J : Inv X pins σ H { s with heap := hp } := I.kept (t' := s.toks) kp
    exact ⟨.ref hp.objs.size, upd H hp.objs.size (.frz _ (.tup ys)), J.laid (t' := s.toks) (fun b o e => Heap.get?_push_of_some _ e) (Nat.le_refl _) ⟨Heap.get?_push_size _ rfl, hz, its, ri, IsTup.new _ _⟩, rfl, q _ _ (J.hok.fresh (Nat.le_refl _)) rfl⟩
  · obtain ⟨its, _, pl, _⟩ := I.tuple hq
    exact call_tuple_same pl ⟨.ref p, H, I, rfl, q⟩
/-- tuple(range(..)) -/
theorem pe_tupRgN {e : Expr} {wi : L2.St → Hp → (Int → Int → Hp → Prop) → Prop} {p : Pos} (hc : X.calm = true) (hg : Gl X "tuple") (hm : X.mg "tuple" = none) (he : PRg X e wi)
    (na : starEach [e] X.env = (false, eval e X.env) :: starEach [] X.env := by rfl) : PE X (.Call (.Name "tuple" p) [e] [] pos) (fun σ H Q => wi σ H fun a b H1 => RgOk a b ∧ ∀ l o, H1 l = none → o.dict = none → Q (.ref l) (upd H1 l (.frz o (.tup (rgV a b))))) := by
  refine ⟨fun pins s σ H Q I h => ?_⟩
  refine Call_ (ld_blt I hg hm boot_tuple (callWith_type1 (args_cons (thn (he pins s σ H _ I h) fun x s1 ⟨r, a, b, t, u, v, H1, ex, hr, I1, ok, q⟩ => args_nil ?_) na) na))
  subst ex
  obtain ⟨b1, b2, b3, b4, b5⟩ := ok
  refine call_tuple_range (n := (b - a).toNat) (I1.ok.hd hc) hr (small_one b1 b2 b3 b4) (rangeSize_nat a b) b5 fun hp tk acc hk hi => ?_
  have J : Inv X pins σ H1 { s1 with heap := hp, toks := tk } := I1.kept hk
  refine ⟨.ref hp.objs.size, upd H1 hp.objs.size (.frz _ (.tup (rgV a b))), J.laid (t' := tk) (fun c o e => Heap.get?_push_of_some _ e) (Nat.le_refl _) ⟨Heap.get?_push_size _ rfl, ?_, acc.toList, vals_rg hi, ?_⟩, rfl, q _ _ (J.hok.fresh (Nat.le_refl _)) rfl⟩
  · rw [rgV_length, sizeLine_eq]; omega
  · rw [Array.toArray_toList]; exact IsTup.new _ _
/-- t + u -/
theorem op_catN : OpR X (binaryOp .Add) (fun x y H Q => ∃ a b xs ys, x = .ref a ∧ y = .ref b ∧ SqT X.K H a xs ∧ SqT X.K H b ys ∧ xs.length + ys.length ≤ sizeLine ∧
    (xs = [] → Q (.ref b) H) ∧ (xs ≠ [] → ys = [] → Q (.ref a) H) ∧ (xs ≠ [] → ys ≠ [] → ∀ p o, H p = none → o.dict = none → Q (.ref p) (upd H p (.frz o (.tup (xs ++ ys)))))) := by
  intro pins s σ H x y v u Q I rx ry ⟨a, b, xs, ys, ex, ey, ha, hb, hz, q0, q1, q2⟩
  subst ex; subst ey
  cases rx
  cases ry
  obtain ⟨its, r1, p1, _⟩ := I.tuple ha
  obtain ⟨its2, r2, p2, _⟩ := I.tuple hb
  by_cases hx : xs = []
  · subst hx
    cases r1
    exact cat_tup0 p1 p2 ⟨.ref b, H, I, rfl, q0 rfl⟩
  · refine HT.cat_tup p1 p2 (fun z => hx (r1.nil_iff.mp z)) (fun z => ⟨.ref a, H, I, rfl, q1 hx (r2.nil_iff.mp z)⟩) (fun z => ?_) (by rw [← r1.length, ← r2.length]; exact hz)
    exact ⟨.ref s.heap.objs.size, upd H s.heap.objs.size (.frz _ (.tup (xs ++ ys))), I.laid (t' := s.toks) (fun c ob q => Heap.get?_push_of_some _ q) (Nat.le_refl _) ⟨Heap.get?_push_size _ rfl, by rw [List.length_append]; exact hz, _, r1.append r2, IsTup.new _ _⟩, rfl, q2 hx (fun w => z (r2.nil_iff.mpr w)) _ _ (I.hok.fresh (Nat.le_refl _)) rfl⟩
/-- t[lo:hi] -/
theorem sl_tupN : SlR X (fun x lo hi H Q => ∃ a xs, x = .ref a ∧ SqT X.K H a xs ∧ (HT.sIx xs.length 0 lo = 0 ∧ HT.sIx xs.length xs.length hi = xs.length → Q (.ref a) H) ∧
    (¬ (HT.sIx xs.length 0 lo = 0 ∧ HT.sIx xs.length xs.length hi = xs.length) → ∀ p o, H p = none → o.dict = none → Q (.ref p) (upd H p (.frz o (.tup (cutV xs lo hi)))))) := by
  intro pins s σ H x v vl vu lo hi sl Q I rx hs pl pu ⟨a, xs, ex, hx, q1, q2⟩
  subst ex
  cases rx
  obtain ⟨its, r, ht, hz⟩ := I.tuple hx
  have hl : its.toArray.size = xs.length := by rw [List.size_toArray]; exact r.length.symm
  refine ⟨"tuple", _, slot_tuple_getitem.lookup, ht.typeIs, ?_⟩
  by_cases hw : HT.sIx xs.length 0 lo = 0 ∧ HT.sIx xs.length xs.length hi = xs.length
  · exact getItem_tuple_whole ht hs pl pu (by rw [hl]; exact hw) ⟨.ref a, H, I, rfl, q1 hw⟩
  · refine HT.getItem_tuple_cut ht hs pl pu (by rw [hl]; exact hw) ?_ (by rw [hl]; exact hz)
    rw [hl]
    exact ⟨.ref s.heap.objs.size, upd H s.heap.objs.size (.frz _ (.tup (cutV xs lo hi))), I.laid (t' := s.toks) (fun c ob q => Heap.get?_push_of_some _ q) (Nat.le_refl _) ⟨Heap.get?_push_size _ rfl, Nat.le_trans (cutV_length xs lo hi) hz, _, (r.drop (HT.sIx xs.length 0 lo)).take (HT.sIx xs.length xs.length hi - HT.sIx xs.length 0 lo), IsTup.new _ _⟩, rfl, q2 hw _ _ (I.hok.fresh (Nat.le_refl _)) rfl⟩
/-- t * k -/
theorem tuple_mul1 (l : Addr) (items : Array Value) (n : Nat) (dd : Option Addr) (sl : Array (Option Value)) (u : Tok) (hne : items.isEmpty = false) :
    Meets (Builtin.«tuple.__mul__» ⟨[.ref l, .int 1 u], []⟩) (fun _ R s => s.heap.get? l = some { cls := .type "tuple", dict := dd, data := .seq items n, slots := sl } ∧ R (.ok (.ret (Value.ref l))) s) :=
  .of_wp fun prog w A R s h => by
    obtain ⟨hp, g, d, tk, os⟩ := s
    obtain ⟨hl, h⟩ := h
    have f1 := AutoSeq1.idx_int
    have hT : (⟨hp, g, d, tk, os⟩ : Shared).TypeIs (.ref l) "tuple" := ⟨_, hl, rfl⟩
    have c0 : (decide ((1 : Int) < -(2 ^ 63)) || decide ((1 : Int) ≥ 2 ^ 63)) = false := by decide
    wp_walk using wpAny_loadPart' hl
    repeat (first
      | (refine wpAny_ite_false (decide_eq_false (by rw [c0]; exact Bool.false_ne_true)) ?_; wp_walk using wpAny_loadPart' hl)
      | (refine wpAny_ite_true (by rw [hne]; rfl) ?_; wp_walk using wpAny_loadPart' hl))
    all_goals first | exact ⟨_, rfl, h⟩ | skip
theorem op_repN : OpR X (binaryOp .Mult) (fun x y H Q => ∃ l k xs, x = .ref l ∧ y = .int k ∧ SqT X.K H l xs ∧ xs ≠ [] ∧ 1 ≤ k ∧ k ≤ 1000 ∧ xs.length ≤ 1000 ∧ (k = 1 → Q (.ref l) H) ∧
    (2 ≤ k → ∀ p o, H p = none → o.dict = none → Q (.ref p) (upd H p (.frz o (.tup (List.replicate k.toNat xs).flatten))))) := by
  intro pins s σ H x y v u Q I rx ry ⟨l, k, xs, ex, ey, hT, hne, h1, h2, hz, q1, q2⟩
  subst ex; subst ey
  cases rx
  obtain ⟨t, et⟩ := ry
  subst et
  obtain ⟨its, r, ⟨⟨cls, dd, data, sl⟩, ho, hc, n, hd⟩, hs⟩ := I.tuple hT
  simp only at hc hd
  subst hc hd
  have hle : its.length = xs.length := r.length.symm
  have hi : its.toArray.isEmpty = false := by
    cases its with
    | nil => exact absurd (List.eq_nil_of_length_eq_zero (by simpa using hle.symm)) hne
    | cons a b => rfl
  have go : ∀ {S : PySem.Spec}, Meets (Builtin.«tuple.__mul__» ⟨[.ref l, .int k t], []⟩) S → S X.A (wants (EP X pins σ Q) X.xe) s → wpAny (model X.prog X.w) X.A (binaryOp .Mult (.ref l) (.int k t)) (EP X pins σ Q) X.xe s := fun g h =>
    wpAny_binaryOp_repeat_ref (T := "tuple") (U := "int") (by decide) ⟨_, ho, rfl⟩ (fun s' => typeIs_int s' k t) noFill_tuple_mul F.fills_int_mul F.slot_int_rmul repeat_tuple F.slot_int_index.lookup
      (call_meets F.slot_int_rmul (typeIs_int s k t) F.entry_int_rmul (F.args_int_rmul_2 _ _) (int_rmul_tuple k t l its.toArray n dd sl)
        ⟨ho, rfl, ⟨_, ho, rfl⟩, call_meets F.slot_tuple_mul ⟨_, ho, rfl⟩ F.entry_tuple_mul (F.args_tuple_mul_2 _ _) g h⟩)
  by_cases e1 : k = 1
  · subst e1
    exact go (tuple_mul1 l its.toArray n dd sl t hi) ⟨ho, .ref l, H, I, rfl, q1 rfl⟩
  have k2 : 2 ≤ k := by omega
  have hsz0 : its.toArray.size = xs.length := by rw [List.size_toArray, hle]
  have bb : k.toNat * xs.length ≤ 1000 * 1000 := Nat.mul_le_mul (by omega) hz
  have hm : ((its.toArray.size : Nat) : Int) * k ≤ 1000000 := by
    rw [hsz0]
    have a1 : ((xs.length : Nat) : Int) * k ≤ 1000 * k := Int.mul_le_mul_of_nonneg_right (by omega) (by omega)
    omega
  have flen : (List.replicate k.toNat its).flatten.length ≤ sizeLine := by
    rw [lm_len_rep_flat, hle, sizeLine_eq]
    omega
  have c4 : Builtin.Tuple.tupleTooMany (((its.toArray.size : Nat) : Int) * k) = false := by
    unfold Builtin.Tuple.tupleTooMany
    rw [sizeLine_eq]
    exact decide_eq_false (by omega)
  refine go (tuple_mulW l its.toArray n dd sl k t (by rw [decide_eq_false (by omega), decide_eq_false (by omega)] <;> rfl) (by rw [hi, Bool.false_or]; exact beq_eq_false_iff_ne.mpr e1) (by rw [hi, Bool.or_false]; exact decide_eq_false (by omega)) (by omega) c4 (by rw [size_rep, List.size_toArray]; exact flen)) ⟨ho, ?_⟩
  rw [size_rep]
  exact ⟨.ref s.heap.objs.size, upd H s.heap.objs.size (.frz _ (.tup (List.replicate k.toNat xs).flatten)), I.laid (t' := s.toks) (fun b ob q => Heap.get?_push_of_some _ q) (Nat.le_refl _) ⟨Heap.get?_push_size _ rfl, by rw [lm_len_rep_flat, sizeLine_eq]; omega, _, r.rep k.toNat, IsTup.new _ _⟩, rfl, q2 k2 _ _ (I.hok.fresh (Nat.le_refl _)) rfl⟩
end
end VL
end
section
namespace VL
open PySem PySem.Spec L2

/-! ### heaps as parts -/
def emp : Hp := fun _ => none
def jn (h k : Hp) : Hp := fun a => match h a with | some o => some o | none => k a
def Dis (h k : Hp) : Prop := ∀ a, h a = none ∨ k a = none
def one (p : Addr) (o : HO) : Hp := upd emp p o

theorem jn_l {h k : Hp} {a : Addr} {o : HO} (e : h a = some o) : jn h k a = some o := by unfold jn; rw [e]
theorem jn_r {h k : Hp} {a : Addr} (e : h a = none) : jn h k a = k a := by unfold jn; rw [e]
theorem jn_none {h k : Hp} {a : Addr} : jn h k a = none ↔ h a = none ∧ k a = none := by
  cases e : h a with
  | none => rw [jn_r e]; simp
  | some o => rw [jn_l e]; simp
theorem jn_emp {h : Hp} : jn h emp = h := by
  funext a
  cases e : h a with
  | none => rw [jn_r e]; rfl
  | some o => rw [jn_l e]
theorem emp_jn {h : Hp} : jn emp h = h := by
  funext a; exact jn_r rfl
theorem jn_assoc {h k l : Hp} : jn (jn h k) l = jn h (jn k l) := by
  funext a
  cases e : h a with
  | some o => rw [jn_l e, jn_l (jn_l e)]
  | none =>
    rw [jn_r e]
    cases e2 : k a with
    | some o => rw [jn_l e2, jn_l (by rw [jn_r e]; exact e2)]
    | none => rw [jn_r e2, jn_r (by rw [jn_r e]; exact e2)]
theorem jn_comm {h k : Hp} (d : Dis h k) : jn h k = jn k h := by
  funext a
  rcases d a with e | e
  · rw [jn_r e]
    cases e2 : k a with
    | some o => rw [jn_l e2]
    | none => rw [jn_r e2]; exact e.symm
  · cases e2 : h a with
    | some o => rw [jn_l e2, jn_r e]; exact e2.symm
    | none => rw [jn_r e2, jn_r e]; exact e.trans e2.symm
theorem same_jn {h k H : Hp} (a : Same h H) (b : Same k H) : Same (jn h k) H := fun x o e => by
  cases e1 : h x with
  | some u => rw [jn_l e1] at e; cases e; exact a _ _ e1
  | none => rw [jn_r e1] at e; exact b _ _ e
theorem same_l {h k : Hp} : Same h (jn h k) := fun _ _ e => jn_l e
theorem same_r {h k : Hp} (d : Dis h k) : Same k (jn h k) := fun a o e => by
  rcases d a with z | z
  · rw [jn_r z]; exact e
  · rw [z] at e; cases e
theorem Dis.symm {h k : Hp} (d : Dis h k) : Dis k h := fun a => (d a).symm
theorem Dis.jn {h k l : Hp} (a : Dis h l) (b : Dis k l) : Dis (jn h k) l := fun x => by
  rcases a x with e | e
  · rcases b x with z | z
    · exact .inl (jn_none.mpr ⟨e, z⟩)
    · exact .inr z
  · exact .inr e
theorem Dis.sub {h h' k : Hp} (s : Same h h') (d : Dis h' k) : Dis h k := fun a => by
  rcases d a with e | e
  · exact .inl (s.free e)
  · exact .inr e
theorem Dis.emp {k : Hp} : Dis VL.emp k := fun _ => .inl rfl
theorem same_emp {k : Hp} : Same emp k := fun _ _ e => by cases e
theorem one_at {p : Addr} {o : HO} : one p o p = some o := upd_same
theorem one_ne {p a : Addr} {o : HO} (h : a ≠ p) : one p o a = none := upd_ne h
theorem same_one {p : Addr} {o : HO} {H : Hp} (h : H p = some o) : Same (one p o) H := fun a u e => by
  by_cases z : a = p
  · subst z; rw [one_at] at e; cases e; exact h
  · rw [one_ne z] at e; cases e
theorem dis_one {p : Addr} {o : HO} {k : Hp} (h : k p = none) : Dis (one p o) k := fun a => by
  by_cases z : a = p
  · subst z; exact .inr h
  · exact .inl (one_ne z)
theorem of_dis_one {p : Addr} {o : HO} {k : Hp} (d : Dis (one p o) k) : k p = none := by
  rcases d p with e | e
  · rw [one_at] at e; cases e
  · exact e
theorem same_new {H : Hp} {p : Addr} {o : HO} (h : H p = none) : Same H (upd H p o) := fun a u e => by
  rw [upd_ne (ne_of_none e h)]; exact e

/-! ### data in a heap -/
def kD : Key → PyData
  | .inl i => .int i
  | .inr x => .str x
/-- the script, as a datum of its own -/
def scD (ns : List Int) : PyData := .dict ((.none, .none) :: ns.map fun n => (.int n, .none))
mutual
inductive Rp (K : PySem.W.Frag) (F : Hp) : V → PyData → Prop
  | non : Rp K F .non .none
  | bl (b : Bool) : Rp K F (.bl b) (.bool b)
  | int (i : Int) : Rp K F (.int i) (.int i)
  | str (x : Str) : Rp K F (.str x) (.str x)
  | lst {a : Addr} {xs : List V} {ds : List PyData} : F a = some (.lst xs) → RpAll K F xs ds → Rp K F (.ref a) (.list ds)
  | tup {a : Addr} {xs : List V} {ds : List PyData} : TupN K F a xs → RpAll K F xs ds → Rp K F (.ref a) (.tuple ds)
  | dct {a : Addr} {ks : List Key} {xs : List V} {ds : List PyData} {kvs : List (PyData × PyData)} : F a = some (.dK (ks.zip xs)) → ks.length = ds.length → RpAll K F xs ds → kvs = (ks.map kD).zip ds → Rp K F (.ref a) (.dict kvs)
  | scr {a : Addr} {ns : List Int} : SqL K F a (ns.map V.int) → Rp K F (.ref a) (scD ns)
inductive RpAll (K : PySem.W.Frag) (F : Hp) : List V → List PyData → Prop
  | nil : RpAll K F [] []
  | cons {v : V} {vs : List V} {d : PyData} {ds : List PyData} : Rp K F v d → RpAll K F vs ds → RpAll K F (v :: vs) (d :: ds)
end
section
variable {K : PySem.W.Frag}
theorem sameT {H H' : Hp} {a : Addr} {xs : List V} (e : Same H H') (h : SqT K H a xs) : SqT K H' a xs := by
  rcases h with (h | ⟨o, h⟩) | h
  · exact .inl (.inl (e _ _ h))
  · exact .inl (.inr ⟨o, e _ _ h⟩)
  · exact .inr h
theorem sameN {H H' : Hp} {a : Addr} {xs : List V} (e : Same H H') (h : TupN K H a xs) : TupN K H' a xs := by
  rcases h with ⟨o, h, hd⟩ | h
  · exact .inl ⟨o, e _ _ h, hd⟩
  · exact .inr h
mutual
theorem Rp.mono {F F' : Hp} (s : Same F F') : ∀ {d : PyData} {v : V}, Rp K F v d → Rp K F' v d
  | _, _, .non => .non
  | _, _, .bl b => .bl b
  | _, _, .int b => .int b
  | _, _, .str b => .str b
  | _, _, .lst h t => .lst (s _ _ h) (RpAll.mono s t)
  | _, _, .tup h t => .tup (sameN s h) (RpAll.mono s t)
  | _, _, .dct h l t e => .dct (s _ _ h) l (RpAll.mono s t) e
  | _, _, .scr h => .scr (Same.seq s h)
theorem RpAll.mono {F F' : Hp} (s : Same F F') : ∀ {ds : List PyData} {vs : List V}, RpAll K F vs ds → RpAll K F' vs ds
  | _, _, .nil => .nil
  | _, _, .cons h t => .cons (Rp.mono s h) (RpAll.mono s t)
end
mutual
theorem Rp.dp {F : Hp} : ∀ (d : PyData) {v : V}, Rp K F v d → d.canLay0 = true → Dp K F v d
  | .none, _, .non, _ => .non
  | .bool _, _, .bl b, _ => .bl b
  | .int _, _, .int b, _ => .int b
  | .str _, _, .str b, _ => .str b
  | .list ds, _, .lst h t, c => .lst (SqL.of h) (RpAll.dp ds t (by simpa [PyData.canLay0] using c))
  | .tuple ds, _, .tup h t, c => .tup h.sq (RpAll.dp ds t (by simpa [PyData.canLay0] using c))
  | .dict _, _, .dct _ _ _ _, c => by simp [PyData.canLay0] at c
  | _, _, .scr _, c => by simp [scD, PyData.canLay0] at c
theorem RpAll.dp {F : Hp} : ∀ (ds : List PyData) {vs : List V}, RpAll K F vs ds → PyData.canLayAll0 ds = true → DpAll K F vs ds
  | [], _, .nil, _ => .nil
  | d :: ds, _, .cons h t, c => by
    have c : d.canLay0 = true ∧ PyData.canLayAll0 ds = true := by simpa [PyData.canLayAll0] using c
    exact .cons (Rp.dp d h c.1) (RpAll.dp ds t c.2)
end
theorem RpAll.length {F : Hp} : ∀ {ds : List PyData} {vs : List V}, RpAll K F vs ds → vs.length = ds.length
  | _, _, .nil => rfl
  | _, _, .cons _ h => by simp [RpAll.length h]
theorem RpAll.get {F : Hp} : ∀ {ds : List PyData} {vs : List V} {i : Nat} {v : V}, RpAll K F vs ds → vs[i]? = some v → ∃ d, ds[i]? = some d ∧ Rp K F v d
  | _, _, _, _, .nil, e => by simp at e
  | _, _, 0, _, .cons h _, e => by simp at e; subst e; exact ⟨_, rfl, h⟩
  | _, _, i + 1, v, .cons _ t, e => by
    obtain ⟨d, h1, h2⟩ := RpAll.get (i := i) (v := v) t (by simpa using e)
    exact ⟨d, by simpa using h1, h2⟩
theorem RpAll.getd {F : Hp} : ∀ {ds : List PyData} {vs : List V} {i : Nat} {d : PyData}, RpAll K F vs ds → ds[i]? = some d → ∃ v, vs[i]? = some v ∧ Rp K F v d
  | _, _, _, _, .nil, e => by simp at e
  | _, _, 0, _, .cons h _, e => by simp at e; subst e; exact ⟨_, rfl, h⟩
  | _, _, i + 1, v, .cons _ t, e => by
    obtain ⟨d, h1, h2⟩ := RpAll.getd (i := i) (d := v) t (by simpa using e)
    exact ⟨d, by simpa using h1, h2⟩
theorem RpAll.append {F : Hp} : ∀ {ds es : List PyData} {vs ws : List V}, RpAll K F vs ds → RpAll K F ws es → RpAll K F (vs ++ ws) (ds ++ es)
  | _, _, _, _, .nil, h => h
  | _, _, _, _, .cons h t, q => .cons h (RpAll.append t q)
theorem RpAll.take {F : Hp} : ∀ {ds : List PyData} {vs : List V} (n : Nat), RpAll K F vs ds → RpAll K F (vs.take n) (ds.take n)
  | _, _, 0, _ => .nil
  | _, _, _ + 1, .nil => .nil
  | _, _, n + 1, .cons h t => .cons h (RpAll.take n t)
theorem RpAll.drop {F : Hp} : ∀ {ds : List PyData} {vs : List V} (n : Nat), RpAll K F vs ds → RpAll K F (vs.drop n) (ds.drop n)
  | _, _, 0, h => h
  | _, _, _ + 1, .nil => .nil
  | _, _, n + 1, .cons _ t => RpAll.drop n t
theorem RpAll.set {F : Hp} {v : V} {d : PyData} (h : Rp K F v d) : ∀ {ds : List PyData} {vs : List V} (n : Nat), RpAll K F vs ds → RpAll K F (vs.set n v) (ds.set n d)
  | _, _, _, .nil => .nil
  | _, _, 0, .cons _ t => .cons h t
  | _, _, n + 1, .cons q t => .cons q (RpAll.set h n t)
theorem RpAll.eraseIdx {F : Hp} : ∀ {ds : List PyData} {vs : List V} (n : Nat), RpAll K F vs ds → RpAll K F (vs.eraseIdx n) (ds.eraseIdx n)
  | _, _, _, .nil => .nil
  | _, _, 0, .cons _ t => t
  | _, _, n + 1, .cons q t => .cons q (RpAll.eraseIdx n t)
theorem RpAll.dropLast {F : Hp} {ds : List PyData} {vs : List V} (h : RpAll K F vs ds) : RpAll K F vs.dropLast ds.dropLast := by
  rw [List.dropLast_eq_take, List.dropLast_eq_take, h.length]
  exact h.take _
theorem RpAll.one {F : Hp} {v : V} {d : PyData} (h : Rp K F v d) : RpAll K F [v] [d] := .cons h .nil
theorem RpAll.reverse {F : Hp} : ∀ {ds : List PyData} {vs : List V}, RpAll K F vs ds → RpAll K F vs.reverse ds.reverse
  | _, _, .nil => .nil
  | _, _, .cons h t => by rw [List.reverse_cons, List.reverse_cons]; exact (RpAll.reverse t).append (.one h)
/-- what data is determines -/
theorem rp_ref {F : Hp} {v : V} {ds : List PyData} (h : Rp K F v (.list ds)) : ∃ a vs, v = .ref a ∧ F a = some (.lst vs) ∧ RpAll K F vs ds := by
  cases h with
  | lst hs ha => exact ⟨_, _, rfl, hs, ha⟩
theorem rp_tup {F : Hp} {v : V} {ds : List PyData} (h : Rp K F v (.tuple ds)) : ∃ a vs, v = .ref a ∧ SqT K F a vs ∧ RpAll K F vs ds := by
  cases h with
  | tup hs ha => exact ⟨_, _, rfl, hs.sq, ha⟩
theorem rp_tupN {F : Hp} {v : V} {ds : List PyData} (h : Rp K F v (.tuple ds)) : ∃ a vs, v = .ref a ∧ TupN K F a vs ∧ RpAll K F vs ds := by
  cases h with
  | tup hs ha => exact ⟨_, _, rfl, hs, ha⟩
theorem rp_int {F : Hp} {v : V} {i : Int} (h : Rp K F v (.int i)) : v = .int i := by cases h; rfl
theorem rp_bl {F : Hp} {v : V} {i : Bool} (h : Rp K F v (.bool i)) : v = .bl i := by cases h; rfl
theorem rp_str {F : Hp} {v : V} {i : Str} (h : Rp K F v (.str i)) : v = .str i := by cases h; rfl
theorem rp_non {F : Hp} {v : V} (h : Rp K F v .none) : v = .non := by cases h; rfl
end

/-! ### what a slot holds -/
structure Res where
  R : Hp → V → Hp → Prop
  mono : ∀ F F' v h, Same F F' → R F v h → R F' v h
inductive O where
  | fz (d : PyData)
  | ls (ds : List PyData)
  | dk (kvs : List (Key × PyData))
  | rs (r : Res)
  | tr (ts : List O)
  | td (ks : List Key) (ts : List O)
abbrev Ga := List (Option O)

section
variable (K : PySem.W.Frag)
def KvAll (F : Hp) (kv : List (Key × V)) (kd : List (Key × PyData)) : Prop := kv.map (·.1) = kd.map (·.1) ∧ RpAll K F (kv.map (·.2)) (kd.map (·.2))
mutual
def Own (F : Hp) : O → V → Hp → Prop
  | .fz d, v, h => h = emp ∧ Rp K F v d
  | .ls ds, v, h => ∃ a vs, v = .ref a ∧ h = one a (.lst vs) ∧ RpAll K F vs ds
  | .dk kvs, v, h => ∃ a kv, v = .ref a ∧ h = one a (.dK kv) ∧ KvAll K F kv kvs
  | .rs r, v, h => r.R F v h
  | .tr ts, v, h => ∃ a vs h', v = .ref a ∧ h = jn (one a (.lst vs)) h' ∧ Dis (one a (.lst vs)) h' ∧ OwnT F ts vs h'
  | .td ks ts, v, h => ∃ a vs h', v = .ref a ∧ h = jn (one a (.dK (ks.zip vs))) h' ∧ Dis (one a (.dK (ks.zip vs))) h' ∧ OwnT F ts vs h'
def OwnT (F : Hp) : List O → List V → Hp → Prop
  | [], vs, h => vs = [] ∧ h = emp
  | o :: ts, vs, h => ∃ v vr h1 h2, vs = v :: vr ∧ h = jn h1 h2 ∧ Dis h1 h2 ∧ Own F o v h1 ∧ OwnT F ts vr h2
end
def OwnS (F : Hp) : Ga → St → Hp → Prop
  | [], σ, h => σ = [] ∧ h = emp
  | none :: Γ, σ, h => ∃ x σ', σ = x :: σ' ∧ OwnS F Γ σ' h
  | some o :: Γ, σ, h => ∃ v σ' h1 h2, σ = some v :: σ' ∧ h = jn h1 h2 ∧ Dis h1 h2 ∧ Own K F o v h1 ∧ OwnS F Γ σ' h2
end
section
variable {K : PySem.W.Frag} {F F' : Hp}
mutual
theorem Own.mono (s : Same F F') : ∀ {o : O} {v : V} {h : Hp}, Own K F o v h → Own K F' o v h
  | .fz _, _, _, hh => by
    unfold Own at hh ⊢
    exact ⟨hh.1, Rp.mono s hh.2⟩
  | .ls _, _, _, hh => by
    unfold Own at hh ⊢
    obtain ⟨a, vs, e1, e2, h⟩ := hh
    exact ⟨a, vs, e1, e2, RpAll.mono s h⟩
  | .dk _, _, _, hh => by
    unfold Own at hh ⊢
    obtain ⟨a, vs, e1, e2, e3, h⟩ := hh
    exact ⟨a, vs, e1, e2, e3, RpAll.mono s h⟩
  | .rs r, _, _, hh => by
    unfold Own at hh ⊢
    exact r.mono _ _ _ _ s hh
  | .tr ts, _, _, hh => by
    unfold Own at hh ⊢
    obtain ⟨a, vs, h', e1, e2, d, q⟩ := hh
    exact ⟨a, vs, h', e1, e2, d, OwnT.mono s q⟩
  | .td ks ts, _, _, hh => by
    unfold Own at hh ⊢
    obtain ⟨a, vs, h', e1, e2, d, q⟩ := hh
    exact ⟨a, vs, h', e1, e2, d, OwnT.mono s q⟩
theorem OwnT.mono (s : Same F F') : ∀ {ts : List O} {vs : List V} {h : Hp}, OwnT K F ts vs h → OwnT K F' ts vs h
  | [], _, _, hh => by
    unfold OwnT at hh ⊢
    exact hh
  | o :: ts, _, _, hh => by
    unfold OwnT at hh ⊢
    obtain ⟨v, vr, h1, h2, e1, e2, d, w, q⟩ := hh
    exact ⟨v, vr, h1, h2, e1, e2, d, Own.mono s w, OwnT.mono s q⟩
end
theorem own_fz {d : PyData} {v : V} {h : Hp} : Own K F (.fz d) v h ↔ h = emp ∧ Rp K F v d := by unfold Own; exact Iff.rfl
theorem own_ls {ds : List PyData} {v : V} {h : Hp} : Own K F (.ls ds) v h ↔ ∃ a vs, v = .ref a ∧ h = one a (.lst vs) ∧ RpAll K F vs ds := by unfold Own; exact Iff.rfl
theorem own_tr {ts : List O} {v : V} {h : Hp} : Own K F (.tr ts) v h ↔ ∃ a vs h', v = .ref a ∧ h = jn (one a (.lst vs)) h' ∧ Dis (one a (.lst vs)) h' ∧ OwnT K F ts vs h' := by rw [Own]
theorem own_td {ks : List Key} {ts : List O} {v : V} {h : Hp} : Own K F (.td ks ts) v h ↔ ∃ a vs h', v = .ref a ∧ h = jn (one a (.dK (ks.zip vs))) h' ∧ Dis (one a (.dK (ks.zip vs))) h' ∧ OwnT K F ts vs h' := by rw [Own]
theorem OwnS.mono (s : Same F F') : ∀ {Γ : Ga} {σ : St} {h : Hp}, OwnS K F Γ σ h → OwnS K F' Γ σ h
  | [], _, _, h => h
  | none :: _, _, _, ⟨x, σ', e, h⟩ => ⟨x, σ', e, OwnS.mono s h⟩
  | some _ :: _, _, _, ⟨v, σ', h1, h2, e, e2, d, o, h⟩ => ⟨v, σ', h1, h2, e, e2, d, o.mono s, OwnS.mono s h⟩
theorem OwnS.len : ∀ {Γ : Ga} {σ : St} {h : Hp}, OwnS K F Γ σ h → Γ.length = σ.length
  | [], _, _, h => by rw [h.1]; rfl
  | none :: _, _, _, ⟨x, σ', e, h⟩ => by rw [e]; simp [OwnS.len h]
  | some _ :: _, _, _, ⟨v, σ', h1, h2, e, e2, d, o, h⟩ => by rw [e]; simp [OwnS.len h]
/-- a slot taken out, and put back in another state -/
theorem OwnS.focus : ∀ {Γ : Ga} {σ : St} {h : Hp} {i : Nat} {o : O}, OwnS K F Γ σ h → Γ[i]? = some (some o) →
    ∃ v h1 h2, σ[i]? = some (some v) ∧ h = jn h1 h2 ∧ Dis h1 h2 ∧ Own K F o v h1 ∧
      ∀ F' o' v' h1', Same F F' → Own K F' o' v' h1' → Dis h1' h2 → OwnS K F' (Γ.set i (some o')) (σ.set i (some v')) (jn h1' h2)
  | [], _, _, _, _, _, e => by simp at e
  | none :: Γ, _, h, 0, o, _, e => by simp at e
  | none :: Γ, _, h, i + 1, o, ⟨x, σ', e0, q⟩, e => by
    obtain ⟨v, h1, h2, a1, a2, a3, a4, a5⟩ := OwnS.focus (i := i) (o := o) q (by simpa using e)
    refine ⟨v, h1, h2, by rw [e0]; simpa using a1, a2, a3, a4, fun F' o' v' h1' s w d => ?_⟩
    rw [e0]
    exact ⟨x, _, rfl, a5 F' o' v' h1' s w d⟩
  | some o :: Γ, _, h, 0, o', ⟨v, σ', h1, h2, e0, e2, d, w, q⟩, e => by
    have eo : o = o' := by simpa using e
    subst eo
    refine ⟨v, h1, h2, by rw [e0]; rfl, e2, d, w, fun F' o' v' h1' s w' d' => ?_⟩
    rw [e0]
    exact ⟨v', σ', h1', h2, rfl, rfl, d', w', q.mono s⟩
  | some o :: Γ, _, h, i + 1, o', ⟨v, σ', g1, g2, e0, e2, d, w, q⟩, e => by
    obtain ⟨u, h1, h2, a1, a2, a3, a4, a5⟩ := OwnS.focus (i := i) (o := o') q (by simpa using e)
    subst a2
    have d1 : Dis g1 h1 := (Dis.sub same_l d.symm).symm
    have d2 : Dis g1 h2 := (Dis.sub (same_r a3) d.symm).symm
    refine ⟨u, h1, jn g1 h2, by rw [e0]; simpa using a1, ?_, (Dis.jn d1 a3.symm).symm, a4, fun F' o' v' h1' s w' d' => ?_⟩
    · rw [e2, ← jn_assoc, jn_comm d1, jn_assoc]
    · rw [e0]
      have f1 : Dis h1' g1 := (Dis.sub same_l d'.symm).symm
      have f2 : Dis h1' h2 := (Dis.sub (same_r d2) d'.symm).symm
      refine ⟨v, _, g1, jn h1' h2, rfl, ?_, (Dis.jn f1 d2.symm).symm, w.mono s, a5 F' o' v' h1' s w' f2⟩
      rw [← jn_assoc, jn_comm f1, jn_assoc]
/-- a slot stored anew (what it held is dropped) -/
theorem OwnS.put : ∀ {Γ : Ga} {σ : St} {h : Hp} {i : Nat}, OwnS K F Γ σ h → i < Γ.length →
    ∃ h2, Same h2 h ∧ (∀ F' o' v' h1', Same F F' → Own K F' o' v' h1' → Dis h1' h2 → OwnS K F' (Γ.set i (some o')) (σ.set i (some v')) (jn h1' h2)) ∧
      (∀ x, OwnS K F (Γ.set i none) (σ.set i x) h2)
  | [], _, _, _, _, e => by simp at e
  | none :: Γ, _, h, 0, ⟨x, σ', e0, q⟩, _ => by
    refine ⟨h, Same.refl _, fun F' o' v' h1' s w d => ?_, fun y => ?_⟩
    · rw [e0]; exact ⟨v', σ', h1', h, rfl, rfl, d, w, q.mono s⟩
    · rw [e0]; exact ⟨y, σ', rfl, q⟩
  | none :: Γ, _, h, i + 1, ⟨x, σ', e0, q⟩, e => by
    obtain ⟨h2, s2, a, b⟩ := OwnS.put (i := i) q (by simpa using e)
    refine ⟨h2, s2, fun F' o' v' h1' s w d => ?_, fun y => ?_⟩
    · rw [e0]; exact ⟨x, _, rfl, a F' o' v' h1' s w d⟩
    · rw [e0]; exact ⟨x, _, rfl, b y⟩
  | some o :: Γ, _, h, 0, ⟨v, σ', h1, h2, e0, e2, d, w, q⟩, _ => by
    refine ⟨h2, by rw [e2]; exact same_r d, fun F' o' v' h1' s w' d' => ?_, fun y => ?_⟩
    · rw [e0]; exact ⟨v', σ', h1', h2, rfl, rfl, d', w', q.mono s⟩
    · rw [e0]; exact ⟨y, σ', rfl, q⟩
  | some o :: Γ, _, h, i + 1, ⟨v, σ', g1, g2, e0, e2, d, w, q⟩, e => by
    obtain ⟨h2, s2, a, b⟩ := OwnS.put (i := i) q (by simpa using e)
    have d2 : Dis g1 h2 := (Dis.sub s2 d.symm).symm
    refine ⟨jn g1 h2, ?_, fun F' o' v' h1' s w' d' => ?_, fun y => ?_⟩
    · rw [e2]; exact same_jn same_l fun a o e => same_r d _ _ (s2 _ _ e)
    · rw [e0]
      have f1 : Dis h1' g1 := (Dis.sub same_l d'.symm).symm
      have f2 : Dis h1' h2 := (Dis.sub (same_r d2) d'.symm).symm
      refine ⟨v, _, g1, jn h1' h2, rfl, ?_, (Dis.jn f1 d2.symm).symm, w.mono s, a F' o' v' h1' s w' f2⟩
      rw [← jn_assoc, jn_comm f1, jn_assoc]
    · rw [e0]; exact ⟨v, _, g1, h2, rfl, rfl, d2, w, b y⟩
end

/-! ### the state -/
structure At (K : PySem.W.Frag) (pn : List (Nat × V)) (Z F : Hp) (Γ : Ga) (σ : St) (h H : Hp) : Prop where
  own : OwnS K F Γ σ h
  hH : Same h H
  FH : Same F H
  ZH : Same Z H
  FZ : Dis F Z
  hF : Dis h F
  hZ : Dis h Z
  pin : ∀ p ∈ pn, σ[p.1]? = some (some p.2)
/-- .. with a part of its own beside -/
structure AtR (K : PySem.W.Frag) (pn : List (Nat × V)) (Z F : Hp) (Γ : Ga) (σ : St) (h hr H : Hp) : Prop where
  at_ : At K pn Z F Γ σ h H
  rH : Same hr H
  rh : Dis hr h
  rF : Dis hr F
  rZ : Dis hr Z
/-- growth -/
structure Grow (F H F' H' : Hp) : Prop where
  fs : Same F F'
  fh : Same F' H'
  hh : Same H H'
  nw : ∀ a, F' a ≠ none → F a ≠ none ∨ H a = none
theorem Grow.refl {F H : Hp} (s : Same F H) : Grow F H F H := ⟨Same.refl _, s, Same.refl _, fun _ h => .inl h⟩
theorem Grow.new {F H : Hp} {p : Addr} {o : HO} (s : Same F H) (h : H p = none) : Grow F H (upd F p o) (upd H p o) := by
  refine ⟨same_new (s.free h), fun a u e => ?_, same_new h, fun a e => ?_⟩
  · by_cases z : a = p
    · subst z; rw [upd_same] at e ⊢; exact e
    · rw [upd_ne z] at e ⊢; exact s _ _ e
  · by_cases z : a = p
    · subst z; exact .inr h
    · rw [upd_ne z] at e; exact .inl e
theorem Grow.trans {F H F1 H1 F2 H2 : Hp} (a : Grow F H F1 H1) (b : Grow F1 H1 F2 H2) : Grow F H F2 H2 := by
  refine ⟨a.fs.trans b.fs, b.fh, a.hh.trans b.hh, fun x e => ?_⟩
  rcases b.nw x e with z | z
  · exact a.nw x z
  · exact .inr (a.hh.free z)
theorem Grow.stay {F H H' : Hp} (s : Same F H) (hh : Same H H') : Grow F H F H' := ⟨Same.refl _, s.trans hh, hh, fun _ h => .inl h⟩
section
variable {K : PySem.W.Frag} {pn : List (Nat × V)} {Z F F' : Hp} {Γ : Ga} {σ : St} {h hr H H' : Hp}
theorem dis_grow {k : Hp} (d : Dis F k) (s : Same k H) (g : Grow F H F' H') : Dis F' k := fun a => by
  cases e : F' a with
  | none => exact .inl rfl
  | some o =>
    right
    rcases g.nw a (by rw [e]; simp) with z | z
    · rcases d a with y | y
      · exact absurd y z
      · exact y
    · exact s.free z
theorem At.grow (A : At K pn Z F Γ σ h H) (g : Grow F H F' H') : At K pn Z F' Γ σ h H' :=
  ⟨A.own.mono g.fs, A.hH.trans g.hh, g.fh, A.ZH.trans g.hh, dis_grow A.FZ A.ZH g, (dis_grow A.hF.symm A.hH g).symm, A.hZ, A.pin⟩
theorem At.alone (A : At K pn Z F Γ σ h H) : AtR K pn Z F Γ σ h emp H := ⟨A, same_emp, Dis.emp, Dis.emp, Dis.emp⟩
/-- a part that is new beside -/
theorem At.beside (A : At K pn Z F Γ σ h H) (g : Grow F H F' H') (s : Same hr H') (dF : Dis hr F') (nw : ∀ a, hr a ≠ none → H a = none) : AtR K pn Z F' Γ σ h hr H' := by
  refine ⟨A.grow g, s, fun a => ?_, dF, fun a => ?_⟩
  · cases e : hr a with
    | none => exact .inl rfl
    | some o => exact .inr (A.hH.free (nw a (by rw [e]; simp)))
  · cases e : hr a with
    | none => exact .inl rfl
    | some o => exact .inr (A.ZH.free (nw a (by rw [e]; simp)))
end

/-! ### freezing -/
mutual
def O.frz : O → Option PyData
  | .fz d => some d
  | .ls ds => some (.list ds)
  | .dk kvs => some (.dict (kvs.map fun p => (kD p.1, p.2)))
  | .rs _ => none
  | .tr ts => match O.frzs ts with
    | some ds => some (.list ds)
    | none => none
  | .td _ _ => none
def O.frzs : List O → Option (List PyData)
  | [] => some []
  | o :: ts => match O.frz o, O.frzs ts with
    | some d, some ds => some (d :: ds)
    | _, _ => none
end
theorem zip_fst_snd {α β : Type} : ∀ l : List (α × β), (l.map (·.1)).zip (l.map (·.2)) = l
  | [] => rfl
  | (a, b) :: l => by simp [zip_fst_snd l]
section
variable {K : PySem.W.Frag} {pn : List (Nat × V)} {Z F F' : Hp} {Γ : Ga} {σ : St} {h hr H H' : Hp} {v : V} {o : O} {d : PyData}
mutual
/-- over any heap that has the part and the frozen one -/
theorem Own.frzG {G : Hp} (sF : Same F G) : ∀ {o : O} {v : V} {hr : Hp} {d : PyData}, Own K F o v hr → Same hr G → o.frz = some d → Rp K G v d
  | .fz d', _, _, _, w, _, e => by
    cases e
    exact Rp.mono sF (own_fz.mp w).2
  | .ls ds, _, _, _, w, s, e => by
    cases e
    obtain ⟨a, vs, rfl, rfl, q⟩ := own_ls.mp w
    exact .lst (s _ _ one_at) (RpAll.mono sF q)
  | .dk kvs, _, _, _, w, s, e => by
    cases e
    unfold Own at w
    obtain ⟨a, kv, rfl, rfl, e1, q⟩ := w
    refine .dct (ks := kv.map (·.1)) (xs := kv.map (·.2)) (ds := kvs.map (·.2)) ?_ (by rw [e1]; simp) (RpAll.mono sF q) ?_
    · rw [zip_fst_snd]; exact s _ _ one_at
    · rw [e1, List.map_map, List.zip_map']; rfl
  | .rs _, _, _, _, _, _, e => by cases e
  | .td _ _, _, _, _, _, _, e => by cases e
  | .tr ts, _, _, _, w, s, e => by
    obtain ⟨a, vs, h', rfl, rfl, dd, q⟩ := own_tr.mp w
    unfold O.frz at e
    split at e
    · rename_i ds e1
      cases e
      exact .lst (s _ _ (jn_l one_at)) (OwnT.frzG sF q (fun x u z => s _ _ (same_r dd _ _ z)) e1)
    · cases e
theorem OwnT.frzG {G : Hp} (sF : Same F G) : ∀ {ts : List O} {vs : List V} {hr : Hp} {ds : List PyData}, OwnT K F ts vs hr → Same hr G → O.frzs ts = some ds → RpAll K G vs ds
  | [], _, _, _, w, _, e => by
    unfold OwnT at w
    obtain ⟨rfl, _⟩ := w
    cases e; exact .nil
  | o :: ts, _, _, _, w, s, e => by
    unfold OwnT at w
    obtain ⟨v, vr, h1, h2, rfl, rfl, dd, w1, q⟩ := w
    unfold O.frzs at e
    split at e
    · rename_i d ds e1 e2
      cases e
      exact .cons (Own.frzG sF w1 (fun x u z => s _ _ (same_l _ _ z)) e1) (OwnT.frzG sF q (fun x u z => s _ _ (same_r dd _ _ z)) e2)
    · cases e
end
theorem Own.frz (w : Own K F o v hr) (e : o.frz = some d) (df : Dis hr F) : ∃ F', Same F F' ∧ F' = jn hr F ∧ Rp K F' v d :=
  ⟨jn hr F, same_r df, rfl, w.frzG (same_r df) same_l e⟩
/-- the part beside frozen -/
theorem AtR.frz (A : AtR K pn Z F Γ σ h hr H) (w : Own K F o v hr) (e : o.frz = some d) : ∃ F', Same F F' ∧ At K pn Z F' Γ σ h H ∧ Rp K F' v d := by
  obtain ⟨F', s, rfl, q⟩ := w.frz e A.rF
  exact ⟨_, s, ⟨A.at_.own.mono s, A.at_.hH, same_jn A.rH A.at_.FH, A.at_.ZH, Dis.jn A.rZ A.at_.FZ, (Dis.jn A.rh A.at_.hF.symm).symm, A.at_.hZ, A.at_.pin⟩, q⟩
theorem set_self {α : Type} {l : List α} {i : Nat} {x : α} (e : l[i]? = some x) : l.set i x = l := by
  apply List.ext_getElem?
  intro j
  by_cases z : i = j
  · subst z
    rw [List.getElem?_set_self (List.getElem?_eq_some_iff.mp e).1, e]
  · rw [List.getElem?_set_ne z]
/-- a slot frozen where it stands -/
theorem At.frzS {i : Nat} (A : At K pn Z F Γ σ h H) (e : Γ[i]? = some (some o)) (e2 : o.frz = some d) : ∃ F' h' v, Same F F' ∧ σ[i]? = some (some v) ∧ At K pn Z F' (Γ.set i (some (.fz d))) σ h' H ∧ Rp K F' v d := by
  obtain ⟨v, h1, h2, a1, rfl, a3, a4, a5⟩ := A.own.focus e
  have d1 : Dis h1 F := Dis.sub same_l A.hF
  obtain ⟨F', s, rfl, q⟩ := a4.frz e2 d1
  refine ⟨_, h2, v, s, a1, ⟨?_, fun x o z => A.hH _ _ (same_r a3 _ _ z), same_jn (fun x o z => A.hH _ _ (same_l _ _ z)) A.FH, A.ZH, Dis.jn (Dis.sub same_l A.hZ) A.FZ, ?_, Dis.sub (same_r a3) A.hZ, A.pin⟩, q⟩
  · have := a5 _ (.fz d) v emp s ⟨rfl, q⟩ Dis.emp
    rw [emp_jn, set_self a1] at this
    exact this
  · exact (Dis.jn a3 (Dis.sub (same_r a3) A.hF).symm).symm
/-- a slot's owned part taken out (the slot is empty then) -/
theorem At.move {i : Nat} (A : At K pn Z F Γ σ h H) (e : Γ[i]? = some (some o)) : ∃ h2 h1 v, σ[i]? = some (some v) ∧ Own K F o v h1 ∧ AtR K pn Z F (Γ.set i none) σ h2 h1 H := by
  have hlt : i < Γ.length := (List.getElem?_eq_some_iff.mp e).1
  obtain ⟨v, h1, h2, a1, rfl, a3, a4, a5⟩ := A.own.focus e
  have q := a5 F (.fz .none) .non emp (Same.refl _) ⟨rfl, .non⟩ Dis.emp
  obtain ⟨h3, s3, _, b⟩ := q.put (i := i) (by simpa using hlt)
  rw [emp_jn] at s3
  have b' := b (some v)
  rw [List.set_set, List.set_set, set_self a1] at b'
  have s32 : Same h3 (jn h1 h2) := fun x o z => same_r a3 _ _ (s3 _ _ z)
  refine ⟨h3, h1, v, a1, a4, ⟨⟨b', s32.trans A.hH, A.FH, A.ZH, A.FZ, Dis.sub s32 A.hF, Dis.sub s32 A.hZ, A.pin⟩, fun x o z => A.hH _ _ (same_l _ _ z), (Dis.sub s3 a3.symm).symm, Dis.sub same_l A.hF, Dis.sub same_l A.hZ⟩⟩
/-- a value stored in a slot -/
theorem AtR.store {i : Nat} (A : AtR K pn Z F Γ σ h hr H) (w : Own K F o v hr) (hi : i < Γ.length) (hp : ∀ p ∈ pn, p.1 ≠ i) : ∃ h', At K pn Z F (Γ.set i (some o)) (σ.set i (some v)) h' H := by
  obtain ⟨h2, s2, a, _⟩ := A.at_.own.put hi
  have d2 : Dis hr h2 := (Dis.sub s2 A.rh.symm).symm
  refine ⟨jn hr h2, a F o v hr (Same.refl _) w d2, same_jn A.rH (s2.trans A.at_.hH), A.at_.FH, A.at_.ZH, A.at_.FZ, Dis.jn A.rF (Dis.sub s2 A.at_.hF), Dis.jn A.rZ (Dis.sub s2 A.at_.hZ), fun p hm => ?_⟩
  rw [List.getElem?_set_ne (fun z => hp p hm z.symm)]
  exact A.at_.pin p hm
/-- an owned slot's content changed in place: the objects of its part anew -/
theorem At.change {i : Nat} (A : At K pn Z F Γ σ h H) (e : Γ[i]? = some (some o)) : ∃ v h1 h2, σ[i]? = some (some v) ∧ Own K F o v h1 ∧ Same h1 H ∧ Dis h1 F ∧ Dis h1 Z ∧ Same h2 H ∧ Dis h1 h2 ∧ Dis h2 F ∧ Dis h2 Z ∧
    ∀ F' o' h1' H', Same F F' → Own K F' o' v h1' → Same h1' H' → Same F' H' → Same h2 H' → Same Z H' → Dis F' Z → Dis h1' h2 → Dis h1' F' → Dis h1' Z → Dis h2 F' → At K pn Z F' (Γ.set i (some o')) σ (jn h1' h2) H' := by
  obtain ⟨v, h1, h2, a1, rfl, a3, a4, a5⟩ := A.own.focus e
  refine ⟨v, h1, h2, a1, a4, fun x o z => A.hH _ _ (same_l _ _ z), Dis.sub same_l A.hF, Dis.sub same_l A.hZ, fun x o z => A.hH _ _ (same_r a3 _ _ z), a3, Dis.sub (same_r a3) A.hF, Dis.sub (same_r a3) A.hZ, fun F' o' h1' H' s w s1 s2 s3 s4 d1 d2 d3 d4 d5 => ?_⟩
  have q := a5 F' o' v h1' s w d2
  rw [set_self a1] at q
  exact ⟨q, same_jn s1 s3, s2, s4, d1, Dis.jn d3 d5, Dis.jn d4 (Dis.sub (same_r a3) A.hZ), A.pin⟩
end
end VL
end
section
namespace VL
open PySem PySem.Spec L2

/-! ### arguments, readings -/
inductive Av where
  | d (x : PyData)
  | s (j : Nat)
def ArgRel (K : PySem.W.Frag) (F : Hp) (σ : St) : Av → V → Prop
  | .d x, v => Rp K F v x
  | .s j, v => σ[j]? = some (some v)
def rslv (Γ : Ga) : Av → Option PyData
  | .d x => some x
  | .s j => match Γ[j]? with
    | some (some (.fz d)) => some d
    | some (some (.ls ds)) => some (.list ds)
    | _ => none
def rsAll (Γ : Ga) : List Av → Option (List PyData)
  | [] => some []
  | a :: as => match rslv Γ a, rsAll Γ as with
    | some d, some ds => some (d :: ds)
    | _, _ => none
def unD : List Av → Option (List PyData)
  | [] => some []
  | .d x :: r => match unD r with
    | some xs => some (x :: xs)
    | none => none
  | .s _ :: _ => none
theorem unD_eq : ∀ {as : List Av} {ds : List PyData}, unD as = some ds → as = ds.map Av.d
  | [], _, h => by cases h; rfl
  | .d x :: r, ds, h => by
    unfold unD at h
    split at h
    · rename_i xs e
      cases h
      rw [unD_eq e]; rfl
    · cases h
  | .s _ :: _, _, h => by cases h
def nrm : Ga → Option Ga
  | [] => some []
  | x :: r => match nrm r with
    | some ys => some (x :: ys)
    | none => none
theorem nrm_eq : ∀ {Γ Γ' : Ga}, nrm Γ = some Γ' → Γ = Γ'
  | [], _, h => by cases h; rfl
  | x :: r, _, h => by
    unfold nrm at h
    split at h
    · rename_i ys e
      cases h
      rw [nrm_eq e]
    · cases h
def setG : Ga → Nat → Option O → Option Ga
  | [], _, _ => none
  | _ :: r, 0, o => some (o :: r)
  | x :: r, i + 1, o => match setG r i o with
    | some ys => some (x :: ys)
    | none => none
theorem setG_eq : ∀ {Γ Γ' : Ga} {i : Nat} {o : Option O}, setG Γ i o = some Γ' → Γ.set i o = Γ' ∧ i < Γ.length
  | [], _, _, _, h => by cases h
  | x :: r, _, 0, o, h => by cases h; exact ⟨rfl, by simp⟩
  | x :: r, Γ', i + 1, o, h => by
    unfold setG at h
    split at h
    · rename_i ys e
      cases h
      obtain ⟨h1, h2⟩ := setG_eq e
      exact ⟨by simp [h1], by simpa using h2⟩
    · cases h

def RepS (K : PySem.W.Frag) (F H : Hp) (d : PyData) (v : V) : Prop := Rp K F v d ∨ ∃ a vs ds, v = .ref a ∧ d = .list ds ∧ H a = some (.lst vs) ∧ RpAll K F vs ds
inductive RepL (K : PySem.W.Frag) (F H : Hp) : List PyData → List V → Prop
  | nil : RepL K F H [] []
  | cons {d : PyData} {v : V} {ds : List PyData} {vs : List V} : RepS K F H d v → RepL K F H ds vs → RepL K F H (d :: ds) (v :: vs)
abbrev EX := Ga → (Av → Ga → Prop) → Prop
abbrev EO := Ga → (O → Ga → Prop) → Prop
abbrev ET := Ga → (Bool → Ga → Prop) → Prop
abbrev EA := Ga → (List Av → Ga → Prop) → Prop
structure En where
  nx : Ga → Prop
  rt : O → Ga → Prop
  bk : Ga → Prop := fun _ => False
  ct : Ga → Prop := fun _ => False
abbrev ES := En → Ga → Prop
section
variable (K : PySem.W.Frag)
def lX (τ : EX) : TE := fun σ H QV => ∃ pn Z F Γ h Q, At K pn Z F Γ σ h H ∧ τ Γ Q ∧ ∀ F' Γ' h' H' a v, Same F F' → At K pn Z F' Γ' σ h' H' → ArgRel K F' σ a v → Q a Γ' → QV v H'
def lO (τ : EO) : TE := fun σ H QV => ∃ pn Z F Γ h Q, At K pn Z F Γ σ h H ∧ τ Γ Q ∧ ∀ F' Γ' h' hr H' o v, Same F F' → AtR K pn Z F' Γ' σ h' hr H' → Own K F' o v hr → Q o Γ' → QV v H'
def lT (τ : ET) : TT := fun σ H QV => ∃ pn Z F Γ h Q, At K pn Z F Γ σ h H ∧ τ Γ Q ∧ ∀ F' Γ' h' H' b, Same F F' → At K pn Z F' Γ' σ h' H' → Q b Γ' → QV b H'
def ArgsRel (F : Hp) (σ : St) : List Av → List V → Prop
  | [], vs => vs = []
  | a :: as, vs => ∃ v vr, vs = v :: vr ∧ ArgRel K F σ a v ∧ ArgsRel F σ as vr
def lA (τ : EA) : TA := fun σ H QV => ∃ pn Z F Γ h Q, At K pn Z F Γ σ h H ∧ τ Γ Q ∧ ∀ F' Γ' h' H' as vs, Same F F' → At K pn Z F' Γ' σ h' H' → ArgsRel K F' σ as vs → Q as Γ' → QV vs H'
def pns (io : Bool) (v0 : V) : List (Nat × V) := if io then [(0, v0)] else []
structure EnOk (pn : List (Nat × V)) (Z F : Hp) (DD : En) (D : Ends) : Prop where
  nx : ∀ F' Γ' σ' h' H', Same F F' → At K pn Z F' Γ' σ' h' H' → DD.nx Γ' → D.nx σ' H'
  bk : ∀ F' Γ' σ' h' H', Same F F' → At K pn Z F' Γ' σ' h' H' → DD.bk Γ' → D.bk σ' H'
  ct : ∀ F' Γ' σ' h' H', Same F F' → At K pn Z F' Γ' σ' h' H' → DD.ct Γ' → D.ct σ' H'
  rt : ∀ F' Γ' σ' h' hr H' o v, Same F F' → AtR K pn Z F' Γ' σ' h' hr H' → Own K F' o v hr → DD.rt o Γ' → D.rt v H'
def lS (io : Bool) (τ : ES) : TS := fun D σ H => ∃ v0 Z F Γ h DD, At K (pns io v0) Z F Γ σ h H ∧ τ DD Γ ∧ EnOk K (pns io v0) Z F DD D
end
theorem EnOk.mono {K : PySem.W.Frag} {pn : List (Nat × V)} {Z F F' : Hp} {DD : En} {D : Ends} (e : EnOk K pn Z F DD D) (s : Same F F') : EnOk K pn Z F' DD D :=
  ⟨fun _ _ _ _ _ t => e.nx _ _ _ _ _ (s.trans t), fun _ _ _ _ _ t => e.bk _ _ _ _ _ (s.trans t), fun _ _ _ _ _ t => e.ct _ _ _ _ _ (s.trans t), fun _ _ _ _ _ _ _ _ t => e.rt _ _ _ _ _ _ _ _ (s.trans t)⟩
theorem ArgRel.mono {K : PySem.W.Frag} {F F' : Hp} {σ : St} (s : Same F F') : ∀ {a : Av} {v : V}, ArgRel K F σ a v → ArgRel K F' σ a v
  | .d _, _, h => Rp.mono s h
  | .s _, _, h => h
theorem ArgsRel.mono {K : PySem.W.Frag} {F F' : Hp} {σ : St} (s : Same F F') : ∀ {as : List Av} {vs : List V}, ArgsRel K F σ as vs → ArgsRel K F' σ as vs
  | [], _, h => h
  | _ :: _, _, ⟨v, vr, e, h, t⟩ => ⟨v, vr, e, h.mono s, ArgsRel.mono s t⟩

section
variable {X : Cx} {e : Expr} {t t' : TE}
theorem pe_imp (h : PE X e t) (i : ∀ σ H Q, t' σ H Q → t σ H Q) : PE X e t' := ⟨fun pins s σ H Q I q => h.run pins s σ H Q I (i σ H Q q)⟩
theorem pt_imp {t t' : TT} (h : PT X e t) (i : ∀ σ H Q, t' σ H Q → t σ H Q) : PT X e t' := ⟨fun pins s σ H Q I q => h.run pins s σ H Q I (i σ H Q q)⟩
theorem pw_imp {t t' : TT} (h : PW X e t) (i : ∀ σ H Q, t' σ H Q → t σ H Q) : PW X e t' := ⟨fun wh pins s σ H Q I q => h.run wh pins s σ H Q I (i σ H Q q)⟩
theorem pa_imp {es : List Expr} {t t' : TA} (h : PA X es t) (i : ∀ σ H Q, t' σ H Q → t σ H Q) : PA X es t' := ⟨fun pos pins s σ H Q I q => h.run pos pins s σ H Q I (i σ H Q q)⟩
theorem ps_imp {st : Stmt} {t t' : TS} (h : PS X st t) (i : ∀ D σ H, t' D σ H → t D σ H) : PS X st t' := ⟨fun pins s σ H D I q => h.run pins s σ H D I (i D σ H q)⟩
theorem pss_imp {st : List Stmt} {t t' : TS} (h : PSs X st t) (i : ∀ D σ H, t' D σ H → t D σ H) : PSs X st t' := ⟨fun pins s σ H D I q => h.run pins s σ H D I (i D σ H q)⟩
theorem pg_imp {t t' : TG} (h : PG X e t) (i : ∀ v σ H Q, t' v σ H Q → t v σ H Q) : PG X e t' := ⟨fun pins s σ H v u Q I r q => h.run pins s σ H v u Q I r (i v σ H Q q)⟩
end

section
variable {K : PySem.W.Frag} {pn : List (Nat × V)} {Z F F' : Hp} {Γ : Ga} {σ : St} {h hr H H' : Hp} {v : V} {o : O} {d : PyData} {a : Av}
theorem At.slot {i : Nat} (A : At K pn Z F Γ σ h H) (e : Γ[i]? = some (some o)) : ∃ v h1, σ[i]? = some (some v) ∧ Own K F o v h1 ∧ Same h1 H ∧ Dis h1 F := by
  obtain ⟨v, h1, h2, a1, a2, a3, a4, _⟩ := A.own.focus e
  subst a2
  exact ⟨v, h1, a1, a4, fun x o z => A.hH _ _ (same_l _ _ z), Dis.sub same_l A.hF⟩
theorem rep_of (A : At K pn Z F Γ σ h H) (r : ArgRel K F σ a v) (e : rslv Γ a = some d) : RepS K F H d v := by
  cases a with
  | d x => cases e; exact .inl r
  | s j =>
    cases e1 : Γ[j]? with
    | none => simp [rslv, e1] at e
    | some x =>
      cases x with
      | none => simp [rslv, e1] at e
      | some o =>
        obtain ⟨u, h1, s1, w, s2, _⟩ := A.slot e1
        have r : σ[j]? = some (some v) := r
        rw [s1] at r; cases r
        cases o with
        | fz d' =>
          have e : some d' = some d := by simpa [rslv, e1] using e
          cases e
          exact .inl w.2
        | ls ds =>
          have e : some (PyData.list ds) = some d := by simpa [rslv, e1] using e
          cases e
          obtain ⟨a, vs, rfl, rfl, q⟩ := w
          exact .inr ⟨a, vs, ds, rfl, rfl, s2 _ _ one_at, q⟩
        | dk _ => simp [rslv, e1] at e
        | rs _ => simp [rslv, e1] at e
        | tr _ => simp [rslv, e1] at e
        | td _ _ => simp [rslv, e1] at e
theorem reps_of (A : At K pn Z F Γ σ h H) : ∀ {as : List Av} {vs : List V} {ds : List PyData}, ArgsRel K F σ as vs → rsAll Γ as = some ds → RepL K F H ds vs
  | [], _, ds, r, e => by cases e; cases r; exact .nil
  | a :: as, _, ds, ⟨v, vr, e0, r, t⟩, e => by
    unfold rsAll at e
    split at e
    · rename_i d ds' h1 h2
      cases e; cases e0
      exact .cons (rep_of A r h1) (reps_of A t h2)
    · cases e
theorem RepS.rpH (s : Same F H) (r : RepS K F H d v) : Rp K H v d := by
  rcases r with r | ⟨a, vs, ds, rfl, rfl, e, q⟩
  · exact Rp.mono s r
  · exact .lst e (RpAll.mono s q)
theorem RepS.list {ds : List PyData} (s : Same F H) (r : RepS K F H (.list ds) v) : ∃ a vs, v = .ref a ∧ H a = some (.lst vs) ∧ RpAll K F vs ds := by
  rcases r with r | ⟨a, vs, ds', rfl, e1, e, q⟩
  · obtain ⟨a, vs, rfl, h1, h2⟩ := rp_ref r
    exact ⟨a, vs, rfl, s _ _ h1, h2⟩
  · cases e1
    exact ⟨a, vs, rfl, e, q⟩
theorem RepS.tup {ds : List PyData} (s : Same F H) (r : RepS K F H (.tuple ds) v) : ∃ a vs, v = .ref a ∧ SqT K H a vs ∧ RpAll K F vs ds := by
  rcases r with r | ⟨a, vs, ds', rfl, e1, e, q⟩
  · obtain ⟨a, vs, rfl, h1, h2⟩ := rp_tup r
    exact ⟨a, vs, rfl, sameT s h1, h2⟩
  · cases e1
theorem RepS.int {i : Int} (r : RepS K F H (.int i) v) : v = .int i := by
  rcases r with r | ⟨a, vs, ds', rfl, e1, e, q⟩
  · exact rp_int r
  · cases e1
theorem RepS.bl {i : Bool} (r : RepS K F H (.bool i) v) : v = .bl i := by
  rcases r with r | ⟨a, vs, ds', rfl, e1, e, q⟩
  · exact rp_bl r
  · cases e1
theorem RepS.str {i : Str} (r : RepS K F H (.str i) v) : v = .str i := by
  rcases r with r | ⟨a, vs, ds', rfl, e1, e, q⟩
  · exact rp_str r
  · cases e1
theorem RepS.non (r : RepS K F H .none v) : v = .non := by
  rcases r with r | ⟨a, vs, ds', rfl, e1, e, q⟩
  · exact rp_non r
  · cases e1
end

/-- behind an operation on data: what it hands back is frozen or new -/
def OpPost (K : PySem.W.Frag) (F H : Hp) (Q : O → Prop) (QV : VK) : Prop := ∀ F' hr H' o v, Grow F H F' H' → Own K F' o v hr → Same hr H' → Dis hr F' → (∀ a, hr a ≠ none → H a = none) → Q o → QV v H'
section
variable {K : PySem.W.Frag} {F H : Hp} {Q : O → Prop} {QV : VK}
theorem OpPost.val (p : OpPost K F H Q QV) (s : Same F H) {d : PyData} {v : V} (r : Rp K F v d) (q : Q (.fz d)) : QV v H :=
  p F emp H (.fz d) v (Grow.refl s) ⟨rfl, r⟩ same_emp Dis.emp (fun _ z => absurd rfl z) q
theorem OpPost.newT (p : OpPost K F H Q QV) (s : Same F H) {ds : List PyData} {vs : List V} {a : Addr} {o : Obj} (n : H a = none) (hd : o.dict = none) (r : RpAll K F vs ds) (q : Q (.fz (.tuple ds))) : QV (.ref a) (upd H a (.frz o (.tup vs))) :=
  p _ emp _ (.fz (.tuple ds)) _ (Grow.new s n) ⟨rfl, .tup (.inl ⟨o, upd_same, hd⟩) (RpAll.mono (same_new (s.free n)) r)⟩ same_emp Dis.emp (fun _ z => absurd rfl z) q
theorem OpPost.newL (p : OpPost K F H Q QV) (s : Same F H) {ds : List PyData} {vs : List V} {a : Addr} (n : H a = none) (r : RpAll K F vs ds) (q : Q (.ls ds)) : QV (.ref a) (upd H a (.lst vs)) :=
  p _ (VL.one a (.lst vs)) _ (.ls ds) _ (Grow.stay s (same_new n)) ⟨a, vs, rfl, rfl, r⟩ (same_one upd_same) (dis_one (s.free n)) (fun x z => by
    by_cases e : x = a
    · subst e; exact n
    · rw [one_ne e] at z; exact absurd rfl z) q
end
def Op2 (X : Cx) (f : Value → Value → Sem Value) (op : PyData → PyData → (O → Prop) → Prop) : Prop :=
  OpR X f (fun x y H QV => ∃ F d1 d2 Q, Same F H ∧ RepS X.K F H d1 x ∧ RepS X.K F H d2 y ∧ op d1 d2 Q ∧ OpPost X.K F H Q QV)
def Ix2 (X : Cx) (op : PyData → PyData → (O → Prop) → Prop) : Prop :=
  IxR X (fun x y H QV => ∃ F d1 d2 Q, Same F H ∧ RepS X.K F H d1 x ∧ RepS X.K F H d2 y ∧ op d1 d2 Q ∧ OpPost X.K F H Q QV)
def Op1 (X : Cx) (f : Value → Sem Value) (op : PyData → (O → Prop) → Prop) : Prop :=
  UnR X f (fun x H QV => ∃ F d1 Q, Same F H ∧ RepS X.K F H d1 x ∧ op d1 Q ∧ OpPost X.K F H Q QV)
def CallD (X : Cx) (f : Value) (cd : List PyData → (O → Prop) → Prop) : Prop :=
  CallR X f (fun vs H QV => ∃ F ds Q, Same F H ∧ RepL X.K F H ds vs ∧ cd ds Q ∧ OpPost X.K F H Q QV)
def SlD (X : Cx) (sd : PyData → Option Int → Option Int → (O → Prop) → Prop) : Prop :=
  SlR X (fun x lo hi H QV => ∃ F d Q, Same F H ∧ RepS X.K F H d x ∧ sd d lo hi Q ∧ OpPost X.K F H Q QV)
/-- from an operation's end to the reading's -/
theorem At.post {K : PySem.W.Frag} {pn : List (Nat × V)} {Z F F2 : Hp} {Γ : Ga} {σ : St} {h H : Hp} {Q : O → Ga → Prop} {QV : VK} (A : At K pn Z F2 Γ σ h H) (s : Same F F2)
    (k : ∀ F' Γ' h' hr H' o v, Same F F' → AtR K pn Z F' Γ' σ h' hr H' → Own K F' o v hr → Q o Γ' → QV v H') : OpPost K F2 H (fun o => Q o Γ) QV :=
  fun F' hr H' o v g w sr d nw q => k F' Γ h hr H' o v (s.trans g.fs) (A.beside g sr d nw) w q

/-! ### the readings' words -/
def xVar (i : Nat) : EX := fun Γ Q => (∃ o, Γ[i]? = some (some o)) ∧ Q (.s i) Γ
def xVal (i : Nat) : EX := fun Γ Q => match Γ[i]? with
  | some (some (.fz d)) => Q (.d d) Γ
  | some (some o) => ∃ d Γ', o.frz = some d ∧ setG Γ i (some (.fz d)) = some Γ' ∧ Q (.d d) Γ'
  | _ => False
def xC (d : PyData) : EX := fun Γ Q => Q (.d d) Γ
def xO (τ : EO) : EX := fun Γ Q => τ Γ fun o Γ' => ∃ d, o.frz = some d ∧ Q (.d d) Γ'
def oX (τ : EX) : EO := fun Γ Q => τ Γ fun a Γ' => ∃ d, a = .d d ∧ Q (.fz d) Γ'
def oMv (i : Nat) : EO := fun Γ Q => match Γ[i]? with
  | some (some (.fz d)) => Q (.fz d) Γ
  | some (some o) => ∃ Γ', setG Γ i none = some Γ' ∧ Q o Γ'
  | _ => False
def eOp (op : PyData → PyData → (O → Prop) → Prop) (τa τb : EX) : EO := fun Γ Q => τa Γ fun a1 Γ1 => τb Γ1 fun a2 Γ2 => ∃ d1 d2, rslv Γ2 a1 = some d1 ∧ rslv Γ2 a2 = some d2 ∧ op d1 d2 fun o => Q o Γ2
def eOp1 (op : PyData → (O → Prop) → Prop) (τa : EX) : EO := fun Γ Q => τa Γ fun a1 Γ1 => ∃ d1, rslv Γ1 a1 = some d1 ∧ op d1 fun o => Q o Γ1
def aNil : EA := fun Γ Q => Q [] Γ
def aCons (τ : EX) (τs : EA) : EA := fun Γ Q => τ Γ fun a Γ1 => τs Γ1 fun as Γ2 => Q (a :: as) Γ2
def eCB (cd : List PyData → (O → Prop) → Prop) (τs : EA) : EO := fun Γ Q => τs Γ fun as Γ1 => ∃ ds, rsAll Γ1 as = some ds ∧ cd ds fun o => Q o Γ1
def eTup (τs : EA) : EO := fun Γ Q => τs Γ fun as Γ1 => ∃ ds, unD as = some ds ∧ ds.length ≤ sizeLine ∧ Q (.fz (.tuple ds)) Γ1
def eLst (τs : EA) : EO := fun Γ Q => τs Γ fun as Γ1 => ∃ ds, unD as = some ds ∧ ds.length ≤ sizeLine ∧ Q (.ls ds) Γ1
section
variable {X : Cx} {e a b : Expr} {es : List Expr} {pos : Pos} {τ τa τb : EX} {τo : EO} {τs : EA}
theorem vx_var (i : Nat) (h : PE X e (tVar i)) : PE X e (lX X.K (xVar i)) := pe_imp h fun σ H QV ⟨pn, Z, F, Γ, hh, Q, A, ⟨⟨o, e1⟩, q⟩, k⟩ => by
  obtain ⟨v, h1, s1, w, _⟩ := A.slot e1
  exact ⟨v, s1, k F Γ hh H (.s i) v (Same.refl _) A s1 q⟩
theorem vx_val (i : Nat) (h : PE X e (tVar i)) : PE X e (lX X.K (xVal i)) := pe_imp h fun σ H QV ⟨pn, Z, F, Γ, hh, Q, A, q, k⟩ => by
  unfold xVal at q
  split at q
  · rename_i d e1
    obtain ⟨v, h1, s1, w, _⟩ := A.slot e1
    exact ⟨v, s1, k F Γ hh H (.d d) v (Same.refl _) A w.2 q⟩
  · rename_i o _ e1
    obtain ⟨d, Γ', ez, eΓ, q⟩ := q
    obtain ⟨F', h', v, s, s1, A', r⟩ := A.frzS e1 ez
    rw [(setG_eq eΓ).1] at A'
    exact ⟨v, s1, k F' _ h' H (.d d) v s A' r q⟩
  · exact q.elim
theorem vx_c {v : V} {d : PyData} (h : PE X e (tC v)) (r : ∀ F, Rp X.K F v d) : PE X e (lX X.K (xC d)) := pe_imp h fun σ H QV ⟨pn, Z, F, Γ, hh, Q, A, q, k⟩ => k F Γ hh H (.d d) v (Same.refl _) A (r F) q
theorem vx_o (h : PE X e (lO X.K τo)) : PE X e (lX X.K (xO τo)) := pe_imp h fun σ H QV ⟨pn, Z, F, Γ, hh, Q, A, q, k⟩ =>
  ⟨pn, Z, F, Γ, hh, _, A, q, fun F' Γ' h' hr H' o v s A' w ⟨d, e1, q'⟩ => by
    obtain ⟨F2, s2, A2, r2⟩ := A'.frz w e1
    exact k F2 Γ' h' H' (.d d) v (s.trans s2) A2 r2 q'⟩
theorem vo_x (h : PE X e (lX X.K τ)) : PE X e (lO X.K (oX τ)) := pe_imp h fun σ H QV ⟨pn, Z, F, Γ, hh, Q, A, q, k⟩ =>
  ⟨pn, Z, F, Γ, hh, _, A, q, fun F' Γ' h' H' a v s A' r ⟨d, e1, q'⟩ => by
    subst e1
    exact k F' Γ' h' emp H' (.fz d) v s A'.alone ⟨rfl, r⟩ q'⟩
theorem vo_mv (i : Nat) (h : PE X e (tVar i)) : PE X e (lO X.K (oMv i)) := pe_imp h fun σ H QV ⟨pn, Z, F, Γ, hh, Q, A, q, k⟩ => by
  unfold oMv at q
  split at q
  · rename_i d e1
    obtain ⟨v, h1, s1, w, _⟩ := A.slot e1
    exact ⟨v, s1, k F Γ hh emp H (.fz d) v (Same.refl _) A.alone ⟨rfl, w.2⟩ q⟩
  · rename_i o _ e1
    obtain ⟨h2, h1, v, s1, w, A'⟩ := A.move e1
    obtain ⟨Γ', eΓ, q⟩ := q
    rw [(setG_eq eΓ).1] at A'
    exact ⟨v, s1, k F _ h2 h1 H _ v (Same.refl _) A' w q⟩
  · exact q.elim
theorem vo_op {op : Operator} {opd : PyData → PyData → (O → Prop) → Prop} (ho : Op2 X (binaryOp op) opd) (ha : PE X a (lX X.K τa)) (hb : PE X b (lX X.K τb)) : PE X (.BinOp a op b pos) (lO X.K (eOp opd τa τb)) :=
  pe_imp (pe_op ho ha hb) fun σ H QV ⟨pn, Z, F, Γ, hh, Q, A, q, k⟩ =>
    ⟨pn, Z, F, Γ, hh, _, A, q, fun F1 Γ1 h1 H1 a1 x s1 A1 r1 q1 => ⟨pn, Z, F1, Γ1, h1, _, A1, q1, fun F2 Γ2 h2 H2 a2 y s2 A2 r2 ⟨d1, d2, e1, e2, q2⟩ =>
      ⟨F2, d1, d2, _, A2.FH, rep_of A2 (r1.mono s2) e1, rep_of A2 r2 e2, q2, A2.post (s1.trans s2) k⟩⟩⟩
theorem vo_cmp {op : CmpOp} {opd : PyData → PyData → (O → Prop) → Prop} (ho : Op2 X (compareOp op) opd) (ha : PE X a (lX X.K τa)) (hb : PE X b (lX X.K τb)) (hm : behindInMarks op b = false) : PE X (.Compare a [op] [b] pos) (lO X.K (eOp opd τa τb)) :=
  pe_imp (pe_cmpR ho ha hb hm) fun σ H QV ⟨pn, Z, F, Γ, hh, Q, A, q, k⟩ =>
    ⟨pn, Z, F, Γ, hh, _, A, q, fun F1 Γ1 h1 H1 a1 x s1 A1 r1 q1 => ⟨pn, Z, F1, Γ1, h1, _, A1, q1, fun F2 Γ2 h2 H2 a2 y s2 A2 r2 ⟨d1, d2, e1, e2, q2⟩ =>
      ⟨F2, d1, d2, _, A2.FH, rep_of A2 (r1.mono s2) e1, rep_of A2 r2 e2, q2, A2.post (s1.trans s2) k⟩⟩⟩
def tO (τ : EO) : ET := fun Γ Q => τ Γ fun o Γ' => ∃ b, o = .fz (.bool b) ∧ Q b Γ'
theorem vt_cmp {op : CmpOp} {opd : PyData → PyData → (O → Prop) → Prop} (ho : Op2 X (compareOp op) opd) (ha : PE X a (lX X.K τa)) (hb : PE X b (lX X.K τb)) (hm : behindInMarks op b = false) : PT X (.Compare a [op] [b] pos) (lT X.K (tO (eOp opd τa τb))) :=
  pt_imp (pt_cmpR ho ha hb hm) fun σ H QV ⟨pn, Z, F, Γ, hh, Q, A, q, k⟩ =>
    ⟨pn, Z, F, Γ, hh, _, A, q, fun F1 Γ1 h1 H1 a1 x s1 A1 r1 q1 => ⟨pn, Z, F1, Γ1, h1, _, A1, q1, fun F2 Γ2 h2 H2 a2 y s2 A2 r2 ⟨d1, d2, e1, e2, q2⟩ =>
      ⟨F2, d1, d2, _, A2.FH, rep_of A2 (r1.mono s2) e1, rep_of A2 r2 e2, q2, fun F' hr H' o v g w sr d nw ⟨c, e3, q3⟩ => by
        subst e3
        exact ⟨c, rp_bl w.2, k F' Γ2 h2 H' c ((s1.trans s2).trans g.fs) (A2.grow g) q3⟩⟩⟩⟩
theorem vt_o (h : PE X e (lO X.K τo)) (he : ∀ whole, isTrue e X.env whole = (do let v ← whole; standAt e.pos; holding [v] (truthy v)) := by intro _; rfl) : PT X e (lT X.K (tO τo)) :=
  pt_imp (pt_val h he) fun σ H QV ⟨pn, Z, F, Γ, hh, Q, A, q, k⟩ =>
    ⟨pn, Z, F, Γ, hh, _, A, q, fun F' Γ' h' hr H' o v s A' w ⟨c, e3, q3⟩ => by
      subst e3
      exact ⟨c, rp_bl w.2, k F' Γ' h' H' c s A'.at_ q3⟩⟩
theorem vo_ix {opd : PyData → PyData → (O → Prop) → Prop} (ho : Ix2 X opd) (ha : PE X a (lX X.K τa)) (hb : PE X b (lX X.K τb)) (hs : PlainIx b := by intro _ _; rfl) : PE X (.Subscript a b pos) (lO X.K (eOp opd τa τb)) :=
  pe_imp (pe_ix ho ha hb hs) fun σ H QV ⟨pn, Z, F, Γ, hh, Q, A, q, k⟩ =>
    ⟨pn, Z, F, Γ, hh, _, A, q, fun F1 Γ1 h1 H1 a1 x s1 A1 r1 q1 => ⟨pn, Z, F1, Γ1, h1, _, A1, q1, fun F2 Γ2 h2 H2 a2 y s2 A2 r2 ⟨d1, d2, e1, e2, q2⟩ =>
      ⟨F2, d1, d2, _, A2.FH, rep_of A2 (r1.mono s2) e1, rep_of A2 r2 e2, q2, A2.post (s1.trans s2) k⟩⟩⟩
theorem vo_un {op : UnaryOp} {opd : PyData → (O → Prop) → Prop} (ho : Op1 X (unaryOp op) opd) (ha : PE X a (lX X.K τa)) : PE X (.UnaryOp op a pos) (lO X.K (eOp1 opd τa)) :=
  pe_imp (pe_un ho ha) fun σ H QV ⟨pn, Z, F, Γ, hh, Q, A, q, k⟩ =>
    ⟨pn, Z, F, Γ, hh, _, A, q, fun F1 Γ1 h1 H1 a1 x s1 A1 r1 ⟨d1, e1, q1⟩ => ⟨F1, d1, _, A1.FH, rep_of A1 r1 e1, q1, A1.post s1 k⟩⟩
theorem va_nil : PA X [] (lA X.K aNil) := pa_imp pa_nil fun σ H QV ⟨pn, Z, F, Γ, hh, Q, A, q, k⟩ => k F Γ hh H [] [] (Same.refl _) A rfl q
theorem va_cons (ha : PE X e (lX X.K τ)) (hr : PA X es (lA X.K τs)) (hs : starEach (e :: es) X.env = (false, eval e X.env) :: starEach es X.env := by rfl) : PA X (e :: es) (lA X.K (aCons τ τs)) :=
  pa_imp (pa_cons ha hr hs) fun σ H QV ⟨pn, Z, F, Γ, hh, Q, A, q, k⟩ =>
    ⟨pn, Z, F, Γ, hh, _, A, q, fun F1 Γ1 h1 H1 a1 x s1 A1 r1 q1 => ⟨pn, Z, F1, Γ1, h1, _, A1, q1, fun F2 Γ2 h2 H2 as vs s2 A2 r2 q2 =>
      k F2 Γ2 h2 H2 (a1 :: as) (x :: vs) (s1.trans s2) A2 ⟨x, vs, rfl, r1.mono s2, r2⟩ q2⟩⟩
theorem args_d {K : PySem.W.Frag} {F : Hp} {σ : St} : ∀ {ds : List PyData} {vs : List V}, ArgsRel K F σ (ds.map Av.d) vs → RpAll K F vs ds
  | [], _, h => by cases h; exact .nil
  | _ :: _, _, ⟨v, vr, e, h, t⟩ => by cases e; exact .cons h (args_d t)
theorem vo_tup {x1 : Nat} (h : PA X es (lA X.K τs)) : PE X (.Tuple es x1 pos) (lO X.K (eTup τs)) :=
  pe_imp (pe_tupN h) fun σ H QV ⟨pn, Z, F, Γ, hh, Q, A, q, k⟩ =>
    ⟨pn, Z, F, Γ, hh, _, A, q, fun F1 Γ1 h1 H1 as vs s1 A1 r1 ⟨ds, e1, z, q1⟩ => by
      rw [unD_eq e1] at r1
      have r := args_d r1
      exact ⟨by rw [r.length]; exact z, fun p o n hd => (A1.post s1 k).newT A1.FH n hd r q1⟩⟩
theorem vo_lst (h : PA X es (lA X.K τs)) : PE X (.List es pos) (lO X.K (eLst τs)) :=
  pe_imp (pe_lst h) fun σ H QV ⟨pn, Z, F, Γ, hh, Q, A, q, k⟩ =>
    ⟨pn, Z, F, Γ, hh, _, A, q, fun F1 Γ1 h1 H1 as vs s1 A1 r1 ⟨ds, e1, z, q1⟩ => by
      rw [unD_eq e1] at r1
      have r := args_d r1
      exact ⟨by rw [r.length]; exact z, fun p n => (A1.post s1 k).newL A1.FH n r q1⟩⟩
end
end VL
end
section
namespace VL
open PySem PySem.Spec L2

/-! ### two ways -/
def Br (c : Bool) (A B : Prop) : Prop := if c = true then A else B
theorem br_t {A B : Prop} (h : A) : Br true A B := by unfold Br; rw [if_pos rfl]; exact h
theorem br_f {A B : Prop} (h : B) : Br false A B := by unfold Br; rw [if_neg Bool.false_ne_true]; exact h
theorem br2 {c : Bool} {A B : Prop} (h1 : c = true → A) (h2 : c = false → B) : Br c A B := by
  cases c with
  | true => exact br_t (h1 rfl)
  | false => exact br_f (h2 rfl)
theorem of_br {c : Bool} {A B : Prop} (h : Br c A B) : if c = true then A else B := h

def tNotD (t : ET) : ET := fun Γ Q => t Γ fun b Γ' => Q (!b) Γ'
def tAndD (t u : ET) : ET := fun Γ Q => t Γ fun c Γ1 => Br c (u Γ1 Q) (Q false Γ1)
def tOrD (t u : ET) : ET := fun Γ Q => t Γ fun c Γ1 => Br c (Q true Γ1) (u Γ1 Q)
def eAnd (ta tb : EO) : EO := fun Γ Q => ta Γ fun o Γ1 => ∃ c, o = .fz (.bool c) ∧ Br c (tb Γ1 Q) (Q (.fz (.bool false)) Γ1)
def eOr (ta tb : EO) : EO := fun Γ Q => ta Γ fun o Γ1 => ∃ c, o = .fz (.bool c) ∧ Br c (Q (.fz (.bool true)) Γ1) (tb Γ1 Q)
def eNot (ta : EO) : EO := fun Γ Q => ta Γ fun o Γ1 => ∃ c, o = .fz (.bool c) ∧ Q (.fz (.bool (!c))) Γ1
def eIf (t : ET) (ta tb : EO) : EO := fun Γ Q => t Γ fun c Γ1 => Br c (ta Γ1 Q) (tb Γ1 Q)
def eChain (op op' : PyData → PyData → (O → Prop) → Prop) (τa τb τc : EX) : EO := fun Γ Q => τa Γ fun a1 Γ1 => τb Γ1 fun a2 Γ2 => ∃ d1 d2, rslv Γ2 a1 = some d1 ∧ a2 = .d d2 ∧ op d1 d2 fun o => ∃ c, o = .fz (.bool c) ∧
  Br c (τc Γ2 fun a3 Γ3 => ∃ d3, rslv Γ3 a3 = some d3 ∧ op' d2 d3 fun o => Q o Γ3) (Q (.fz (.bool false)) Γ2)
/-- truth of data -/
def truD : PyData → Option Bool
  | .none => some false
  | .bool b => some b
  | .int i => some (i != 0)
  | .str x => if x.length ≤ sizeLine then some ((x.length : Int) != 0) else none
  | .list ds => some (!ds.isEmpty)
  | .tuple ds => some (!ds.isEmpty)
  | .dict _ => none
def tTru (τ : EX) : ET := fun Γ Q => τ Γ fun a Γ1 => ∃ d k, rslv Γ1 a = some d ∧ truD d = some k ∧ Q k Γ1
section
variable {X : Cx} {e a b c : Expr} {es rest : List Expr} {pos : Pos} {τ τa τb τc : EX} {τo τo' : EO} {τs : EA} {t u : ET}
theorem vt_not (h : PT X a (lT X.K t)) : PT X (.UnaryOp .Not a pos) (lT X.K (tNotD t)) :=
  pt_imp (pt_not h) fun σ H QV ⟨pn, Z, F, Γ, hh, Q, A, q, k⟩ => ⟨pn, Z, F, Γ, hh, _, A, q, fun F' Γ' h' H' b s A' q' => k F' Γ' h' H' _ s A' q'⟩
theorem vw_and1 (h : PT X a (lT X.K t)) : PW X (.BoolOp .And [a] pos) (lT X.K t) := pw_and1 h
theorem vw_or1 (h : PT X a (lT X.K t)) : PW X (.BoolOp .Or [a] pos) (lT X.K t) := pw_or1 h
theorem vw_and (ha : PT X a (lT X.K t)) (hb : PW X (.BoolOp .And (b :: rest) pos) (lT X.K u)) : PW X (.BoolOp .And (a :: b :: rest) pos) (lT X.K (tAndD t u)) :=
  pw_imp (pw_and ha hb) fun σ H QV ⟨pn, Z, F, Γ, hh, Q, A, q, k⟩ => ⟨pn, Z, F, Γ, hh, _, A, q, fun F1 Γ1 h1 H1 c s1 A1 q1 => by
    have q1 := of_br q1
    cases c with
    | true => exact ⟨pn, Z, F1, Γ1, h1, Q, A1, q1, fun F' Γ' h' H' b s A' q' => k F' Γ' h' H' b (s1.trans s) A' q'⟩
    | false => exact k F1 Γ1 h1 H1 false s1 A1 q1⟩
theorem vw_or (ha : PT X a (lT X.K t)) (hb : PW X (.BoolOp .Or (b :: rest) pos) (lT X.K u)) : PW X (.BoolOp .Or (a :: b :: rest) pos) (lT X.K (tOrD t u)) :=
  pw_imp (pw_or ha hb) fun σ H QV ⟨pn, Z, F, Γ, hh, Q, A, q, k⟩ => ⟨pn, Z, F, Γ, hh, _, A, q, fun F1 Γ1 h1 H1 c s1 A1 q1 => by
    have q1 := of_br q1
    cases c with
    | true => exact k F1 Γ1 h1 H1 true s1 A1 q1
    | false => exact ⟨pn, Z, F1, Γ1, h1, Q, A1, q1, fun F' Γ' h' H' b s A' q' => k F' Γ' h' H' b (s1.trans s) A' q'⟩⟩
theorem vo_one {op} (h : PE X a (lO X.K τo)) : PE X (.BoolOp op [a] pos) (lO X.K τo) := pe_one h
theorem vo_and (ha : PE X a (lO X.K τo)) (hb : PE X (.BoolOp .And (b :: rest) pos) (lO X.K τo')) : PE X (.BoolOp .And (a :: b :: rest) pos) (lO X.K (eAnd τo τo')) :=
  pe_imp (pe_and ha hb) fun σ H QV ⟨pn, Z, F, Γ, hh, Q, A, q, k⟩ => ⟨pn, Z, F, Γ, hh, _, A, q, fun F1 Γ1 h1 hr H1 o v s1 A1 w ⟨c, e1, q1⟩ => by
    subst e1
    refine ⟨c, rp_bl w.2, ?_⟩
    have q1 := of_br q1
    cases c with
    | true => exact ⟨pn, Z, F1, Γ1, h1, Q, A1.at_, q1, fun F' Γ' h' hr' H' o v s A' w' q' => k F' Γ' h' hr' H' o v (s1.trans s) A' w' q'⟩
    | false => exact k F1 Γ1 h1 emp H1 (.fz (.bool false)) _ s1 A1.at_.alone ⟨rfl, .bl _⟩ q1⟩
theorem vo_or (ha : PE X a (lO X.K τo)) (hb : PE X (.BoolOp .Or (b :: rest) pos) (lO X.K τo')) : PE X (.BoolOp .Or (a :: b :: rest) pos) (lO X.K (eOr τo τo')) :=
  pe_imp (pe_or ha hb) fun σ H QV ⟨pn, Z, F, Γ, hh, Q, A, q, k⟩ => ⟨pn, Z, F, Γ, hh, _, A, q, fun F1 Γ1 h1 hr H1 o v s1 A1 w ⟨c, e1, q1⟩ => by
    subst e1
    refine ⟨c, rp_bl w.2, ?_⟩
    have q1 := of_br q1
    cases c with
    | true => exact k F1 Γ1 h1 emp H1 (.fz (.bool true)) _ s1 A1.at_.alone ⟨rfl, .bl _⟩ q1
    | false => exact ⟨pn, Z, F1, Γ1, h1, Q, A1.at_, q1, fun F' Γ' h' hr' H' o v s A' w' q' => k F' Γ' h' hr' H' o v (s1.trans s) A' w' q'⟩⟩
theorem vo_not (ha : PE X a (lO X.K τo)) : PE X (.UnaryOp .Not a pos) (lO X.K (eNot τo)) :=
  pe_imp (pe_not ha) fun σ H QV ⟨pn, Z, F, Γ, hh, Q, A, q, k⟩ => ⟨pn, Z, F, Γ, hh, _, A, q, fun F1 Γ1 h1 hr H1 o v s1 A1 w ⟨c, e1, q1⟩ => by
    subst e1
    exact ⟨c, rp_bl w.2, k F1 Γ1 h1 emp H1 (.fz (.bool (!c))) _ s1 A1.at_.alone ⟨rfl, .bl _⟩ q1⟩⟩
theorem vo_if (hc : PT X c (lT X.K t)) (ha : PE X a (lO X.K τo)) (hb : PE X b (lO X.K τo')) : PE X (.IfExp c a b pos) (lO X.K (eIf t τo τo')) :=
  pe_imp (pe_ifExp hc ha hb) fun σ H QV ⟨pn, Z, F, Γ, hh, Q, A, q, k⟩ => ⟨pn, Z, F, Γ, hh, _, A, q, fun F1 Γ1 h1 H1 c s1 A1 q1 => by
    have q1 := of_br q1
    cases c with
    | true => exact ⟨pn, Z, F1, Γ1, h1, Q, A1, q1, fun F' Γ' h' hr' H' o v s A' w' q' => k F' Γ' h' hr' H' o v (s1.trans s) A' w' q'⟩
    | false => exact ⟨pn, Z, F1, Γ1, h1, Q, A1, q1, fun F' Γ' h' hr' H' o v s A' w' q' => k F' Γ' h' hr' H' o v (s1.trans s) A' w' q'⟩⟩
theorem vo_chain {op op' : CmpOp} {opd opd' : PyData → PyData → (O → Prop) → Prop} (ho : Op2 X (compareOp op) opd) (ho' : Op2 X (compareOp op') opd') (ha : PE X a (lX X.K τa)) (hb : PE X b (lX X.K τb)) (hc : PE X c (lX X.K τc))
    (hm : lastMarks [op, op'] [b, c] = false := by with_unfolding_all rfl) : PE X (.Compare a [op, op'] [b, c] pos) (lO X.K (eChain opd opd' τa τb τc)) :=
  pe_imp (pe_chain ho ho' ha hb hc hm) fun σ H QV ⟨pn, Z, F, Γ, hh, Q, A, q, k⟩ => ⟨pn, Z, F, Γ, hh, _, A, q, fun F1 Γ1 h1 H1 a1 x s1 A1 r1 q1 => ⟨pn, Z, F1, Γ1, h1, _, A1, q1, fun F2 Γ2 h2 H2 a2 y s2 A2 r2 ⟨d1, d2, e1, e2, q2⟩ => by
    subst e2
    refine ⟨F2, d1, d2, _, A2.FH, rep_of A2 (r1.mono s2) e1, .inl r2, q2, fun F' hr H' o v g w sr d nw ⟨c, e3, q3⟩ => ?_⟩
    subst e3
    refine ⟨c, rp_bl w.2, ?_⟩
    have q3 := of_br q3
    have A3 : At _ pn Z F' Γ2 σ h2 H' := A2.grow g
    have s3 := (s1.trans s2).trans g.fs
    cases c with
    | true => exact ⟨pn, Z, F', Γ2, h2, _, A3, q3, fun F4 Γ4 h4 H4 a3 z s4 A4 r4 ⟨d3, e4, q4⟩ => ⟨F4, d2, d3, _, A4.FH, .inl (Rp.mono (g.fs.trans s4) r2), rep_of A4 r4 e4, q4, A4.post (s3.trans s4) k⟩⟩
    | false => exact k F' Γ2 h2 emp H' (.fz (.bool false)) _ s3 A3.alone ⟨rfl, .bl _⟩ q3⟩⟩
theorem vt_chain {op op' : CmpOp} {opd opd' : PyData → PyData → (O → Prop) → Prop} (ho : Op2 X (compareOp op) opd) (ho' : Op2 X (compareOp op') opd') (ha : PE X a (lX X.K τa)) (hb : PE X b (lX X.K τb)) (hc : PE X c (lX X.K τc))
    (hm : lastMarks [op, op'] [b, c] = false := by with_unfolding_all rfl) : PT X (.Compare a [op, op'] [b, c] pos) (lT X.K (tO (eChain opd opd' τa τb τc))) :=
  pt_imp (pt_chain ho ho' ha hb hc hm) fun σ H QV ⟨pn, Z, F, Γ, hh, Q, A, q, k⟩ => ⟨pn, Z, F, Γ, hh, _, A, q, fun F1 Γ1 h1 H1 a1 x s1 A1 r1 q1 => ⟨pn, Z, F1, Γ1, h1, _, A1, q1, fun F2 Γ2 h2 H2 a2 y s2 A2 r2 ⟨d1, d2, e1, e2, q2⟩ => by
    subst e2
    refine ⟨F2, d1, d2, _, A2.FH, rep_of A2 (r1.mono s2) e1, .inl r2, q2, fun F' hr H' o v g w sr d nw ⟨c, e3, q3⟩ => ?_⟩
    subst e3
    refine ⟨c, rp_bl w.2, ?_⟩
    have q3 := of_br q3
    have A3 : At _ pn Z F' Γ2 σ h2 H' := A2.grow g
    have s3 := (s1.trans s2).trans g.fs
    cases c with
    | true => exact ⟨pn, Z, F', Γ2, h2, _, A3, q3, fun F4 Γ4 h4 H4 a3 z s4 A4 r4 ⟨d3, e4, q4⟩ => ⟨F4, d2, d3, _, A4.FH, .inl (Rp.mono (g.fs.trans s4) r2), rep_of A4 r4 e4, q4, fun F5 hr5 H5 o5 v5 g5 w5 sr5 d5 nw5 ⟨c5, e5, q5⟩ => by
        subst e5
        exact ⟨c5, rp_bl w5.2, k F5 Γ4 h4 H5 c5 ((s3.trans s4).trans g5.fs) (A4.grow g5) q5⟩⟩⟩
    | false =>
      obtain ⟨c', e4, q4⟩ := q3
      cases e4
      exact ⟨false, rfl, k F' Γ2 h2 H' false s3 A3 q4⟩⟩⟩
theorem tru_of {K : PySem.W.Frag} {F H : Hp} {d : PyData} {v : V} {k : Bool} (s : Same F H) (r : RepS K F H d v) (e : truD d = some k) : TruV K v H k := by
  have r := r.rpH s
  cases r with
  | non => cases e; rfl
  | bl b => cases e; rfl
  | int i => cases e; rfl
  | str x =>
    have e : (if x.length ≤ sizeLine then some ((x.length : Int) != 0) else none) = some k := e
    by_cases z : x.length ≤ sizeLine
    · rw [if_pos z] at e; cases e; exact ⟨z, rfl⟩
    · rw [if_neg z] at e; cases e
  | @lst a xs ds hs ha =>
    cases e
    refine .inl ⟨xs, SqL.of hs, ?_⟩
    cases ha <;> rfl
  | @tup a xs ds hs ha =>
    cases e
    refine .inr (.inl ⟨xs, hs.sq, ?_⟩)
    cases ha <;> rfl
  | dct _ _ _ _ => cases e
  | scr _ => cases e
theorem vt_tru (h : PE X e (lX X.K τ)) (he : ∀ whole, isTrue e X.env whole = (do let v ← whole; standAt e.pos; holding [v] (truthy v)) := by intro _; rfl) : PT X e (lT X.K (tTru τ)) :=
  pt_imp (pt_truth h he) fun σ H QV ⟨pn, Z, F, Γ, hh, Q, A, q, k⟩ => ⟨pn, Z, F, Γ, hh, _, A, q, fun F1 Γ1 h1 H1 a1 x s1 A1 r1 ⟨d, b, e1, e2, q1⟩ => ⟨b, tru_of A1.FH (rep_of A1 r1 e1) e2, k F1 Γ1 h1 H1 b s1 A1 q1⟩⟩
end

/-! ### targets -/
abbrev EG := PyData → Ga → (Ga → Prop) → Prop
abbrev EGs := List PyData → Ga → (Ga → Prop) → Prop
def Only (ws : List Nat) (σ σ' : St) : Prop := ∀ vs : List Nat, (∀ i ∈ ws, i ∈ vs) → wipe σ' vs = wipe σ vs
def lG (K : PySem.W.Frag) (io : Bool) (ws : List Nat) (τ : EG) : TG := fun v σ H Q => ∃ v0 Z F Γ h d Qd, At K (pns io v0) Z F Γ σ h H ∧ Rp K F v d ∧ τ d Γ Qd ∧
  ∀ F' Γ' σ' h' H', Same F F' → Only ws σ σ' → At K (pns io v0) Z F' Γ' σ' h' H' → Qd Γ' → Q σ' H'
def lGs (K : PySem.W.Frag) (io : Bool) (ws : List Nat) (τ : EGs) : TGs := fun vs σ H Q => ∃ v0 Z F Γ h ds Qd, At K (pns io v0) Z F Γ σ h H ∧ RpAll K F vs ds ∧ τ ds Γ Qd ∧
  ∀ F' Γ' σ' h' H', Same F F' → Only ws σ σ' → At K (pns io v0) Z F' Γ' σ' h' H' → Qd Γ' → Q σ' H'
def gN (i : Nat) : EG := fun d Γ Q => ∃ Γ', setG Γ i (some (.fz d)) = some Γ' ∧ Q Γ'
def gNils : EGs := fun ds Γ Q => ds = [] ∧ Q Γ
def gConss (t : EG) (u : EGs) : EGs := fun ds Γ Q => ∃ d dr, ds = d :: dr ∧ t d Γ fun Γ1 => u dr Γ1 Q
def gTupD (n : Nat) (u : EGs) : EG := fun d Γ Q => ∃ ds, d = .tuple ds ∧ ds.length = n ∧ u ds Γ Q
theorem wipe_comm {σ : St} {i : Nat} {x : Option V} : ∀ {vs : List Nat}, i ∈ vs → wipe (σ.set i x) vs = wipe σ vs
  | [], h => nomatch h
  | v :: vs, h => by
    show (wipe (σ.set i x) vs).set v none = (wipe σ vs).set v none
    by_cases hm : i ∈ vs
    · rw [wipe_comm hm]
    · have e : i = v := by
        rcases List.mem_cons.mp h with z | z
        · exact z
        · exact absurd z hm
      subst e
      have wset : ∀ (ws : List Nat) (σ : St) (x : Option V), i ∉ ws → wipe (σ.set i x) ws = (wipe σ ws).set i x := by
        intro ws
        induction ws with
        | nil => intro σ x _; rfl
        | cons w ws ih =>
          intro σ x hw
          have hne : w ≠ i := fun z => hw (by simp [z])
          show (wipe (σ.set i x) ws).set w none = ((wipe σ ws).set w none).set i x
          rw [ih σ x fun z => hw (List.mem_cons_of_mem _ z), List.set_comm _ _ (Ne.symm hne)]
      rw [wset vs σ x hm, List.set_set]
theorem Only.refl {ws : List Nat} {σ : St} : Only ws σ σ := fun _ _ => rfl
theorem Only.trans {ws us : List Nat} {σ σ1 σ2 : St} (a : Only ws σ σ1) (b : Only us σ1 σ2) : Only (ws ++ us) σ σ2 := fun vs h =>
  (b vs fun i hi => h i (List.mem_append_right _ hi)).trans (a vs fun i hi => h i (List.mem_append_left _ hi))
theorem At.put {K : PySem.W.Frag} {pn : List (Nat × V)} {Z F : Hp} {Γ : Ga} {σ : St} {h H : Hp} {v : V} {d : PyData} {i : Nat} (A : At K pn Z F Γ σ h H) (r : Rp K F v d) (hi : i < Γ.length) (hp : ∀ p ∈ pn, p.1 ≠ i) :
    ∃ h', At K pn Z F (Γ.set i (some (.fz d))) (σ.set i (some v)) h' H := A.alone.store (o := .fz d) ⟨rfl, r⟩ hi hp
theorem pns_ne {io : Bool} {v0 : V} {i : Nat} (h : io = true → i ≠ 0) : ∀ p ∈ pns io v0, p.1 ≠ i := fun p hp => by
  unfold pns at hp
  split at hp
  · rename_i e
    have : p = (0, v0) := by simpa using hp
    subst this
    exact fun z => h e z.symm
  · cases hp
section
variable {X : Cx} {io : Bool} {pos : Pos}
theorem vg_name {i : Nat} {x : Str} (hN : X.N.Nodup) (hi : X.N[i]? = some x) (hx : Loc X.env.scope x) (h0 : io = true → i ≠ 0) (hf : X.fn x = true ∨ X.env.scope.names.lookup x = some .local := by first | exact .inl rfl | exact .inr rfl | assumption) : PG X (.Name x pos) (lG X.K io [i] (gN i)) :=
  pg_imp (pg_name hN hi hx hf) fun v σ H Q ⟨v0, Z, F, Γ, h, d, Qd, A, r, ⟨Γ', eΓ, q⟩, k⟩ => by
    obtain ⟨e1, hl⟩ := setG_eq eΓ
    obtain ⟨h', A'⟩ := A.put r hl (pns_ne h0)
    rw [e1] at A'
    exact k F _ _ h' H (Same.refl _) (fun vs hv => wipe_comm (hv i (by simp))) A' q
theorem vgs_nil : PGs X [] (lGs X.K io [] gNils) := ⟨fun pins s σ H vs us Q I r ⟨v0, Z, F, Γ, h, ds, Qd, A, rr, ⟨e, q⟩, k⟩ => pgs_nil.run pins s σ H vs us Q I r ⟨by subst e; cases rr; rfl, k F Γ σ h H (Same.refl _) Only.refl A q⟩⟩
theorem vgs_cons {e : Expr} {es : List Expr} {ws us : List Nat} {t : EG} {u : EGs} (h1 : PG X e (lG X.K io ws t)) (h2 : PGs X es (lGs X.K io us u))
    (hs : (assignEach (e :: es) X.env).map (·.2) = assign e X.env :: (assignEach es X.env).map (·.2) := by rfl) : PGs X (e :: es) (lGs X.K io (ws ++ us) (gConss t u)) :=
  ⟨fun pins s σ H vs uss Q I r ⟨v0, Z, F, Γ, h, ds, Qd, A, rr, ⟨d, dr, e1, q⟩, k⟩ => by
    subst e1
    cases rr with
    | cons r1 r2 =>
      exact (pgs_cons h1 h2 hs).run pins s σ H _ uss Q I r ⟨_, _, rfl, ⟨v0, Z, F, Γ, h, d, _, A, r1, q, fun F1 Γ1 σ1 h1 H1 s1 o1 A1 q1 =>
        ⟨v0, Z, F1, Γ1, h1, dr, Qd, A1, RpAll.mono s1 r2, q1, fun F2 Γ2 σ2 h2 H2 s2 o2 A2 q2 => k F2 Γ2 σ2 h2 H2 (s1.trans s2) (o1.trans o2) A2 q2⟩⟩⟩⟩
theorem vg_tup {es : List Expr} {kk : Nat} {ws : List Nat} {u : EGs} {n : Nat} (hc : X.calm = true) (h : PGs X es (lGs X.K io ws u)) (hn : (assignEach es X.env).length = n := by rfl) (hst : (assignEach es X.env).findIdx? (·.1) = none := by rfl) :
    PG X (.Tuple es kk pos) (lG X.K io ws (gTupD n u)) :=
  pg_imp (pg_tup hc h hn hst) fun v σ H Q ⟨v0, Z, F, Γ, h, d, Qd, A, r, ⟨ds, e1, e2, q⟩, k⟩ => by
    subst e1
    obtain ⟨a, xs, rfl, hs, ha⟩ := rp_tup r
    exact ⟨a, xs, rfl, sameT A.FH hs, by rw [ha.length, e2], v0, Z, F, Γ, h, ds, Qd, A, ha, q, k⟩
end

/-! ### statements -/
def sNext : ES := fun D Γ => D.nx Γ
def sSeq (t u : ES) : ES := fun D Γ => t { D with nx := u D } Γ
def sBreak : ES := fun D Γ => D.bk Γ
def sCont : ES := fun D Γ => D.ct Γ
def sDrop (τ : EO) : ES := fun D Γ => τ Γ fun _ Γ' => D.nx Γ'
def sRet (τ : EO) : ES := fun D Γ => τ Γ D.rt
def sRetN : ES := fun D Γ => D.rt (.fz .none) Γ
def sIf (c : ET) (t u : ES) : ES := fun D Γ => c Γ fun b Γ1 => Br b (t D Γ1) (u D Γ1)
def sSet (i : Nat) (τ : EO) : ES := fun D Γ => τ Γ fun o Γ' => ∃ Γ2, setG Γ' i (some o) = some Γ2 ∧ D.nx Γ2
def sAsg (τ : EX) (g : EG) : ES := fun D Γ => τ Γ fun a Γ1 => ∃ d, a = .d d ∧ g d Γ1 D.nx
def sPar (i j : Nat) (τa τb : EO) : ES := fun D Γ => τa Γ fun o1 Γ1 => τb Γ1 fun o2 Γ2 => ∃ Γ3 Γ4, setG Γ2 i (some o1) = some Γ3 ∧ setG Γ3 j (some o2) = some Γ4 ∧ D.nx Γ4
def sWhile (c : ET) (t : ES) : ES := fun D Γ => ∃ W : Nat → Ga → Prop, (∃ m, W m Γ) ∧ ∀ m Γ', W m Γ' → c Γ' fun b Γ1 => Br b (t { D with nx := fun Γ2 => ∃ m', m' < m ∧ W m' Γ2, ct := fun Γ2 => ∃ m', m' < m ∧ W m' Γ2, bk := D.nx } Γ1) (D.nx Γ1)
section
variable {X : Cx} {io : Bool} {pos : Pos} {st : Stmt} {sts : List Stmt} {t u : ES} {e : Expr} {τ : EX} {τo τo' : EO} {tc : ET}
theorem vss_nil : PSs X [] (lS X.K io sNext) := pss_imp pss_nil fun D σ H ⟨v0, Z, F, Γ, h, DD, A, q, k⟩ => k.nx F Γ σ h H (Same.refl _) A q
theorem vss_cons (h1 : PS X st (lS X.K io t)) (h2 : PSs X sts (lS X.K io u)) : PSs X (st :: sts) (lS X.K io (sSeq t u)) :=
  pss_imp (pss_cons h1 h2) fun D σ H ⟨v0, Z, F, Γ, h, DD, A, q, k⟩ => ⟨v0, Z, F, Γ, h, _, A, q, ⟨fun F' Γ' σ' h' H' s A' q' => ⟨v0, Z, F', Γ', h', DD, A', q', k.mono s⟩, k.bk, k.ct, k.rt⟩⟩
theorem vss_one (h1 : PS X st (lS X.K io t)) : PSs X [st] (lS X.K io t) := pss_one h1
theorem vs_pass : PS X (.Pass pos) (lS X.K io sNext) := ps_imp ps_pass fun D σ H ⟨v0, Z, F, Γ, h, DD, A, q, k⟩ => k.nx F Γ σ h H (Same.refl _) A q
theorem vs_break : PS X (.Break pos) (lS X.K io sBreak) := ps_imp ps_break fun D σ H ⟨v0, Z, F, Γ, h, DD, A, q, k⟩ => k.bk F Γ σ h H (Same.refl _) A q
theorem vs_continue : PS X (.Continue pos) (lS X.K io sCont) := ps_imp ps_continue fun D σ H ⟨v0, Z, F, Γ, h, DD, A, q, k⟩ => k.ct F Γ σ h H (Same.refl _) A q
theorem vs_doc {x j pos pos'} : PS X (.Expr (.Constant (.str x) j pos) pos') (lS X.K io sNext) := ps_imp ps_doc fun D σ H ⟨v0, Z, F, Γ, h, DD, A, q, k⟩ => k.nx F Γ σ h H (Same.refl _) A q
theorem vs_expr (he : PE X e (lO X.K τo)) (hs : swapsWith e none pos.line X.env = pure false := by rfl) : PS X (.Expr e pos) (lS X.K io (sDrop τo)) :=
  ps_imp (ps_expr he hs) fun D σ H ⟨v0, Z, F, Γ, h, DD, A, q, k⟩ => ⟨_, Z, F, Γ, h, _, A, q, fun F' Γ' h' hr H' o v s A' w q' => k.nx F' Γ' σ h' H' s A'.at_ q'⟩
theorem vs_ret (he : PE X e (lO X.K τo)) : PS X (.Return (some e) pos) (lS X.K io (sRet τo)) :=
  ps_imp (ps_ret he) fun D σ H ⟨v0, Z, F, Γ, h, DD, A, q, k⟩ => ⟨_, Z, F, Γ, h, _, A, q, fun F' Γ' h' hr H' o v s A' w q' => k.rt F' Γ' σ h' hr H' o v s A' w q'⟩
theorem vs_retN : PS X (.Return none pos) (lS X.K io sRetN) :=
  ps_imp ps_retN fun D σ H ⟨v0, Z, F, Γ, h, DD, A, q, k⟩ => k.rt F Γ σ h emp H (.fz .none) .non (Same.refl _) A.alone ⟨rfl, .non⟩ q
theorem vs_if {c : Expr} {a b : List Stmt} (hc : PT X c (lT X.K tc)) (ha : PSs X a (lS X.K io t)) (hb : PSs X b (lS X.K io u)) : PS X (.If c a b pos) (lS X.K io (sIf tc t u)) :=
  ps_imp (ps_if hc ha hb) fun D σ H ⟨v0, Z, F, Γ, h, DD, A, q, k⟩ => ⟨_, Z, F, Γ, h, _, A, q, fun F' Γ' h' H' b s A' q' => by
    have q' := of_br q'
    cases b with
    | true => exact ⟨v0, Z, F', Γ', h', DD, A', q', k.mono s⟩
    | false => exact ⟨v0, Z, F', Γ', h', DD, A', q', k.mono s⟩⟩
theorem vs_set {i : Nat} {x : Str} {pos' : Pos} (hN : X.N.Nodup) (hi : X.N[i]? = some x) (hx : Loc X.env.scope x) (h0 : io = true → i ≠ 0) (he : PE X e (lO X.K τo)) (hs : swapsWith e (some (.Name x pos')) pos.line X.env = pure false := by rfl) (hf : X.fn x = true ∨ X.env.scope.names.lookup x = some .local := by first | exact .inl rfl | exact .inr rfl | assumption) :
    PS X (.Assign [.Name x pos'] e pos) (lS X.K io (sSet i τo)) :=
  ps_imp (ps_set hN hi hx he hs hf) fun D σ H ⟨v0, Z, F, Γ, h, DD, A, q, k⟩ => ⟨_, Z, F, Γ, h, _, A, q, fun F' Γ' h' hr H' o v s A' w ⟨Γ2, eΓ, q'⟩ => by
    obtain ⟨e1, hl⟩ := setG_eq eΓ
    obtain ⟨h2, A2⟩ := A'.store w hl (pns_ne h0)
    rw [e1] at A2
    exact k.nx F' _ _ h2 H' s A2 q'⟩
theorem vs_asg {tg : Expr} {ws : List Nat} {g : EG} (he : PE X e (lX X.K τ)) (hg : PG X tg (lG X.K io ws g)) (hs : swapsWithSole [tg] e pos.line X.env = pure false := by rfl) (hw : swappedStores [tg] e X.env = pure none := by rfl)
    (h1 : (assignEach [tg] X.env).map (·.2) = [assign tg X.env] := by rfl) : PS X (.Assign [tg] e pos) (lS X.K io (sAsg τ g)) :=
  ps_imp (ps_asg he hg hs hw h1) fun D σ H ⟨v0, Z, F, Γ, h, DD, A, q, k⟩ => ⟨_, Z, F, Γ, h, _, A, q, fun F' Γ' h' H' a v s A' r ⟨d, e1, q'⟩ => by
    subst e1
    exact ⟨v0, Z, F', Γ', h', d, _, A', r, q', fun F2 Γ2 σ2 h2 H2 s2 _ A2 q2 => k.nx F2 Γ2 σ2 h2 H2 (s.trans s2) A2 q2⟩⟩
/-- a part beside kept by what stands still -/
theorem AtR.keep {K : PySem.W.Frag} {pn : List (Nat × V)} {Z F : Hp} {Γ : Ga} {σ : St} {h hr H : Hp} (A : AtR K pn Z F Γ σ h hr H) : At K pn (jn Z hr) F Γ σ h H :=
  ⟨A.at_.own, A.at_.hH, A.at_.FH, same_jn A.at_.ZH A.rH, (Dis.jn A.at_.FZ.symm A.rF).symm, A.at_.hF, (Dis.jn A.at_.hZ.symm A.rh).symm, A.at_.pin⟩
theorem At.unkeep {K : PySem.W.Frag} {pn : List (Nat × V)} {Z F : Hp} {Γ : Ga} {σ : St} {h hr H : Hp} (d : Dis Z hr) (A : At K pn (jn Z hr) F Γ σ h H) : AtR K pn Z F Γ σ h hr H :=
  ⟨⟨A.own, A.hH, A.FH, fun a o e => A.ZH _ _ (same_l _ _ e), (Dis.sub same_l A.FZ.symm).symm, A.hF, (Dis.sub same_l A.hZ.symm).symm, A.pin⟩, fun a o e => A.ZH _ _ (same_r d _ _ e), Dis.sub (same_r d) A.hZ.symm, Dis.sub (same_r d) A.FZ.symm, d.symm⟩
theorem vs_par {i j : Nat} {x y : Str} {a b : Expr} {px py pt : Pos} {kt k2 pt2} (hc : X.calm = true) (hN : X.N.Nodup) (hi : X.N[i]? = some x) (hj : X.N[j]? = some y) (hij : i ≠ j)
    (hx : X.env.scope.names.lookup x = some .local) (hy : X.env.scope.names.lookup y = some .local) (h0 : io = true → i ≠ 0) (h0' : io = true → j ≠ 0) (ha : PE X a (lO X.K τo)) (hb : PE X b (lO X.K τo'))
    (hw : swappedStores [.Tuple [.Name x px, .Name y py] kt pt] (.Tuple [a, b] k2 pt2) X.env = pure (some [x, y]))
    (hs : swapsWithSole [.Tuple [.Name x px, .Name y py] kt pt] (.Tuple [a, b] k2 pt2) pos.line X.env = pure false := by rfl)
    (hs1 : starEach [a, b] X.env = (false, eval a X.env) :: starEach [b] X.env := by rfl) (hs2 : starEach [b] X.env = (false, eval b X.env) :: starEach [] X.env := by rfl) :
    PS X (.Assign [.Tuple [.Name x px, .Name y py] kt pt] (.Tuple [a, b] k2 pt2) pos) (lS X.K io (sPar i j τo τo')) :=
  ps_imp (ps_par hc hN hi hj hij hx hy (pa_cons ha (pa_cons hb pa_nil hs2) hs1) hw hs) fun D σ H ⟨v0, Z, F, Γ, h, DD, A, q, k⟩ => ⟨_, Z, F, Γ, h, _, A, q, fun F1 Γ1 h1 hr1 H1 o1 v1 s1 A1 w1 q1 =>
    ⟨_, jn Z hr1, F1, Γ1, h1, _, A1.keep, q1, fun F2 Γ2 h2 hr2 H2 o2 v2 s2 A2 w2 ⟨Γ3, Γ4, eΓ3, eΓ4, q2⟩ => ⟨v1, v2, rfl, by
      obtain ⟨i1, l1⟩ := setG_eq eΓ3
      obtain ⟨i2, l2⟩ := setG_eq eΓ4
      subst i1; subst i2
      have l2 : j < Γ2.length := by simpa using l2
      have B := A2.at_.unkeep A1.rZ.symm
      obtain ⟨h3, B3⟩ := B.store (w1.mono s2) l1 (pns_ne h0)
      -- the second part beside
      have d21 : Dis hr2 hr1 := (Dis.sub (same_r A1.rZ.symm) A2.rZ.symm).symm
      have dZ : Dis hr2 Z := (Dis.sub same_l A2.rZ.symm).symm
      obtain ⟨g2, sg, a3, _⟩ := B.at_.own.put l1
      have d1g : Dis hr1 g2 := (Dis.sub sg B.rh.symm).symm
      have d2g : Dis hr2 g2 := (Dis.sub sg A2.rh.symm).symm
      have A3 : AtR X.K (pns io v0) Z F2 (Γ2.set i (some o1)) (σ.set i (some v1)) (jn hr1 g2) hr2 H2 :=
        ⟨⟨a3 F2 o1 v1 hr1 (Same.refl _) (w1.mono s2) d1g, same_jn B.rH (sg.trans B.at_.hH), B.at_.FH, B.at_.ZH, B.at_.FZ, Dis.jn B.rF (Dis.sub sg B.at_.hF), Dis.jn B.rZ (Dis.sub sg B.at_.hZ), fun p hm => by
          rw [List.getElem?_set_ne (fun z => pns_ne h0 p hm z.symm)]
          exact B.at_.pin p hm⟩, A2.rH, (Dis.jn d21.symm d2g.symm).symm, A2.rF, dZ⟩
      obtain ⟨h4, A4⟩ := A3.store w2 (by simpa using l2) (pns_ne h0')
      exact k.nx F2 _ _ h4 H2 (s1.trans s2) A4 q2⟩⟩⟩
theorem vs_while {c : Expr} {body : List Stmt} (hp : PassesOwn (model X.prog X.w) X.A X.env X.xe) (hc : PT X c (lT X.K tc)) (hb : PSs X body (lS X.K io t)) : PS X (.While c body [] pos) (lS X.K io (sWhile tc t)) :=
  ps_imp (ps_while hp hc hb) fun D σ H ⟨v0, Z, F, Γ, h, DD, A, ⟨W, ⟨m0, w0⟩, turn⟩, k⟩ => by
    refine ⟨fun m σ' H' => ∃ F' Γ' h', Same F F' ∧ At X.K (pns io v0) Z F' Γ' σ' h' H' ∧ W m Γ', ⟨m0, F, Γ, h, Same.refl _, A, w0⟩, ?_⟩
    rintro m σ1 H1 ⟨F1, Γ1, h1, s1, A1, w1⟩
    refine ⟨_, Z, F1, Γ1, h1, _, A1, turn m Γ1 w1, fun F2 Γ2 h2 H2 b s2 A2 q2 => ?_⟩
    have q2 := of_br q2
    cases b with
    | false => exact k.nx F2 Γ2 σ1 h2 H2 (s1.trans s2) A2 q2
    | true =>
      refine iteT ?_
      refine ⟨fun σ' H' => ∃ F' Γ' h', Same F F' ∧ At X.K (pns io v0) Z F' Γ' σ' h' H' ∧ ∃ m', m' < m ∧ W m' Γ', fun σ' H' ⟨F', Γ', h', s', A', m', lt, w'⟩ => ⟨m', lt, F', Γ', h', s', A', w'⟩, ?_⟩
      have k2 := k.mono (s1.trans s2)
      exact ⟨v0, Z, F2, Γ2, h2, _, A2, q2, ⟨fun F' Γ' σ' h' H' s A' q' => ⟨F', Γ', h', (s1.trans s2).trans s, A', q'⟩, k2.nx, fun F' Γ' σ' h' H' s A' q' => ⟨F', Γ', h', (s1.trans s2).trans s, A', q'⟩, k2.rt⟩⟩
end
end VL
end
section
namespace VL
open PySem PySem.Spec L2

/-! ### what is walked -/
structure ItOk (K : PySem.W.Frag) (J : It) (F : Hp) (ds : List PyData) : Prop where
  stop : ∀ F' H i, Same F F' → Same F' H → ds.length ≤ i → J.stop i H
  go : ∀ F' H i, Same F F' → Same F' H → i < ds.length → J.go i H
  yld : ∀ F' H i x H', Same F F' → Same F' H → i < ds.length → J.yld i H x H' → ∃ F3 d, Grow F' H F3 H' ∧ ds[i]? = some d ∧ Rp K F3 x d
abbrev EI := Ga → (List PyData → Ga → Prop) → Prop
def lI (K : PySem.W.Frag) (τ : EI) : TI := fun σ H R => ∃ pn Z F Γ h Q, At K pn Z F Γ σ h H ∧ τ Γ Q ∧ ∀ F' Γ' h' H' J ds, Same F F' → At K pn Z F' Γ' σ h' H' → ItOk K J F' ds → Q ds Γ' → R J H'
def seqD : PyData → Option (List PyData)
  | .list ds => some ds
  | .tuple ds => some ds
  | .str x => some (x.cps.toList.map fun c => .str ⟨#[c]⟩)
  | _ => none
def iSeq (τ : EX) : EI := fun Γ Q => τ Γ fun a Γ1 => ∃ d ds, a = .d d ∧ seqD d = some ds ∧ Q ds Γ1
theorem itok_list {K : PySem.W.Frag} {F : Hp} {a : Addr} {vs : List V} {ds : List PyData} (hs' : F a = some (.lst vs)) (ha : RpAll K F vs ds) : ItOk K (Itl K a) F ds where
  stop := fun F' H i s s' hi => ⟨vs, (s.trans s').seq (SqL.of hs'), by rw [ha.length]; exact hi⟩
  go := fun F' H i s s' hi => ⟨vs, vs[i]'(by rw [ha.length]; exact hi), (s.trans s').seq (SqL.of hs'), List.getElem?_eq_getElem _⟩
  yld := fun F' H i x H' s s' hi ⟨e, q⟩ => by
    subst e
    obtain ⟨d, e1, r⟩ := ha.get (q vs ((s.trans s').seq (SqL.of hs')))
    exact ⟨F', d, Grow.refl s', e1, Rp.mono s r⟩
theorem itok_tup {K : PySem.W.Frag} {F : Hp} {a : Addr} {vs : List V} {ds : List PyData} (hs : SqT K F a vs) (ha : RpAll K F vs ds) : ItOk K (Itt K a) F ds where
  stop := fun F' H i s s' hi => ⟨vs, sameT (s.trans s') hs, by rw [ha.length]; exact hi⟩
  go := fun F' H i s s' hi => ⟨vs, vs[i]'(by rw [ha.length]; exact hi), sameT (s.trans s') hs, List.getElem?_eq_getElem _⟩
  yld := fun F' H i x H' s s' hi ⟨e, q⟩ => by
    subst e
    obtain ⟨d, e1, r⟩ := ha.get (q vs (sameT (s.trans s') hs))
    exact ⟨F', d, Grow.refl s', e1, Rp.mono s r⟩
theorem itok_str {K : PySem.W.Frag} {F : Hp} {x : Str} : ItOk K (Its x) F (x.cps.toList.map fun c => .str ⟨#[c]⟩) where
  stop := fun F' H i s s' hi => show x.cps.size ≤ i by simpa using hi
  go := fun F' H i s s' hi => show i < x.cps.size by simpa using hi
  yld := fun F' H i v H' s s' hi ⟨e, c, e1, e2⟩ => by
    subst e; subst e2
    refine ⟨F', .str ⟨#[c]⟩, Grow.refl s', ?_, .str _⟩
    rw [List.getElem?_map, Array.getElem?_toList, e1]; rfl
def rangeD (lo : Int) (n : Nat) : List PyData := (List.range n).map fun (i : Nat) => .int (lo + i)
theorem itok_range {K : PySem.W.Frag} {F : Hp} {lo : Int} {n : Nat} : ItOk K (Itr lo n) F (rangeD lo n) where
  stop := fun F' H i s s' hi => show n ≤ i by simpa [rangeD] using hi
  go := fun F' H i s s' hi => show i < n by simpa [rangeD] using hi
  yld := fun F' H i v H' s s' hi ⟨e, e2⟩ => by
    subst e; subst e2
    have hi : i < n := by simpa [rangeD] using hi
    refine ⟨F', .int (lo + i), Grow.refl s', ?_, .int _⟩
    rw [rangeD, List.getElem?_map, List.getElem?_range hi]; rfl
def rangeN (n : Nat) : List PyData := (List.range n).map fun (i : Nat) => .int (i : Int)
theorem rangeD0 (n : Nat) : rangeD 0 n = rangeN n := by
  unfold rangeD rangeN
  congr 1
  funext i
  rw [Int.zero_add]
theorem itok_rangeN {K : PySem.W.Frag} {F : Hp} {n : Nat} : ItOk K (Itr 0 n) F (rangeN n) := by
  rw [← rangeD0]; exact itok_range
def rangeC (lo c : Int) (n : Nat) : List PyData := (List.range n).map fun (i : Nat) => .int (lo + (i : Nat) * c)
theorem itok_rangeC {K : PySem.W.Frag} {F : Hp} {lo c : Int} {n : Nat} : ItOk K (Itc lo c n) F (rangeC lo c n) where
  stop := fun F' H i s s' hi => show n ≤ i by simpa [rangeC] using hi
  go := fun F' H i s s' hi => show i < n by simpa [rangeC] using hi
  yld := fun F' H i v H' s s' hi ⟨e, e2⟩ => by
    subst e; subst e2
    have hi : i < n := by simpa [rangeC] using hi
    refine ⟨F', .int (lo + (i : Nat) * c), Grow.refl s', ?_, .int _⟩
    rw [rangeC, List.getElem?_map, List.getElem?_range hi]; rfl
def iRange1 (τs : EA) : EI := fun Γ Q => τs Γ fun as Γ1 => ∃ n : Int, rsAll Γ1 as = some [.int n] ∧ (-(2 ^ 62) ≤ n ∧ n < 2 ^ 62) ∧ Q (rangeN n.toNat) Γ1
def iRange2 (τs : EA) : EI := fun Γ Q => τs Γ fun as Γ1 => ∃ a b : Int, rsAll Γ1 as = some [.int a, .int b] ∧ (-(2 ^ 62) ≤ a ∧ a < 2 ^ 62 ∧ -(2 ^ 62) ≤ b ∧ b < 2 ^ 62) ∧ Q (rangeD a (b - a).toNat) Γ1
def iRange3 (τs : EA) : EI := fun Γ Q => τs Γ fun as Γ1 => ∃ (a b c : Int) (n : Nat), rsAll Γ1 as = some [.int a, .int b, .int c] ∧ RgC a b c n ∧ Q (rangeC a c n) Γ1
theorem repl1 {K : PySem.W.Frag} {F H : Hp} {i : Int} {vs : List V} (h : RepL K F H [.int i] vs) : vs = [.int i] := by
  cases h with
  | cons r t => cases t; rw [r.int]
theorem repl2 {K : PySem.W.Frag} {F H : Hp} {i j : Int} {vs : List V} (h : RepL K F H [.int i, .int j] vs) : vs = [.int i, .int j] := by
  cases h with
  | cons r t => rw [r.int, repl1 t]
theorem repl3 {K : PySem.W.Frag} {F H : Hp} {i j k : Int} {vs : List V} (h : RepL K F H [.int i, .int j, .int k] vs) : vs = [.int i, .int j, .int k] := by
  cases h with
  | cons r t => rw [r.int, repl2 t]
theorem pi_imp {X : Cx} {tg e : Expr} {t t' : TI} (h : PI X tg e t) (i : ∀ σ H R, t' σ H R → t σ H R) : PI X tg e t' := ⟨fun pins s σ H R I q => h.run pins s σ H R I (i σ H R q)⟩
section
variable {X : Cx} {tg l a b c : Expr} {τ : EX} {τs : EA} {p pos : Pos}
theorem vi_seq (hl : PE X l (lX X.K τ)) : PI X tg l (lI X.K (iSeq τ)) := by
  refine ⟨fun pins s σ H R I ⟨pn, Z, F, Γ, h, Q, A, q, k⟩ => ?_⟩
  refine thn (hl.run pins s σ H (fun x H1 => ∃ F1 Γ1 h1 d ds, Same F F1 ∧ At X.K pn Z F1 Γ1 σ h1 H1 ∧ Rp X.K F1 x d ∧ seqD d = some ds ∧ Q ds Γ1) I
    ⟨pn, Z, F, Γ, h, _, A, q, fun F' Γ' h' H' a v s A' r ⟨d, ds, e1, e2, q'⟩ => by subst e1; exact ⟨F', Γ', h', d, ds, s, A', r, e2, q'⟩⟩) fun v s1 ⟨x, H1, I1, r1, F1, Γ1, h1, d, ds, sF, A1, r, e, q1⟩ => ?_
  cases r with
  | non => cases e
  | bl _ => cases e
  | int _ => cases e
  | str y =>
    cases e
    obtain ⟨t, rfl⟩ := r1
    have q2 := k F1 Γ1 h1 H1 (Its y) _ sF A1 itok_str q1
    cases ha : y.cps.all (· < 128)
    · exact wpAny_pyIter_wide ha (pi_one (tk := s1.toks) I1 _ (turn_str _ y t "str_iterator" (.inr rfl)) ⟨_, Heap.get?_push_size _ rfl, rfl, rfl⟩ q2)
    · exact wpAny_pyIter_ascii ha (pi_one (tk := s1.toks) I1 _ (turn_str _ y t "str_ascii_iterator" (.inl rfl)) ⟨_, Heap.get?_push_size _ rfl, rfl, rfl⟩ q2)
  | @lst a vs ds' hs ha =>
    cases e
    cases r1
    obtain ⟨its, rv, p, hz⟩ := I1.list (SqL.of (A1.FH _ _ hs))
    exact wpAny_pyIter_list p.isList (pi_one (tk := s1.toks) I1 _ (turn_list a _) ⟨_, Heap.get?_push_size _ rfl, rfl, rfl⟩ (k F1 Γ1 h1 H1 _ _ sF A1 (itok_list hs ha) q1))
  | @tup a vs ds' hs ha =>
    cases e
    cases r1
    obtain ⟨its, rv, p, hz⟩ := I1.tuple (sameT A1.FH hs.sq)
    exact wpAny_pyIter_tuple (show s1.heap.IsTuple a its.toArray from p) (pi_one (tk := s1.toks) I1 _ (turn_tuple a _) ⟨_, Heap.get?_push_size _ rfl, rfl, rfl⟩ (k F1 Γ1 h1 H1 _ _ sF A1 (itok_tup hs.sq ha) q1))
  | dct _ _ _ _ => cases e
  | scr _ => cases e
theorem vi_range1 (hg : Gl X "range") (hm : X.mg "range" = none) (ha : PA X [a] (lA X.K τs)) (hs : starEach [a] X.env = [(false, eval a X.env)] := by rfl) : PI X tg (.Call (.Name "range" p) [a] [] pos) (lI X.K (iRange1 τs)) :=
  pi_imp (pi_range1 hg hm ha hs) fun σ H R ⟨pn, Z, F, Γ, h, Q, A, q, k⟩ => ⟨pn, Z, F, Γ, h, _, A, q, fun F1 Γ1 h1 H1 as vs s1 A1 r1 ⟨n, e1, ⟨b1, b2⟩, q1⟩ => ⟨n, repl1 (reps_of A1 r1 e1), b1, b2, k F1 Γ1 h1 H1 _ _ s1 A1 itok_rangeN q1⟩⟩
theorem vi_range2 (hg : Gl X "range") (hm : X.mg "range" = none) (ha : PA X [a, b] (lA X.K τs)) (hs : starEach [a, b] X.env = [(false, eval a X.env), (false, eval b X.env)] := by rfl) (hs2 : starEach [b] X.env = [(false, eval b X.env)] := by rfl) : PI X tg (.Call (.Name "range" p) [a, b] [] pos) (lI X.K (iRange2 τs)) :=
  pi_imp (pi_range2 hg hm ha hs hs2) fun σ H R ⟨pn, Z, F, Γ, h, Q, A, q, k⟩ => ⟨pn, Z, F, Γ, h, _, A, q, fun F1 Γ1 h1 H1 as vs s1 A1 r1 ⟨i, j, e1, bb, q1⟩ => ⟨i, j, repl2 (reps_of A1 r1 e1), bb, k F1 Γ1 h1 H1 _ _ s1 A1 itok_range q1⟩⟩
theorem vi_range3 (hg : Gl X "range") (hm : X.mg "range" = none) (ha : PA X [a, b, c] (lA X.K τs)) (hs : starEach [a, b, c] X.env = (false, eval a X.env) :: starEach [b, c] X.env := by rfl) (hpl : (backTo pos (starEach [b, c] X.env)).any (·.1) = false := by rfl) : PI X tg (.Call (.Name "range" p) [a, b, c] [] pos) (lI X.K (iRange3 τs)) :=
  pi_imp (pi_range3 hg hm ha hs hpl) fun σ H R ⟨pn, Z, F, Γ, h, Q, A, q, k⟩ => ⟨pn, Z, F, Γ, h, _, A, q, fun F1 Γ1 h1 H1 as vs s1 A1 r1 ⟨i, j, c, n, e1, bb, q1⟩ => ⟨i, j, c, n, repl3 (reps_of A1 r1 e1), bb, k F1 Γ1 h1 H1 _ _ s1 A1 itok_rangeC q1⟩⟩
end

/-! ### for -/
def sFor (τi : EI) (g : EG) (t : ES) : ES := fun D Γ => τi Γ fun ds Γ1 => ∃ I : Nat → Ga → Prop, I 0 Γ1 ∧ (∀ i d Γ', ds[i]? = some d → I i Γ' → g d Γ' fun Γ2 => t { D with nx := I (i + 1), ct := I (i + 1), bk := D.nx } Γ2) ∧ ∀ Γ', I ds.length Γ' → D.nx Γ'
theorem vs_for {X : Cx} {io : Bool} {pos : Pos} {tg iter : Expr} {body : List Stmt} {ws : List Nat} {τi : EI} {g : EG} {t : ES} (hp : PassesOwn (model X.prog X.w) X.A X.env X.xe) (hc : X.calm = true) (hi : PI X tg iter (lI X.K τi)) (hg : PG X tg (lG X.K io ws g)) (hb : PSs X body (lS X.K io t))
    (hs : ∀ x, foldedSetIterable iter X.env x = pure x := by intro _; rfl) : PS X (.For tg iter body [] pos) (lS X.K io (sFor τi g t)) :=
  ps_imp (ps_for hp hc hi hg hb hs) fun D σ H ⟨v0, Z, F, Γ, h, DD, A, q, k⟩ => ⟨_, Z, F, Γ, h, _, A, q, fun F1 Γ1 h1 H1 J ds s1 A1 ok ⟨I, i0, turn, fin⟩ => by
    refine ⟨fun i m σ' H' => m = ds.length - i ∧ i ≤ ds.length ∧ ∃ F' Γ' h', Same F1 F' ∧ At X.K (pns io v0) Z F' Γ' σ' h' H' ∧ I i Γ', ⟨ds.length, by simp, Nat.zero_le _, F1, Γ1, h1, Same.refl _, A1, i0⟩, ?_⟩
    rintro i m σ2 H2 ⟨rfl, hi, F2, Γ2, h2, s2, A2, w2⟩
    by_cases hlt : i < ds.length
    · refine .inr ⟨ok.go F2 H2 i s2 A2.FH hlt, fun σ' H' => ∃ F' Γ' h', Same F1 F' ∧ At X.K (pns io v0) Z F' Γ' σ' h' H' ∧ I (i + 1) Γ', fun σ' H' ⟨F', Γ', h', s', A', w'⟩ => ⟨ds.length - (i + 1), by omega, rfl, hlt, F', Γ', h', s', A', w'⟩, fun x H' y => ?_⟩
      obtain ⟨F3, d, g3, e3, r3⟩ := ok.yld F2 H2 i x H' s2 A2.FH hlt y
      refine ⟨v0, Z, F3, Γ2, h2, d, _, A2.grow g3, r3, turn i d Γ2 e3 w2, fun F4 Γ4 σ4 h4 H4 s4 _ A4 q4 => ?_⟩
      have s14 : Same F1 F4 := (s2.trans g3.fs).trans s4
      have k4 := k.mono (s1.trans s14)
      exact ⟨v0, Z, F4, Γ4, h4, _, A4, q4, ⟨fun F' Γ' σ' h' H' s A' q' => ⟨F', Γ', h', s14.trans s, A', q'⟩, k4.nx, fun F' Γ' σ' h' H' s A' q' => ⟨F', Γ', h', s14.trans s, A', q'⟩, k4.rt⟩⟩
    · have e : i = ds.length := by omega
      subst e
      exact .inl ⟨ok.stop F2 H2 _ s2 A2.FH (Nat.le_refl _), k.nx F2 Γ2 σ2 h2 H2 (s1.trans s2) A2 (fin Γ2 w2)⟩⟩

/-! ### comprehensions -/
def wipeG (Γ : Ga) : List Nat → Ga
  | [] => Γ
  | v :: vs => (wipeG Γ vs).set v none
/-- the block's own slots as they were ahead -/
def backG (Γ0 Γ : Ga) : List Nat → Ga
  | [] => Γ
  | v :: vs => (backG Γ0 Γ vs).set v (Γ0.getD v none)
def Plain (Γ : Ga) (vs : List Nat) : Prop := ∀ i ∈ vs, Γ[i]? = some none ∨ ∃ d, Γ[i]? = some (some (.fz d))
def tYesD : ET := fun Γ Q => Q true Γ
def eLc (τi : EI) (g : EG) (tt : ET) (te : EX) (vs : List Nat) : EO := fun Γ Q => τi Γ fun ds Γ1 => Plain Γ1 vs ∧ ∃ I : Nat → List PyData → Ga → Prop, I 0 [] Γ1 ∧
  (∀ i d acc Γ', ds[i]? = some d → I i acc Γ' → (∀ j ∈ vs, Γ'[j]? = Γ1[j]?) → ∃ Γw, nrm (wipeG Γ' vs) = some Γw ∧ g d Γw fun Γ2 => tt Γ2 fun b Γ3 => Br b (te Γ3 fun a Γ4 => ∃ y, a = .d y ∧ acc.length < sizeLine ∧ ∃ Γb, nrm (backG Γ1 Γ4 vs) = some Γb ∧ I (i + 1) (acc ++ [y]) Γb) (∃ Γb, nrm (backG Γ1 Γ3 vs) = some Γb ∧ I (i + 1) acc Γb)) ∧
  ∀ acc Γ', I ds.length acc Γ' → Q (.ls acc) Γ'
section
variable {K : PySem.W.Frag} {F : Hp}
theorem wipeG_len (Γ : Ga) : ∀ vs : List Nat, (wipeG Γ vs).length = Γ.length
  | [] => rfl
  | v :: vs => by unfold wipeG; rw [List.length_set, wipeG_len Γ vs]
theorem OwnS.wipe {Γ : Ga} {σ : St} {h : Hp} (w : OwnS K F Γ σ h) : ∀ vs : List Nat, ∃ h', Same h' h ∧ OwnS K F (wipeG Γ vs) (wipe σ vs) h'
  | [] => ⟨h, Same.refl _, w⟩
  | v :: vs => by
    obtain ⟨h1, s1, w1⟩ := OwnS.wipe w vs
    by_cases hv : v < (wipeG Γ vs).length
    · obtain ⟨h2, s2, _, b⟩ := w1.put hv
      exact ⟨h2, s2.trans s1, b none⟩
    · refine ⟨h1, s1, ?_⟩
      show OwnS K F ((wipeG Γ vs).set v none) ((L2.wipe σ vs).set v none) h1
      rw [List.set_eq_of_length_le (by omega), List.set_eq_of_length_le (by rw [← w1.len]; omega)]
      exact w1
/-- what a frozen slot holds -/
theorem OwnS.get {Γ : Ga} {σ : St} {h : Hp} (w : OwnS K F Γ σ h) {i : Nat} {d : PyData} (e : Γ[i]? = some (some (.fz d))) : ∃ v, σ[i]? = some (some v) ∧ Rp K F v d := by
  obtain ⟨v, h1, h2, a1, a2, a3, a4, a5⟩ := w.focus e
  exact ⟨v, a1, a4.2⟩
/-- the block's own slots put back: σ0 the slots ahead -/
theorem OwnS.back {Γ0 Γ : Ga} {σ0 σ : St} {h : Hp} (w : OwnS K F Γ σ h) : ∀ vs : List Nat, (∀ i ∈ vs, Γ0[i]? = some none ∨ ∃ d v, Γ0[i]? = some (some (.fz d)) ∧ σ0[i]? = some (some v) ∧ Rp K F v d) → σ0.length = σ.length → Γ0.length = Γ.length →
    ∃ h' σ', Same h' h ∧ OwnS K F (backG Γ0 Γ vs) σ' h' ∧ σ'.length = σ.length ∧ (∀ i ∈ vs, σ'[i]? = σ0[i]?) ∧ ∀ i, i ∉ vs → σ'[i]? = σ[i]?
  | [], _, _, _ => ⟨h, σ, Same.refl _, w, rfl, fun _ z => absurd z (by simp), fun _ _ => rfl⟩
  | v :: vs, pl, l1, l2 => by
    obtain ⟨h1, σ1, s1, w1, len1, in1, out1⟩ := OwnS.back w vs (fun i hi => pl i (List.mem_cons_of_mem _ hi)) l1 l2
    have hv0 : v < Γ0.length := by
      rcases pl v List.mem_cons_self with e | ⟨d, u, e, _⟩
      · exact (List.getElem?_eq_some_iff.mp e).1
      · exact (List.getElem?_eq_some_iff.mp e).1
    have lb : (backG Γ0 Γ vs).length = Γ0.length := by rw [w1.len, len1, ← w.len, l2]
    have hv : v < (backG Γ0 Γ vs).length := by omega
    obtain ⟨h2, s2, a, b⟩ := w1.put hv
    have hσ : v < σ1.length := by rw [← w1.len]; exact hv
    have fin : ∀ y : Option V, σ0[v]? = some y → (∀ i ∈ v :: vs, (σ1.set v y)[i]? = σ0[i]?) ∧ ∀ i, i ∉ v :: vs → (σ1.set v y)[i]? = σ[i]? := fun y hy => by
      refine ⟨fun i hi => ?_, fun i hi => ?_⟩
      · by_cases z : v = i
        · subst z; rw [List.getElem?_set_self hσ, hy]
        · rw [List.getElem?_set_ne z]
          rcases List.mem_cons.mp hi with q | q
          · exact absurd q.symm z
          · exact in1 i q
      · have z : v ≠ i := fun e => hi (by simp [e])
        rw [List.getElem?_set_ne z]
        exact out1 i fun q => hi (List.mem_cons_of_mem _ q)
    have hlen0 : v < σ0.length := by rw [l1, ← w.len, ← l2]; exact hv0
    rcases pl v List.mem_cons_self with e | ⟨d, u, e, e2, r⟩
    · refine ⟨h2, σ1.set v σ0[v], s2.trans s1, ?_, by simp [len1], fin _ (List.getElem?_eq_getElem hlen0)⟩
      show OwnS K F ((backG Γ0 Γ vs).set v (Γ0.getD v none)) _ h2
      rw [show Γ0.getD v none = none by simp [List.getD_eq_getElem?_getD, e]]
      exact b _
    · refine ⟨h2, σ1.set v (some u), s2.trans s1, ?_, by simp [len1], fin _ e2⟩
      show OwnS K F ((backG Γ0 Γ vs).set v (Γ0.getD v none)) _ h2
      rw [show Γ0.getD v none = some (.fz d) by simp [List.getD_eq_getElem?_getD, e]]
      have q := a F (.fz d) u emp (Same.refl _) ⟨rfl, r⟩ Dis.emp
      rw [emp_jn] at q
      exact q
theorem backG_get {Γ0 Γ : Ga} (l : Γ0.length = Γ.length) : ∀ {vs : List Nat} {j : Nat}, j ∈ vs → (backG Γ0 Γ vs)[j]? = Γ0[j]?
  | [], _, h => nomatch h
  | v :: vs, j, h => by
    have lb : ∀ ws : List Nat, (backG Γ0 Γ ws).length = Γ.length := fun ws => by
      induction ws with
      | nil => rfl
      | cons w ws ih => unfold backG; rw [List.length_set, ih]
    show ((backG Γ0 Γ vs).set v (Γ0.getD v none))[j]? = Γ0[j]?
    by_cases z : v = j
    · subst z
      by_cases hv : v < Γ0.length
      · rw [List.getElem?_set_self (by rw [lb]; omega), List.getD_eq_getElem?_getD, List.getElem?_eq_getElem hv]; rfl
      · rw [List.getElem?_eq_none (by rw [List.length_set, lb]; omega), List.getElem?_eq_none (by omega)]
    · rw [List.getElem?_set_ne z]
      rcases List.mem_cons.mp h with q | q
      · exact absurd q.symm z
      · exact backG_get l q
theorem out_wipe {σ σ' : St} {vs : List Nat} (h : wipe σ' vs = wipe σ vs) {i : Nat} (hi : i ∉ vs) : σ'[i]? = σ[i]? := by
  have := congrArg (fun l => l[i]?) h
  simpa [wipe_out hi] using this
end
theorem len_wipe {σ σ' : St} {vs : List Nat} (h : wipe σ' vs = wipe σ vs) : σ'.length = σ.length := by
  have := congrArg List.length h
  simpa [wipe_length] using this
/-- a comprehension's reading -/
theorem lc_read {K : PySem.W.Frag} {τi : EI} {g : EG} {tt : ET} {te : EX} {ws vs : List Nat} (hw : ∀ i ∈ ws, i ∈ vs) {σ : St} {H : Hp} {QV : VK} (hh : lO K (eLc τi g tt te vs) σ H QV) : tLc (lI K τi) (lG K false ws g) (lT K tt) (lX K te) vs σ H QV := by
  obtain ⟨pn, Z, F, Γ, h, Q, A, q, k⟩ := hh
  refine ⟨pn, Z, F, Γ, h, _, A, q, fun F1 Γ1 h1 H1 J ds s1 A1 ok ⟨pl, I, i0, turn, fin⟩ D hD => ?_⟩
  have l1 := A1.own.len
  refine ⟨fun i m H' => m = ds.length - i ∧ i ≤ ds.length ∧ ∃ F' Γ' h' acc xs, Same F1 F' ∧ AtR K pn Z F' Γ' σ h' (VL.one D (.lst xs)) H' ∧ RpAll K F' xs acc ∧ (∀ j ∈ vs, Γ'[j]? = Γ1[j]?) ∧ I i acc Γ',
    ⟨ds.length, by simp, Nat.zero_le _, F1, Γ1, h1, [], [], Same.refl _, A1.beside (Grow.stay A1.FH (same_new hD)) (same_one upd_same) (dis_one (A1.FH.free hD)) (fun a z => ?_), .nil, fun _ _ => rfl, i0⟩, ?_⟩
  · by_cases e : a = D
    · subst e; exact hD
    · rw [one_ne e] at z; exact absurd rfl z
  rintro i m H2 ⟨rfl, hi, F2, Γ2, h2, acc, xs, s2, A2, ra, sl, w2⟩
  by_cases hlt : i < ds.length
  · refine .inr ⟨ok.go F2 H2 i s2 A2.at_.FH hlt, fun H' => ∃ F' Γ' h' acc xs, Same F1 F' ∧ AtR K pn Z F' Γ' σ h' (VL.one D (.lst xs)) H' ∧ RpAll K F' xs acc ∧ (∀ j ∈ vs, Γ'[j]? = Γ1[j]?) ∧ I (i + 1) acc Γ',
      fun H' ⟨F', Γ', h', acc', xs', s', A', r', sl', w'⟩ => ⟨ds.length - (i + 1), by omega, rfl, hlt, F', Γ', h', acc', xs', s', A', r', sl', w'⟩, fun x H' y => ?_⟩
    obtain ⟨F3, d, g3, e3, r3⟩ := ok.yld F2 H2 i x H' s2 A2.at_.FH hlt y
    have B : At K pn (jn Z (VL.one D (.lst xs))) F3 Γ2 σ h2 H' := (AtR.keep A2).grow g3
    obtain ⟨h2', sw, ow⟩ := B.own.wipe vs
    have C : At K (pns false .non) (jn Z (VL.one D (.lst xs))) F3 (wipeG Γ2 vs) (wipe σ vs) h2' H' := ⟨ow, sw.trans B.hH, B.FH, B.ZH, B.FZ, Dis.sub sw B.hF, Dis.sub sw B.hZ, fun p hp => nomatch hp⟩
    have dZ : Dis Z (VL.one D (.lst xs)) := A2.rZ.symm
    obtain ⟨Γw, eΓw, tq⟩ := turn i d acc Γ2 e3 w2 sl
    rw [nrm_eq eΓw] at C
    refine ⟨.non, _, F3, _, h2', d, _, C, r3, tq, fun F4 Γ4 σ4 h4 H4 s4 o4 A4 q4 => ⟨by rw [o4 vs hw]; exact wipe_wipe σ vs, ?_⟩⟩
    have wσ : wipe σ4 vs = wipe σ vs := by rw [o4 vs hw]; exact wipe_wipe σ vs
    -- the slots behind a turn
    have len2 : Γ2.length = Γ1.length := by rw [A2.at_.own.len, l1]
    have back : ∀ F5 Γ5 h5 H5, Same F4 F5 → At K (pns false .non) (jn Z (VL.one D (.lst xs))) F5 Γ5 σ4 h5 H5 → ∃ h6, AtR K pn Z F5 (backG Γ1 Γ5 vs) σ h6 (VL.one D (.lst xs)) H5 ∧ ∀ j ∈ vs, (backG Γ1 Γ5 vs)[j]? = Γ1[j]? := fun F5 Γ5 h5 H5 s5 A5 => by
      have sF : Same F2 F5 := (g3.fs.trans s4).trans s5
      have lσ : σ.length = σ4.length := (len_wipe wσ).symm
      have l5 : Γ1.length = Γ5.length := by rw [A5.own.len, ← lσ, ← l1]
      obtain ⟨h6, σ6, s6, w6, n6, in6, out6⟩ := A5.own.back (Γ0 := Γ1) (σ0 := σ) vs (fun j hj => by
        rcases pl j hj with e | ⟨d, e⟩
        · exact .inl e
        · obtain ⟨u, e2, r⟩ := A2.at_.own.get (show Γ2[j]? = some (some (.fz d)) by rw [sl j hj]; exact e)
          exact .inr ⟨d, u, e, e2, Rp.mono sF r⟩) lσ l5
      have eσ : σ6 = σ := by
        apply List.ext_getElem?
        intro j
        by_cases hj : j ∈ vs
        · exact in6 j hj
        · rw [out6 j hj, out_wipe wσ hj]
      subst eσ
      refine ⟨h6, At.unkeep dZ ⟨w6, s6.trans A5.hH, A5.FH, A5.ZH, A5.FZ, Dis.sub s6 A5.hF, Dis.sub s6 A5.hZ, A2.at_.pin⟩, fun j hj => backG_get l5 hj⟩
    refine ⟨_, _, F4, Γ4, h4, _, A4, q4, fun F5 Γ5 h5 H5 b s5 A5 q5 => ?_⟩
    have q5 := of_br q5
    cases b with
    | false =>
      obtain ⟨h6, A6, sl6⟩ := back F5 Γ5 h5 H5 s5 A5
      obtain ⟨Γb, eb, q5⟩ := q5
      rw [nrm_eq eb] at A6 sl6
      exact ⟨F5, _, h6, acc, xs, ((s2.trans g3.fs).trans s4).trans s5, A6, RpAll.mono ((g3.fs.trans s4).trans s5) ra, sl6, q5⟩
    | true =>
      refine iteT ⟨_, _, F5, Γ5, h5, _, A5, q5, fun F6 Γ6 h6 H6 a v s6 A6 r6 ⟨y, e6, z6, Γb, eb, q6⟩ => ?_⟩
      subst e6
      obtain ⟨h7, A7, sl7⟩ := back F6 Γ6 h6 H6 (s5.trans s6) A6
      rw [nrm_eq eb] at A7 sl7
      have ra6 : RpAll K F6 xs acc := RpAll.mono (((g3.fs.trans s4).trans s5).trans s6) ra
      refine ⟨xs, A7.rH _ _ one_at, by rw [ra.length]; exact z6, F6, _, h7, acc ++ [y], xs ++ [v], (((s2.trans g3.fs).trans s4).trans s5).trans s6, ?_, ra6.append (.one r6), sl7, q6⟩
      -- the list grown
      have nD : ∀ (G : Hp), Dis (VL.one D (.lst xs)) G → Same G H6 → Same G (upd H6 D (.lst (xs ++ [v]))) := fun G dG sG a o e => by
        by_cases z : a = D
        · subst z; rw [of_dis_one dG] at e; cases e
        · rw [upd_ne z]; exact sG _ _ e
      exact ⟨⟨A7.at_.own, nD _ A7.rh A7.at_.hH, nD _ A7.rF A7.at_.FH, nD _ A7.rZ A7.at_.ZH, A7.at_.FZ, A7.at_.hF, A7.at_.hZ, A7.at_.pin⟩, same_one upd_same, dis_one (of_dis_one A7.rh), dis_one (of_dis_one A7.rF), dis_one (of_dis_one A7.rZ)⟩
  · have e : i = ds.length := by omega
    subst e
    refine .inl ⟨ok.stop F2 H2 _ s2 A2.at_.FH (Nat.le_refl _), ?_⟩
    exact k F2 Γ2 h2 _ H2 (.ls acc) (.ref D) (s1.trans s2) A2 ⟨D, xs, rfl, rfl, ra⟩ (fin acc Γ2 w2)
where
  wipe_wipe (σ : St) : ∀ vs : List Nat, wipe (wipe σ vs) vs = wipe σ vs := fun vs => by
    apply List.ext_getElem?
    intro j
    by_cases hj : j ∈ vs
    · have f : ∀ σ : St, (wipe σ vs)[j]? = if j < σ.length then some none else none := fun σ => by
        cases e : (wipe σ vs)[j]? with
        | none =>
          have := List.getElem?_eq_none_iff.mp e
          rw [wipe_length] at this
          rw [if_neg (by omega)]
        | some x =>
          have hl := (List.getElem?_eq_some_iff.mp e).1
          rw [wipe_length] at hl
          rw [if_pos hl]
          cases x with
          | none => rfl
          | some y => exact absurd hj (wipe_some e).2
      rw [f, f, wipe_length]
    · rw [wipe_out hj]
end VL
end
section
namespace VL
open PySem PySem.Spec L2

def PTsD (X : Cx) (ifs : List Expr) (t : ET) : Prop := PTs X ifs (lT X.K t)
theorem vts_nil {X : Cx} : PTs X [] (lT X.K tYesD) := ⟨fun pins s σ H Q I ⟨pn, Z, F, Γ, h, Qd, A, q, k⟩ => pts_nil.run pins s σ H Q I (k F Γ h H true (Same.refl _) A q)⟩
theorem vts_one {X : Cx} {c : Expr} {t : ET} (h : PT X c (lT X.K t)) : PTs X [c] (lT X.K t) := pts_one h
section
variable {X : Cx} {elt tg iter : Expr} {ifs : List Expr} {scope : Scope} {own : List (Str × Nat)} {pos : Pos} {ws : List Nat} {τi : EI} {g : EG} {tt : ET} {te : EX}
theorem vo_lc (hc : X.calm = true) (hN : X.N.Nodup) (hi : PI X tg iter (lI X.K τi)) (ok : BlkOk X.N X.env.scope scope own)
    (hg : ∀ (s : Shared) (H : Hp) (C : Addr) (cl : List (Str × Addr)) (fp : List Addr), PG (X.blk s H scope (compEnvC scope cl C X.env) fp) tg (lG X.K false ws g)) (hw : ∀ i ∈ ws, i ∈ own.map (·.2))
    (ht : ∀ (s : Shared) (H : Hp) (C : Addr) (cl : List (Str × Addr)) (fp : List Addr), PTs (X.blk s H scope (compEnvC scope cl C X.env) fp) ifs (lT X.K tt))
    (he : ∀ (s : Shared) (H : Hp) (C : Addr) (cl : List (Str × Addr)) (fp : List Addr), PE (X.blk s H scope (compEnvC scope cl C X.env) fp) elt (lX X.K te)) (hs : ∀ x, foldedSetIterable iter X.env x = pure x := by intro _; rfl) :
    PE X (.ListComp elt [⟨tg, iter, ifs, 0⟩] scope pos) (lO X.K (eLc τi g tt te (own.map (·.2)))) :=
  pe_imp (pe_lc hc hN hi ok hg ht he hs) fun σ H QV h => lc_read hw h
theorem vs_setLc {io : Bool} {i : Nat} {y : Str} {py spos : Pos} (hc : X.calm = true) (hN : X.N.Nodup) (hy : X.N[i]? = some y) (hyl : X.env.scope.names.lookup y = some .local) (h0 : io = true → i ≠ 0)
    (hsw : swapsWith (.ListComp elt [⟨tg, iter, ifs, 0⟩] scope pos) (some (.Name y py)) spos.line X.env = pure true) (hi : PI X tg iter (lI X.K τi)) (ok : BlkOk X.N X.env.scope scope own)
    (hg : ∀ (s : Shared) (H : Hp) (C : Addr) (cl : List (Str × Addr)) (fp : List Addr), PG (X.blk s H scope (compEnvC scope cl C X.env) fp) tg (lG X.K false ws g)) (hw : ∀ i ∈ ws, i ∈ own.map (·.2))
    (ht : ∀ (s : Shared) (H : Hp) (C : Addr) (cl : List (Str × Addr)) (fp : List Addr), PTs (X.blk s H scope (compEnvC scope cl C X.env) fp) ifs (lT X.K tt))
    (he : ∀ (s : Shared) (H : Hp) (C : Addr) (cl : List (Str × Addr)) (fp : List Addr), PE (X.blk s H scope (compEnvC scope cl C X.env) fp) elt (lX X.K te)) (hs : ∀ x, foldedSetIterable iter X.env x = pure x := by intro _; rfl) :
    PS X (.Assign [.Name y py] (.ListComp elt [⟨tg, iter, ifs, 0⟩] scope pos) spos) (lS X.K io (sSet i (eLc τi g tt te (own.map (·.2))))) :=
  ps_imp (ps_setLc hc hN hy hyl hsw hi ok hg ht he hs) fun D σ H ⟨v0, Z, F, Γ, h, DD, A, q, k⟩ => lc_read (K := X.K) hw (QV := fun x H1 => gName i x σ H1 D.nx) ⟨_, Z, F, Γ, h, _, A, q, fun F' Γ' h' hr H' o v s A' w ⟨Γ2, eΓ, q'⟩ => by
    obtain ⟨e1, hl⟩ := setG_eq eΓ
    obtain ⟨h2, A2⟩ := A'.store w hl (pns_ne h0)
    rw [e1] at A2
    exact k.nx F' _ _ h2 H' s A2 q'⟩
end

/-! ### what a def promises, by data -/
abbrev W0 := List PyData → (O → Prop) → Prop
abbrev W1 := O → List PyData → (O → O → Prop) → Prop
def toSp0 (K : PySem.W.Frag) (wp : W0) : Sp := fun vs H QV _ => ∃ F ds Q, Same F H ∧ RpAll K F vs ds ∧ wp ds Q ∧ OpPost K F H Q QV
def fzs (ds : List PyData) : Ga := ds.map fun d => some (.fz d)
def toSp1 (K : PySem.W.Frag) (wp : W1) : Sp := fun vs H QV _ => ∃ v0 vr Z F h0 o0 ds Q, vs = v0 :: vr ∧ At K [] Z F (some o0 :: fzs ds) (some v0 :: vr.map some) h0 H ∧ wp o0 ds Q ∧
  ∀ F' h' hr H' o o0' v, Same F F' → AtR K [] Z F' [some o0'] [some v0] h' hr H' → Own K F' o v hr → Q o o0' → QV v H'
section
variable {K : PySem.W.Frag} {F : Hp}
theorem ownS_fz : ∀ {ds : List PyData} {vs : List V}, RpAll K F vs ds → OwnS K F (fzs ds) (vs.map some) emp
  | _, _, .nil => ⟨rfl, rfl⟩
  | _, _, .cons h t => ⟨_, _, emp, emp, rfl, by rw [emp_jn], Dis.emp, ⟨rfl, h⟩, ownS_fz t⟩
theorem ownS_app : ∀ {Γ : Ga} {σ : St} {h : Hp} (n : Nat), OwnS K F Γ σ h → OwnS K F (Γ ++ List.replicate n none) (σ ++ List.replicate n none) h
  | [], _, _, n, ⟨e, e2⟩ => by
    subst e; subst e2
    show OwnS K F (List.replicate n none) (List.replicate n none) emp
    induction n with
    | zero => exact ⟨rfl, rfl⟩
    | succ n ih => exact ⟨none, _, rfl, ih⟩
  | none :: _, _, _, n, ⟨x, σ', e, h⟩ => by subst e; exact ⟨x, _, rfl, ownS_app n h⟩
  | some _ :: _, _, _, n, ⟨v, σ', h1, h2, e, e2, d, w, h⟩ => by subst e; exact ⟨v, _, h1, h2, rfl, e2, d, w, ownS_app n h⟩
theorem ownS_dp : ∀ {ds : List PyData} {vs : List V} {h : Hp}, OwnS K F (fzs ds) (vs.map some) h → RpAll K F vs ds ∧ h = emp
  | [], vs, _, ⟨e, e2⟩ => by
    cases vs with
    | nil => exact ⟨.nil, e2⟩
    | cons _ _ => cases e
  | d :: ds, vs, _, ⟨v, σ', h1, h2, e, e2, _, w, t⟩ => by
    cases vs with
    | nil => cases e
    | cons u us =>
      cases e
      obtain ⟨q, z⟩ := ownS_dp t
      exact ⟨.cons w.2 q, by rw [e2, w.1, z, emp_jn]⟩
end
/-- all that stands beside: what is neither frozen nor the def's own -/
def rest2 (H F h : Hp) : Hp := fun a => if F a = none ∧ h a = none then H a else none
theorem rest2_same {H F h : Hp} : Same (rest2 H F h) H := fun a o e => by
  unfold rest2 at e
  split at e
  · exact e
  · cases e
theorem rest2_F {H F h : Hp} : Dis F (rest2 H F h) := fun a => by
  cases e : F a with
  | none => exact .inl rfl
  | some o => exact .inr (if_neg fun z => by rw [e] at z; cases z.1)
theorem rest2_h {H F h : Hp} : Dis h (rest2 H F h) := fun a => by
  cases e : h a with
  | none => exact .inl rfl
  | some o => exact .inr (if_neg fun z => by rw [e] at z; cases z.2)
theorem rest2_of {H F h : Hp} {a : Addr} (e : F a = none) (e2 : h a = none) : rest2 H F h a = H a := if_pos ⟨e, e2⟩
section
variable {X : Cx} {k : Nat} {f : Addr} {fd : FuncData} {ps : List Str} {x : Str} {p pos : Pos} {e : Expr} {es : List Expr} {τs : EA} {dvs : List V} {ds : List Value} {dds : List PyData}
def eCall (wp : W0) (dds : List PyData) (τs : EA) : EO := fun Γ Q => τs Γ fun as Γ1 => ∃ ds, unD as = some ds ∧ wp (ds ++ dds) fun o => Q o Γ1
def eCallI (wp : W1) (dds : List PyData) (τs : EA) : EO := fun Γ Q => τs Γ fun as Γ1 => ∃ j o0 ar ds, as = .s j :: ar ∧ unD ar = some ds ∧ Γ1[j]? = some (some o0) ∧ wp o0 (ds ++ dds) fun o o0' => ∃ Γ2, setG Γ1 j (some o0') = some Γ2 ∧ Q o Γ2
theorem call_read {wp : W0} (hdd : ∀ F, RpAll X.K F dvs dds) {E : XK} {σ : St} {H : Hp} {QV : VK} (h : lO X.K (eCall wp dds τs) σ H QV) : tCall (toSp0 X.K wp) dvs E (lA X.K τs) σ H QV := by
  obtain ⟨pn, Z, F, Γ, hh, Q, A, q, kk⟩ := h
  refine ⟨pn, Z, F, Γ, hh, _, A, q, fun F1 Γ1 h1 H1 as vs s1 A1 r1 ⟨ds', e1, q1⟩ => ?_⟩
  rw [unD_eq e1] at r1
  exact ⟨F1, ds' ++ dds, _, A1.FH, (args_d r1).append (hdd F1), q1, A1.post s1 kk⟩
theorem vo_call {wp : W0} (G : FnOk X.prog X.w X.K X.mg X.base CX0 k f fd ps (toSp0 X.K wp)) (hr : Room k X.A) (hg : Gl X x) (hm : X.mg x = some (.ref f)) (hk : PySem.W.keepIn X.K (.ref f) = true) (hb : Binds X.K fd ps ds) (hd : Vals dvs ds) (hdd : ∀ F, RpAll X.K F dvs dds)
    (ha : PA X (e :: es) (lA X.K τs)) (hdb : (x == ("__debug__" : Str)) = false := by decide) (he : starEach (e :: es) X.env = (false, eval e X.env) :: starEach es X.env := by rfl) (hpl : (backTo pos (starEach es X.env)).any (·.1) = false := by rfl) :
    PE X (.Call (.Name x p) (e :: es) [] pos) (lO X.K (eCall wp dds τs)) := pe_imp (pe_call G hr hg hm hk hb hd pass0 ha hdb he hpl) fun σ H QV h => call_read hdd h
theorem vo_call0 {wp : W0} (G : FnOk X.prog X.w X.K X.mg X.base CX0 k f fd ps (toSp0 X.K wp)) (hr : Room k X.A) (hg : Gl X x) (hm : X.mg x = some (.ref f)) (hk : PySem.W.keepIn X.K (.ref f) = true) (hb : Binds X.K fd ps ds) (hd : Vals dvs ds) (hdd : ∀ F, RpAll X.K F dvs dds)
    (hdb : (x == ("__debug__" : Str)) = false := by decide) : PE X (.Call (.Name x p) [] [] pos) (lO X.K (eCall wp dds aNil)) :=
  pe_imp (pe_call0 G hr hg hm hk hb hd pass0 hdb) fun σ H QV ⟨pn, Z, F, Γ, hh, Q, A, ⟨ds', e1, q1⟩, kk⟩ => by
    have : ds' = [] := by cases e1; rfl
    subst this
    exact ⟨F, dds, _, A.FH, hdd F, q1, A.post (Same.refl _) kk⟩
theorem calli_read {wp : W1} (hdd : ∀ F, RpAll X.K F dvs dds) {E : XK} {σ : St} {H : Hp} {QV : VK} (h : lO X.K (eCallI wp dds τs) σ H QV) : tCall (toSp1 X.K wp) dvs E (lA X.K τs) σ H QV := by
  obtain ⟨pn, Z, F, Γ, hh, Q, A, q, kk⟩ := h
  refine ⟨pn, Z, F, Γ, hh, _, A, q, fun F1 Γ1 h1 H1 as vs s1 A1 r1 ⟨j, o0, ar, ds', e1, e1', e2, q1⟩ => ?_⟩
  subst e1
  have e1'' := unD_eq e1'
  subst e1''
  obtain ⟨v0, vr, rfl, r0, rr⟩ := r1
  obtain ⟨v, g1, g2, a1, w, sg1, dg1, zg1, sg2, d12, dg2, zg2, put⟩ := A1.change e2
  have r0 : σ[j]? = some (some v0) := r0
  have ev : v = v0 := by rw [a1] at r0; exact Option.some.inj (Option.some.inj r0)
  subst ev
  have rd := (args_d rr).append (hdd F1)
  have own : OwnS X.K F1 (some o0 :: fzs (ds' ++ dds)) (some v :: (vr ++ dvs).map some) g1 := ⟨v, _, g1, emp, rfl, by rw [jn_emp], Dis.emp.symm, w, ownS_fz rd⟩
  refine ⟨v, vr ++ dvs, jn Z g2, F1, g1, o0, ds' ++ dds, _, rfl, ⟨own, sg1, A1.FH, same_jn A1.ZH sg2, (Dis.jn A1.FZ.symm dg2).symm, dg1, (Dis.jn zg1.symm d12.symm).symm, fun _ z => nomatch z⟩, q1, fun F' h' hr H' o o0' u sF A' w' ⟨Γ2, eΓ2, q'⟩ => ?_⟩
  have dZ : Dis Z g2 := zg2.symm
  have B := At.unkeep (K := X.K) dZ A'.at_
  obtain ⟨v', σ', k1, k2, e5, e6, dk, w5, ⟨e7, e8⟩⟩ := B.at_.own
  cases e5
  rw [e8, jn_emp] at e6
  subst e6
  have hr2 : Dis hr g2 := (Dis.sub (same_r dZ) A'.rZ.symm).symm
  have hrZ : Dis hr Z := (Dis.sub same_l A'.rZ.symm).symm
  have dF2 : Dis g2 F' := B.rF
  have C := put F' o0' h' H' sF w5 B.at_.hH B.at_.FH B.rH B.at_.ZH B.at_.FZ B.rh.symm B.at_.hF B.at_.hZ dF2
  rw [(setG_eq eΓ2).1] at C
  exact kk F' _ (jn h' g2) hr H' o u (s1.trans sF) ⟨C, A'.rH, (Dis.jn A'.rh.symm hr2.symm).symm, A'.rF, hrZ⟩ w' q'
theorem vo_callI {wp : W1} (G : FnOk X.prog X.w X.K X.mg X.base CX0 k f fd ps (toSp1 X.K wp)) (hr : Room k X.A) (hg : Gl X x) (hm : X.mg x = some (.ref f)) (hk : PySem.W.keepIn X.K (.ref f) = true) (hb : Binds X.K fd ps ds) (hd : Vals dvs ds) (hdd : ∀ F, RpAll X.K F dvs dds)
    (ha : PA X (e :: es) (lA X.K τs)) (hdb : (x == ("__debug__" : Str)) = false := by decide) (he : starEach (e :: es) X.env = (false, eval e X.env) :: starEach es X.env := by rfl) (hpl : (backTo pos (starEach es X.env)).any (·.1) = false := by rfl) :
    PE X (.Call (.Name x p) (e :: es) [] pos) (lO X.K (eCallI wp dds τs)) := pe_imp (pe_call G hr hg hm hk hb hd pass0 ha hdb he hpl) fun σ H QV h => calli_read hdd h
end

/-! ### a def keeps its promise -/
def ends0 (Q : O → Prop) : En := { nx := fun _ => Q (.fz .none), rt := fun o _ => Q o }
def ends1 (Q : O → O → Prop) : En := { nx := fun Γ => ∃ o0, Γ[0]? = some (some o0) ∧ Q (.fz .none) o0, rt := fun o Γ => ∃ o0, Γ[0]? = some (some o0) ∧ Q o o0 }
section
variable {P : Program} {w : World} {K : PySem.W.Frag} {mg : Str → Option Value} {base : Heap} {x qual : Str} {st : Stmt} {f : Addr} {fd : FuncData} {N ps : List Str} {k : Nat}
theorem start_eq {N : List Str} {vs : List V} : start N vs = vs.map some ++ List.replicate (N.length - vs.length) none := rfl
theorem vfn0 {wp : W0} {τ : ES} (Fu : Fun K x qual st f fd) (S : FnScope N ps (defScope st)) (hlen : ∀ ds Q, wp ds Q → ds.length = ps.length)
    (body : ∀ (cdv : Value) (A : Around) (outer : List Env) (s : Shared) (H : Hp) (E : XK), Room k (A.deeper (PyProof.Rows.envOfC qual (defScope st) s.heap.objs.size f cdv)) → PSs (cxOf CX0 P w K mg base N qual (defScope st) f cdv A outer s H E).nox (defBody st) (lS K false τ))
    (rd : ∀ ds Q, wp ds Q → τ (ends0 Q) (fzs ds ++ List.replicate (N.length - ds.length) none)) : FnOk P w K mg base CX0 (k + 1) f fd ps (toSp0 K wp) := by
  refine Fu.ok S (fun vs H QV E ⟨F, ds, Q, s, r, h, _⟩ => by rw [r.length]; exact hlen ds Q h) (fun cdv A outer s H vs QV E hr ⟨F, ds, Q, sF, r, h, post⟩ => ⟨lS K false τ, body cdv A outer s H E hr, ?_⟩)
  refine ⟨.non, rest2 H F emp, F, _, emp, ends0 Q, ⟨?_, same_emp, sF, rest2_same, rest2_F, Dis.emp, Dis.emp, fun _ z => nomatch z⟩, rd ds Q h, ?_⟩
  · have := ownS_app (N.length - ds.length) (ownS_fz r)
    rw [start_eq, r.length]
    exact this
  have fin : ∀ F' Γ' σ' h' hr H' o v, Same F F' → AtR K (pns false .non) (rest2 H F emp) F' Γ' σ' h' hr H' → Own K F' o v hr → Q o → QV v H' := fun F' Γ' σ' h' hr H' o v s' A' w' q' => by
    have there : ∀ a, H a ≠ none → F a = none → rest2 H F emp a = H a := fun a _ e => rest2_of e rfl
    refine post F' hr H' o v ⟨s', A'.at_.FH, fun a u e => ?_, fun a e => ?_⟩ w' A'.rH A'.rF (fun a e => ?_) q'
    · cases e1 : F a with
      | some u' =>
        have := sF _ _ e1
        rw [e] at this; cases this
        exact A'.at_.FH _ _ (s' _ _ e1)
      | none => exact A'.at_.ZH _ _ ((there a (by rw [e]; simp) e1).trans e)
    · cases e1 : F a with
      | some u' => exact .inl (by simp)
      | none =>
        right
        cases e2 : H a with
        | none => rfl
        | some u =>
          rcases A'.at_.FZ a with z | z
          · exact absurd z e
          · rw [there a (by rw [e2]; simp) e1, e2] at z; cases z
    · cases e2 : H a with
      | none => rfl
      | some u =>
        cases e1 : F a with
        | some u' =>
          rcases A'.rF a with z | z
          · exact absurd z e
          · rw [s' _ _ e1] at z; cases z
        | none =>
          rcases A'.rZ a with z | z
          · exact absurd z e
          · rw [there a (by rw [e2]; simp) e1, e2] at z; cases z
  exact ⟨fun F' Γ' σ' h' H' s' A' q' => fin F' Γ' σ' h' emp H' (.fz .none) .non s' A'.alone ⟨rfl, .non⟩ q', fun _ _ _ _ _ _ _ q => q.elim, fun _ _ _ _ _ _ _ q => q.elim, fun F' Γ' σ' h' hr H' o v s' A' w' q' => fin F' Γ' σ' h' hr H' o v s' A' w' q'⟩
theorem vfn1 {wp : W1} {τ : ES} (Fu : Fun K x qual st f fd) (S : FnScope N ps (defScope st)) (hlen : ∀ o ds Q, wp o ds Q → ds.length + 1 = ps.length)
    (body : ∀ (cdv : Value) (A : Around) (outer : List Env) (s : Shared) (H : Hp) (E : XK), Room k (A.deeper (PyProof.Rows.envOfC qual (defScope st) s.heap.objs.size f cdv)) → PSs (cxOf CX0 P w K mg base N qual (defScope st) f cdv A outer s H E).nox (defBody st) (lS K true τ))
    (rd : ∀ o ds Q, wp o ds Q → τ (ends1 Q) (some o :: fzs ds ++ List.replicate (N.length - (ds.length + 1)) none)) : FnOk P w K mg base CX0 (k + 1) f fd ps (toSp1 K wp) := by
  have len2 : ∀ {F : Hp} {ds : List PyData} {vr : List V} {o0 : O} {v0 : V} {h0 : Hp}, OwnS K F (some o0 :: fzs ds) (some v0 :: vr.map some) h0 → vr.length = ds.length := fun q => by
    have := q.len
    simpa [fzs] using this.symm
  refine Fu.ok S (fun vs H QV E ⟨v0, vr, Z, F, h0, o0, ds, Q, e, A, h, _⟩ => by subst e; rw [List.length_cons, len2 A.own]; exact hlen o0 ds Q h) (fun cdv A outer s H vs QV E hr ⟨v0, vr, Z, F, h0, o0, ds, Q, e, B, h, post⟩ => ⟨lS K true τ, body cdv A outer s H E hr, ?_⟩)
  subst e
  have hl := len2 B.own
  refine ⟨v0, Z, F, _, h0, ends1 Q, ⟨?_, B.hH, B.FH, B.ZH, B.FZ, B.hF, B.hZ, fun p hp => ?_⟩, rd o0 ds Q h, ?_⟩
  · have := ownS_app (N.length - (ds.length + 1)) B.own
    rw [start_eq, List.length_cons, hl]
    exact this
  · have : p = (0, v0) := by simpa [pns] using hp
    subst this
    rfl
  have fin : ∀ F' Γ' σ' h' hr H' o v, Same F F' → AtR K (pns true v0) Z F' Γ' σ' h' hr H' → Own K F' o v hr → (∃ o0, Γ'[0]? = some (some o0) ∧ Q o o0) → QV v H' := fun F' Γ' σ' h' hr H' o v s' A' w' ⟨o0', e, q'⟩ => by
    obtain ⟨v1, g1, g2, a1, a2, a3, a4, _⟩ := A'.at_.own.focus e
    have hp := A'.at_.pin (0, v0) (by simp [pns])
    have hp : σ'[0]? = some (some v0) := hp
    rw [a1] at hp
    have ev : v1 = v0 := Option.some.inj (Option.some.inj hp)
    subst ev
    subst a2
    refine post F' g1 hr H' o o0' v s' ⟨⟨⟨v1, [], g1, emp, rfl, by rw [jn_emp], Dis.emp.symm, a4, rfl, rfl⟩, fun a u z => A'.at_.hH _ _ (same_l _ _ z), A'.at_.FH, A'.at_.ZH, A'.at_.FZ, Dis.sub same_l A'.at_.hF, Dis.sub same_l A'.at_.hZ, fun _ z => nomatch z⟩, A'.rH, (Dis.sub same_l A'.rh.symm).symm, A'.rF, A'.rZ⟩ w' q'
  exact ⟨fun F' Γ' σ' h' H' s' A' q' => fin F' Γ' σ' h' emp H' (.fz .none) .non s' A'.alone ⟨rfl, .non⟩ q', fun _ _ _ _ _ _ _ q => q.elim, fun _ _ _ _ _ _ _ q => q.elim, fun F' Γ' σ' h' hr H' o v s' A' w' q' => fin F' Γ' σ' h' hr H' o v s' A' w' q'⟩
end
end VL
end
section
namespace VL
open PySem PySem.Spec L2

/-! ### operations on data -/
def shaped (d : PyData) : Prop := SeqAt.shaped d = true
def opAdd : PyData → PyData → (O → Prop) → Prop
  | .int i, .int j, Q => Q (.fz (.int (i + j)))
  | .str x, .str y, Q => x.length + y.length ≤ sizeLine ∧ Q (.fz (.str (x ++ y)))
  | .tuple xs, .tuple ys, Q => xs.length + ys.length ≤ sizeLine ∧ Q (.fz (.tuple (xs ++ ys)))
  | .list xs, .list ys, Q => xs.length + ys.length ≤ sizeLine ∧ Q (.ls (xs ++ ys))
  | _, _, _ => False
def opSub : PyData → PyData → (O → Prop) → Prop
  | .int i, .int j, Q => Q (.fz (.int (i - j)))
  | _, _, _ => False
def opMul : PyData → PyData → (O → Prop) → Prop
  | .int i, .int j, Q => CMulX i j ∧ Q (.fz (.int (i * j)))
  | .list xs, .int k, Q => (-(2 ^ 63) ≤ k ∧ k < 2 ^ 63 ∧ xs.length * k.toNat ≤ sizeLine) ∧ Q (.ls (List.replicate k.toNat xs).flatten)
  | .tuple xs, .int k, Q => (xs ≠ [] ∧ 1 ≤ k ∧ k ≤ 1000 ∧ xs.length ≤ 1000) ∧ Q (.fz (.tuple (List.replicate k.toNat xs).flatten))
  | _, _, _ => False
def opDiv : PyData → PyData → (O → Prop) → Prop
  | .int i, .int j, Q => CDivW i j ∧ Q (.fz (.int (i / j)))
  | _, _, _ => False
def opMod : PyData → PyData → (O → Prop) → Prop
  | .int i, .int j, Q => 0 < j ∧ Q (.fz (.int (i % j)))
  | _, _, _ => False
def opShl : PyData → PyData → (O → Prop) → Prop
  | .int i, .int j, Q => CShl i j ∧ Q (.fz (.int (i * 2 ^ j.toNat)))
  | _, _, _ => False
def opShr : PyData → PyData → (O → Prop) → Prop
  | .int i, .int j, Q => 0 ≤ j ∧ Q (.fz (.int (i / 2 ^ j.toNat)))
  | _, _, _ => False
def opAndI : PyData → PyData → (O → Prop) → Prop
  | .int i, .int j, Q => Q (.fz (.int (Builtin.bitAnd i j)))
  | _, _, _ => False
def opPow : PyData → PyData → (O → Prop) → Prop
  | .int i, .int j, Q => CPow i j ∧ Q (.fz (.int (i ^ j.toNat)))
  | _, _, _ => False
def opLt : PyData → PyData → (O → Prop) → Prop
  | .int i, .int j, Q => Q (.fz (.bool (decide (i < j))))
  | _, _, _ => False
def opLe : PyData → PyData → (O → Prop) → Prop
  | .int i, .int j, Q => Q (.fz (.bool (decide (i ≤ j))))
  | _, _, _ => False
def opGt : PyData → PyData → (O → Prop) → Prop
  | .int i, .int j, Q => Q (.fz (.bool (decide (j < i))))
  | _, _, _ => False
def opGe : PyData → PyData → (O → Prop) → Prop
  | .int i, .int j, Q => Q (.fz (.bool (decide (j ≤ i))))
  | _, _, _ => False
def opEq (d e : PyData) (Q : O → Prop) : Prop := shaped d ∧ shaped e ∧ Q (.fz (.bool (PyData.eqv d e)))
def opNe (d e : PyData) (Q : O → Prop) : Prop := shaped d ∧ shaped e ∧ Q (.fz (.bool (!PyData.eqv d e)))
def opIsN (d e : PyData) (Q : O → Prop) : Prop := e = .none ∧ Q (.fz (.bool (match d with | .none => true | _ => false)))
def opNotN (d e : PyData) (Q : O → Prop) : Prop := e = .none ∧ Q (.fz (.bool (match d with | .none => false | _ => true)))
def opIn : PyData → PyData → (O → Prop) → Prop
  | d, .list ds, Q => shaped d ∧ shaped (.list ds) ∧ Q (.fz (.bool (ds.any fun z => PyData.eqv z d)))
  | d, .tuple ds, Q => shaped d ∧ shaped (.tuple ds) ∧ Q (.fz (.bool (ds.any fun z => PyData.eqv z d)))
  | .str i, .str j, Q => Q (.fz (.bool (!(Builtin.Str.occurrences j i 0 j.length 1).isEmpty)))
  | _, _, _ => False
def opNotIn : PyData → PyData → (O → Prop) → Prop
  | d, .list ds, Q => shaped d ∧ shaped (.list ds) ∧ Q (.fz (.bool (!ds.any fun z => PyData.eqv z d)))
  | d, .tuple ds, Q => shaped d ∧ shaped (.tuple ds) ∧ Q (.fz (.bool (!ds.any fun z => PyData.eqv z d)))
  | .str i, .str j, Q => Q (.fz (.bool (!(!(Builtin.Str.occurrences j i 0 j.length 1).isEmpty))))
  | _, _, _ => False
def opIx : PyData → PyData → (O → Prop) → Prop
  | .list ds, .int i, Q => ∃ d, atI ds i = some d ∧ Q (.fz d)
  | .tuple ds, .int i, Q => ∃ d, atI ds i = some d ∧ Q (.fz d)
  | .str z, .int i, Q => z.length ≤ sizeLine ∧ ∃ c, atI z.cps.toList i = some c ∧ Q (.fz (.str ⟨#[c]⟩))
  | _, _, _ => False
def op1Neg : PyData → (O → Prop) → Prop
  | .int i, Q => Q (.fz (.int (-i)))
  | _, _ => False
section
variable {K : PySem.W.Frag} {F H : Hp}
theorem atI_all {ds : List PyData} {vs : List V} {i : Int} {d : PyData} (h : RpAll K F vs ds) (e : atI ds i = some d) : ∃ v, atI vs i = some v ∧ Rp K F v d := by
  unfold atI at e ⊢
  rw [h.length]
  cases e1 : ixN ds.length i with
  | none => rw [e1] at e; cases e
  | some j => rw [e1] at e; exact h.getd e
end
theorem RepS.tupR {K : PySem.W.Frag} {F H : Hp} {ds : List PyData} {v : V} (r : RepS K F H (.tuple ds) v) : Rp K F v (.tuple ds) := by
  rcases r with r | ⟨_, _, _, _, e, _⟩
  · exact r
  · cases e
section
variable {X : Cx}
theorem o2_add : Op2 X (binaryOp .Add) opAdd := by
  intro pins s σ H x y v u QV I rx ry ⟨F, d1, d2, Q, sF, r1, r2, h, post⟩
  unfold opAdd at h
  split at h
  · cases r1.int; cases r2.int
    exact op_add pins s σ H _ _ v u QV I rx ry ⟨_, _, rfl, rfl, post.val sF (.int _) h⟩
  · cases r1.str; cases r2.str
    exact op_add_str pins s σ H _ _ v u QV I rx ry ⟨_, _, rfl, rfl, h.1, post.val sF (.str _) h.2⟩
  · obtain ⟨a, vs, rfl, ha, ra⟩ := r1.tup sF
    obtain ⟨b, ws, rfl, hb, rb⟩ := r2.tup sF
    have q1 := r1.tupR
    have q2 := r2.tupR
    refine op_catN pins s σ H _ _ v u QV I rx ry ⟨a, b, vs, ws, rfl, rfl, ha, hb, by rw [ra.length, rb.length]; exact h.1, fun e => ?_, fun _ e => ?_, fun _ _ p o n hd => ?_⟩
    · subst e; cases ra; exact post.val sF q2 h.2
    · subst e; cases rb; rw [List.append_nil] at h; exact post.val sF q1 h.2
    · exact post.newT sF n hd (ra.append rb) h.2
  · obtain ⟨a, vs, rfl, ha, ra⟩ := r1.list sF
    obtain ⟨b, ws, rfl, hb, rb⟩ := r2.list sF
    exact op_cat pins s σ H _ _ v u QV I rx ry ⟨a, b, vs, ws, rfl, rfl, ha, hb, by rw [ra.length, rb.length]; exact h.1, fun p n => post.newL sF n (ra.append rb) h.2⟩
  · exact h.elim
theorem o2_sub : Op2 X (binaryOp .Sub) opSub := by
  intro pins s σ H x y v u QV I rx ry ⟨F, d1, d2, Q, sF, r1, r2, h, post⟩
  unfold opSub at h
  split at h
  · cases r1.int; cases r2.int
    exact op_sub pins s σ H _ _ v u QV I rx ry ⟨_, _, rfl, rfl, post.val sF (.int _) h⟩
  · exact h.elim
theorem rep_all {K : PySem.W.Frag} {F : Hp} {ds : List PyData} {vs : List V} (r : RpAll K F vs ds) : ∀ k : Nat, RpAll K F (List.replicate k vs).flatten (List.replicate k ds).flatten
  | 0 => .nil
  | k + 1 => by rw [List.replicate_succ, List.flatten_cons, List.replicate_succ, List.flatten_cons]; exact r.append (rep_all r k)
theorem o2_mul : Op2 X (binaryOp .Mult) opMul := by
  intro pins s σ H x y v u QV I rx ry ⟨F, d1, d2, Q, sF, r1, r2, h, post⟩
  unfold opMul at h
  split at h
  · cases r1.int; cases r2.int
    exact op_mulX pins s σ H _ _ v u QV I rx ry ⟨_, _, rfl, rfl, h.1, post.val sF (.int _) h.2⟩
  · obtain ⟨a, vs, rfl, ha, ra⟩ := r1.list sF
    cases r2.int
    exact op_rep pins s σ H _ _ v u QV I rx ry ⟨a, _, vs, rfl, rfl, ha, h.1.1, h.1.2.1, by rw [ra.length]; exact h.1.2.2, fun p n => post.newL sF n (rep_all ra _) h.2⟩
  · have q1 := r1.tupR
    obtain ⟨a, vs, rfl, ha, ra⟩ := r1.tup sF
    cases r2.int
    refine op_repN pins s σ H _ _ v u QV I rx ry ⟨a, _, vs, rfl, rfl, ha, fun e => h.1.1 ?_, h.1.2.1, h.1.2.2.1, by rw [ra.length]; exact h.1.2.2.2, fun e => ?_, fun _ p o n hd => post.newT sF n hd (rep_all ra _) h.2⟩
    · subst e; cases ra; rfl
    · subst e
      refine post.val sF q1 ?_
      have := h.2
      rw [show (1 : Int).toNat = 1 from rfl, List.replicate_one, List.flatten_cons, List.flatten_nil, List.append_nil] at this
      exact this
  · exact h.elim
theorem o2_div : Op2 X (binaryOp .FloorDiv) opDiv := by
  intro pins s σ H x y v u QV I rx ry ⟨F, d1, d2, Q, sF, r1, r2, h, post⟩
  unfold opDiv at h
  split at h
  · cases r1.int; cases r2.int
    exact op_fdivW pins s σ H _ _ v u QV I rx ry ⟨_, _, rfl, rfl, h.1, post.val sF (.int _) h.2⟩
  · exact h.elim
theorem o2_mod : Op2 X (binaryOp .Mod) opMod := by
  intro pins s σ H x y v u QV I rx ry ⟨F, d1, d2, Q, sF, r1, r2, h, post⟩
  unfold opMod at h
  split at h
  · cases r1.int; cases r2.int
    exact op_mod pins s σ H _ _ v u QV I rx ry ⟨_, _, rfl, rfl, h.1, post.val sF (.int _) h.2⟩
  · exact h.elim
theorem o2_shl : Op2 X (binaryOp .LShift) opShl := by
  intro pins s σ H x y v u QV I rx ry ⟨F, d1, d2, Q, sF, r1, r2, h, post⟩
  unfold opShl at h
  split at h
  · cases r1.int; cases r2.int
    exact op_shlW pins s σ H _ _ v u QV I rx ry ⟨_, _, rfl, rfl, h.1, post.val sF (.int _) h.2⟩
  · exact h.elim
theorem o2_shr : Op2 X (binaryOp .RShift) opShr := by
  intro pins s σ H x y v u QV I rx ry ⟨F, d1, d2, Q, sF, r1, r2, h, post⟩
  unfold opShr at h
  split at h
  · cases r1.int; cases r2.int
    exact op_shr pins s σ H _ _ v u QV I rx ry ⟨_, _, rfl, rfl, h.1, post.val sF (.int _) h.2⟩
  · exact h.elim
theorem o2_and : Op2 X (binaryOp .BitAnd) opAndI := by
  intro pins s σ H x y v u QV I rx ry ⟨F, d1, d2, Q, sF, r1, r2, h, post⟩
  unfold opAndI at h
  split at h
  · cases r1.int; cases r2.int
    exact op_and pins s σ H _ _ v u QV I rx ry ⟨_, _, rfl, rfl, post.val sF (.int _) h⟩
  · exact h.elim
theorem o2_pow : Op2 X (binaryOp .Pow) opPow := by
  intro pins s σ H x y v u QV I rx ry ⟨F, d1, d2, Q, sF, r1, r2, h, post⟩
  unfold opPow at h
  split at h
  · cases r1.int; cases r2.int
    exact op_pow pins s σ H _ _ v u QV I rx ry ⟨_, _, rfl, rfl, h.1, post.val sF (.int _) h.2⟩
  · exact h.elim
theorem o2_lt : Op2 X (compareOp .Lt) opLt := by
  intro pins s σ H x y v u QV I rx ry ⟨F, d1, d2, Q, sF, r1, r2, h, post⟩
  unfold opLt at h
  split at h
  · cases r1.int; cases r2.int
    exact op_lt pins s σ H _ _ v u QV I rx ry ⟨_, _, rfl, rfl, post.val sF (.bl _) h⟩
  · exact h.elim
theorem o2_le : Op2 X (compareOp .LtE) opLe := by
  intro pins s σ H x y v u QV I rx ry ⟨F, d1, d2, Q, sF, r1, r2, h, post⟩
  unfold opLe at h
  split at h
  · cases r1.int; cases r2.int
    exact op_le pins s σ H _ _ v u QV I rx ry ⟨_, _, rfl, rfl, post.val sF (.bl _) h⟩
  · exact h.elim
theorem o2_gt : Op2 X (compareOp .Gt) opGt := by
  intro pins s σ H x y v u QV I rx ry ⟨F, d1, d2, Q, sF, r1, r2, h, post⟩
  unfold opGt at h
  split at h
  · cases r1.int; cases r2.int
    exact op_gt pins s σ H _ _ v u QV I rx ry ⟨_, _, rfl, rfl, post.val sF (.bl _) h⟩
  · exact h.elim
theorem o2_ge : Op2 X (compareOp .GtE) opGe := by
  intro pins s σ H x y v u QV I rx ry ⟨F, d1, d2, Q, sF, r1, r2, h, post⟩
  unfold opGe at h
  split at h
  · cases r1.int; cases r2.int
    exact op_ge pins s σ H _ _ v u QV I rx ry ⟨_, _, rfl, rfl, post.val sF (.bl _) h⟩
  · exact h.elim
theorem RepS.dpH {K : PySem.W.Frag} {F H : Hp} {d : PyData} {v : V} (s : Same F H) (r : RepS K F H d v) (c : shaped d) : Dp K H v d := Rp.dp d (r.rpH s) (SeqAt.canLay_of_shaped c)
theorem o2_eq (hu : X.A.units + 64 < cLine) : Op2 X (compareOp .Eq) opEq := by
  intro pins s σ H x y v u QV I rx ry ⟨F, d1, d2, Q, sF, r1, r2, ⟨c1, c2, h⟩, post⟩
  exact op_eqD hu pins s σ H _ _ v u QV I rx ry ⟨d1, d2, r1.dpH sF c1, r2.dpH sF c2, c1, c2, post.val sF (.bl _) h⟩
theorem o2_ne (hu : X.A.units + 64 < cLine) : Op2 X (compareOp .NotEq) opNe := by
  intro pins s σ H x y v u QV I rx ry ⟨F, d1, d2, Q, sF, r1, r2, ⟨c1, c2, h⟩, post⟩
  exact op_neD hu pins s σ H _ _ v u QV I rx ry ⟨d1, d2, r1.dpH sF c1, r2.dpH sF c2, c1, c2, post.val sF (.bl _) h⟩
theorem o2_isN : Op2 X (compareOp .Is) opIsN := by
  intro pins s σ H x y v u QV I rx ry ⟨F, d1, d2, Q, sF, r1, r2, ⟨e, h⟩, post⟩
  subst e
  have ey := r2.non
  have r := r1.rpH sF
  refine op_isN pins s σ H _ _ v u QV I rx ry ⟨ey, ?_⟩
  cases r <;> exact post.val sF (.bl _) h
theorem o2_notN : Op2 X (compareOp .IsNot) opNotN := by
  intro pins s σ H x y v u QV I rx ry ⟨F, d1, d2, Q, sF, r1, r2, ⟨e, h⟩, post⟩
  subst e
  have ey := r2.non
  have r := r1.rpH sF
  refine op_notN pins s σ H _ _ v u QV I rx ry ⟨ey, ?_⟩
  cases r <;> exact post.val sF (.bl _) h
theorem o2_in (hu : X.A.units + 65 < cLine) : Op2 X (compareOp .In) opIn := by
  intro pins s σ H x y v u QV I rx ry ⟨F, d1, d2, Q, sF, r1, r2, h, post⟩
  unfold opIn at h
  split at h
  · obtain ⟨c1, c2, h⟩ := h
    exact op_inD hu pins s σ H _ _ v u QV I rx ry ⟨_, _, r1.dpH sF c1, r2.dpH sF c2, c1, c2, post.val sF (.bl _) h⟩
  · obtain ⟨c1, c2, h⟩ := h
    obtain ⟨as, q1⟩ := Dp.reads I _ x v (r1.dpH sF c1) rx
    obtain ⟨bs, q2⟩ := Dp.reads I _ y u (r2.dpH sF c2) ry
    exact SeqAt.in_tuple_reads q2 q1 (SeqAt.canLay_of_shaped c2) (SeqAt.canLay_of_shaped c1) (PyProof.Rows.room_in_shaped c1 hu) ⟨.bl _, H, I, rfl, post.val sF (.bl _) h⟩
  · cases r1.str; cases r2.str
    exact op_in_str pins s σ H _ _ v u QV I rx ry ⟨_, _, rfl, rfl, post.val sF (.bl _) h⟩
  · exact h.elim
theorem o2_notIn (hu : X.A.units + 65 < cLine) : Op2 X (compareOp .NotIn) opNotIn := by
  intro pins s σ H x y v u QV I rx ry ⟨F, d1, d2, Q, sF, r1, r2, h, post⟩
  unfold opNotIn at h
  split at h
  · obtain ⟨c1, c2, h⟩ := h
    exact op_notInD hu pins s σ H _ _ v u QV I rx ry ⟨_, _, r1.dpH sF c1, r2.dpH sF c2, c1, c2, post.val sF (.bl _) h⟩
  · obtain ⟨c1, c2, h⟩ := h
    obtain ⟨as, q1⟩ := Dp.reads I _ x v (r1.dpH sF c1) rx
    obtain ⟨bs, q2⟩ := Dp.reads I _ y u (r2.dpH sF c2) ry
    exact SeqAt.notIn_tuple_reads q2 q1 (SeqAt.canLay_of_shaped c2) (SeqAt.canLay_of_shaped c1) (PyProof.Rows.room_in_shaped c1 hu) ⟨.bl _, H, I, rfl, post.val sF (.bl _) h⟩
  · cases r1.str; cases r2.str
    exact op_notin_str pins s σ H _ _ v u QV I rx ry ⟨_, _, rfl, rfl, post.val sF (.bl _) h⟩
  · exact h.elim
theorem ix2_any : Ix2 X opIx := by
  intro value slice pins s σ H x y v u QV I rx ry ⟨F, d1, d2, Q, sF, r1, r2, h, post⟩ hs
  unfold opIx at h
  split at h
  · obtain ⟨d, e, h⟩ := h
    obtain ⟨a, vs, rfl, ha, ra⟩ := r1.list sF
    cases r2.int
    obtain ⟨w, e2, r⟩ := atI_all ra e
    exact ix_list value slice pins s σ H _ _ v u QV I rx ry ⟨a, vs, _, w, rfl, rfl, SqL.of ha, e2, post.val sF r h⟩ hs
  · obtain ⟨d, e, h⟩ := h
    obtain ⟨a, vs, rfl, ha, ra⟩ := r1.tup sF
    cases r2.int
    obtain ⟨w, e2, r⟩ := atI_all ra e
    exact ix_tup value slice pins s σ H _ _ v u QV I rx ry ⟨a, vs, _, w, rfl, rfl, ha, e2, post.val sF r h⟩ hs
  · obtain ⟨z, c, e, h⟩ := h
    cases r1.str; cases r2.int
    exact ix_str value slice pins s σ H _ _ v u QV I rx ry ⟨_, _, c, rfl, rfl, z, e, post.val sF (.str _) h⟩ hs
  · exact h.elim
theorem o1_neg : Op1 X (unaryOp .USub) op1Neg := by
  intro pins s σ H x v QV I rx ⟨F, d1, Q, sF, r1, h, post⟩
  unfold op1Neg at h
  split at h
  · cases r1.int
    exact un_neg pins s σ H _ v QV I rx ⟨_, rfl, post.val sF (.int _) h⟩
  · exact h.elim
end
end VL
end
section
namespace VL
open PySem PySem.Spec L2

/-! ### calls of built-ins on data -/
def cdLen : List PyData → (O → Prop) → Prop
  | [.list ds], Q => Q (.fz (.int (ds.length : Nat)))
  | [.tuple ds], Q => Q (.fz (.int (ds.length : Nat)))
  | [.str x], Q => x.length ≤ sizeLine ∧ Q (.fz (.int (x.length : Nat)))
  | _, _ => False
def cdInt : List PyData → (O → Prop) → Prop
  | [.int i], Q => Q (.fz (.int i))
  | [.bool b], Q => Q (.fz (.int (if b then 1 else 0)))
  | _, _ => False
def cdAbs : List PyData → (O → Prop) → Prop
  | [.int i], Q => Q (.fz (.int (if i < 0 then -i else i)))
  | _, _ => False
def cdMin2 : List PyData → (O → Prop) → Prop
  | [.int i, .int j], Q => Q (.fz (.int (if j < i then j else i)))
  | _, _ => False
def cdMax2 : List PyData → (O → Prop) → Prop
  | [.int i, .int j], Q => Q (.fz (.int (if j > i then j else i)))
  | _, _ => False
def cdTuple : List PyData → (O → Prop) → Prop
  | [.list ds], Q => Q (.fz (.tuple ds))
  | [.tuple ds], Q => Q (.fz (.tuple ds))
  | _, _ => False
def cdList : List PyData → (O → Prop) → Prop
  | [.list ds], Q => Q (.ls ds)
  | [.tuple ds], Q => Q (.ls ds)
  | _, _ => False
def cdStr : List PyData → (O → Prop) → Prop
  | [.int i], Q => i.natAbs.log2 < 1920 ∧ Q (.fz (.str (toString i)))
  | _, _ => False
section
variable {K : PySem.W.Frag} {F H : Hp} {vs : List V}
theorem RepL.one' {d : PyData} (h : RepL K F H [d] vs) : ∃ v, vs = [v] ∧ RepS K F H d v := by
  cases h with
  | cons r t => cases t; exact ⟨_, rfl, r⟩
theorem RepL.two' {d e : PyData} (h : RepL K F H [d, e] vs) : ∃ v u, vs = [v, u] ∧ RepS K F H d v ∧ RepS K F H e u := by
  cases h with
  | cons r t =>
    obtain ⟨u, rfl, r2⟩ := t.one'
    exact ⟨_, u, rfl, r, r2⟩
end
section
variable {X : Cx}
theorem cd_len : CallD X (.builtin "len") cdLen := by
  intro pins s σ H xs us QV I rx ⟨F, ds, Q, sF, rl, h, post⟩
  unfold cdLen at h
  split at h
  · obtain ⟨v, rfl, r⟩ := rl.one'
    obtain ⟨a, vs, rfl, ha, ra⟩ := r.list sF
    exact call_len_seq pins s σ H _ us QV I rx ⟨a, vs, rfl, .inl (SqL.of ha), by rw [ra.length]; exact post.val sF (.int _) h⟩
  · obtain ⟨v, rfl, r⟩ := rl.one'
    obtain ⟨a, vs, rfl, ha, ra⟩ := r.tup sF
    exact call_len_seq pins s σ H _ us QV I rx ⟨a, vs, rfl, .inr ha, by rw [ra.length]; exact post.val sF (.int _) h⟩
  · obtain ⟨v, rfl, r⟩ := rl.one'
    cases r.str
    exact call_len_str pins s σ H _ us QV I rx ⟨_, rfl, h.1, post.val sF (.int _) h.2⟩
  · exact h.elim
theorem cd_int : CallD X (.type "int") cdInt := by
  intro pins s σ H xs us QV I rx ⟨F, ds, Q, sF, rl, h, post⟩
  unfold cdInt at h
  split at h
  · obtain ⟨v, rfl, r⟩ := rl.one'
    cases r.int
    exact call_int1 pins s σ H _ us QV I rx (.inl ⟨_, rfl, post.val sF (.int _) h⟩)
  · obtain ⟨v, rfl, r⟩ := rl.one'
    cases r.bl
    exact call_int1 pins s σ H _ us QV I rx (.inr ⟨_, rfl, post.val sF (.int _) h⟩)
  · exact h.elim
theorem cd_abs : CallD X (.builtin "abs") cdAbs := by
  intro pins s σ H xs us QV I rx ⟨F, ds, Q, sF, rl, h, post⟩
  unfold cdAbs at h
  split at h
  · obtain ⟨v, rfl, r⟩ := rl.one'
    cases r.int
    exact call_abs pins s σ H _ us QV I rx ⟨_, rfl, post.val sF (.int _) h⟩
  · exact h.elim
theorem cd_min2 (hc : X.calm = true) : CallD X (.builtin "min") cdMin2 := by
  intro pins s σ H xs us QV I rx ⟨F, ds, Q, sF, rl, h, post⟩
  unfold cdMin2 at h
  split at h
  · obtain ⟨v, u, rfl, r, r2⟩ := rl.two'
    cases r.int; cases r2.int
    exact call_min2 hc pins s σ H _ us QV I rx ⟨_, _, rfl, post.val sF (.int _) h⟩
  · exact h.elim
theorem cd_max2 (hc : X.calm = true) : CallD X (.builtin "max") cdMax2 := by
  intro pins s σ H xs us QV I rx ⟨F, ds, Q, sF, rl, h, post⟩
  unfold cdMax2 at h
  split at h
  · obtain ⟨v, u, rfl, r, r2⟩ := rl.two'
    cases r.int; cases r2.int
    exact call_max2 hc pins s σ H _ us QV I rx ⟨_, _, rfl, post.val sF (.int _) h⟩
  · exact h.elim
theorem cd_tuple : CallD X (.type "tuple") cdTuple := by
  intro pins s σ H xs us QV I rx ⟨F, ds, Q, sF, rl, h, post⟩
  unfold cdTuple at h
  split at h
  · obtain ⟨v, rfl, r⟩ := rl.one'
    obtain ⟨a, vs, rfl, ha, ra⟩ := r.list sF
    exact call_tupN pins s σ H _ us QV I rx ⟨a, vs, rfl, .inl ⟨SqL.of ha, fun l o n hd => post.newT sF n hd ra h⟩⟩
  · obtain ⟨v, rfl, r⟩ := rl.one'
    have q := r.tupR
    obtain ⟨a, vs, rfl, ha, ra⟩ := r.tup sF
    exact call_tupN pins s σ H _ us QV I rx ⟨a, vs, rfl, .inr ⟨ha, post.val sF q h⟩⟩
  · exact h.elim
theorem cd_list : CallD X (.type "list") cdList := by
  intro pins s σ H xs us QV I rx ⟨F, ds, Q, sF, rl, h, post⟩
  unfold cdList at h
  split at h
  · obtain ⟨v, rfl, r⟩ := rl.one'
    obtain ⟨a, vs, rfl, ha, ra⟩ := r.list sF
    exact call_list_of pins s σ H _ us QV I rx ⟨a, vs, rfl, .inl (SqL.of ha), fun l n => post.newL sF n ra h⟩
  · obtain ⟨v, rfl, r⟩ := rl.one'
    obtain ⟨a, vs, rfl, ha, ra⟩ := r.tup sF
    exact call_list_of pins s σ H _ us QV I rx ⟨a, vs, rfl, .inr ha, fun l n => post.newL sF n ra h⟩
  · exact h.elim
theorem cd_str : CallD X (.type "str") cdStr := by
  intro pins s σ H xs us QV I rx ⟨F, ds, Q, sF, rl, h, post⟩
  unfold cdStr at h
  split at h
  · obtain ⟨v, rfl, r⟩ := rl.one'
    cases r.int
    exact call_str_int pins s σ H _ us QV I rx ⟨_, rfl, h.1, post.val sF (.str _) h.2⟩
  · exact h.elim
end
section
variable {X : Cx} {x : Str} {id T : String} {p pos : Pos} {e : Expr} {es : List Expr} {τ : EX} {τs : EA} {cd : List PyData → (O → Prop) → Prop}
theorem cb_read {σ : St} {H : Hp} {QV : VK} (h : lO X.K (eCB cd τs) σ H QV) : tCB (fun vs H QV => ∃ F ds Q, Same F H ∧ RepL X.K F H ds vs ∧ cd ds Q ∧ OpPost X.K F H Q QV) (lA X.K τs) σ H QV := by
  obtain ⟨pn, Z, F, Γ, hh, Q, A, q, k⟩ := h
  exact ⟨pn, Z, F, Γ, hh, _, A, q, fun F1 Γ1 h1 H1 as vs s1 A1 r1 ⟨ds, e1, q1⟩ => ⟨F1, ds, _, A1.FH, reps_of A1 r1 e1, q1, A1.post s1 k⟩⟩
theorem vo_cb (hc : CallD X (.builtin id) cd) (hg : Gl X x) (hm : X.mg x = none) (hv : bootBuiltins x = some (.builtin id)) (ha : PA X (e :: es) (lA X.K τs)) (hn : x ≠ "__name__" := by decide) (hdb : (x == ("__debug__" : Str)) = false := by decide)
    (he : starEach (e :: es) X.env = (false, eval e X.env) :: starEach es X.env := by rfl) (hpl : (backTo pos (starEach es X.env)).any (·.1) = false := by rfl) : PE X (.Call (.Name x p) (e :: es) [] pos) (lO X.K (eCB cd τs)) :=
  pe_imp (pe_callB hc hg hm hv ha hn hdb he hpl) fun σ H QV h => cb_read h
theorem vo_cty (hc : CallD X (.type T) cd) (hg : Gl X x) (hm : X.mg x = none) (hv : bootBuiltins x = some (.type T)) (ha : PA X (e :: es) (lA X.K τs)) (hn : x ≠ "__name__" := by decide) (hdb : (x == ("__debug__" : Str)) = false := by decide)
    (he : starEach (e :: es) X.env = (false, eval e X.env) :: starEach es X.env := by rfl) (hpl : (backTo pos (starEach es X.env)).any (·.1) = false := by rfl) : PE X (.Call (.Name x p) (e :: es) [] pos) (lO X.K (eCB cd τs)) :=
  pe_imp (pe_callTy hc hg hm hv ha hn hdb he hpl) fun σ H QV h => cb_read h
/-! list(range(..)), tuple(range(..)) -/
def eLRg1 (τ : EX) : EO := fun Γ Q => τ Γ fun a Γ1 => ∃ n : Int, rslv Γ1 a = some (.int n) ∧ RgOk 0 n ∧ Q (.ls (rangeN n.toNat)) Γ1
def eLRg2 (τ τ' : EX) : EO := fun Γ Q => τ Γ fun a Γ1 => τ' Γ1 fun b Γ2 => ∃ n m : Int, rslv Γ2 a = some (.int n) ∧ rslv Γ2 b = some (.int m) ∧ RgOk n m ∧ Q (.ls (rangeD n (m - n).toNat)) Γ2
def eTRg1 (τ : EX) : EO := fun Γ Q => τ Γ fun a Γ1 => ∃ n : Int, rslv Γ1 a = some (.int n) ∧ RgOk 0 n ∧ Q (.fz (.tuple (rangeN n.toNat))) Γ1
theorem rgV_all {K : PySem.W.Frag} {F : Hp} (a b : Int) : RpAll K F (rgV a b) (rangeD a (b - a).toNat) := by
  unfold rgV rangeD
  generalize (b - a).toNat = n
  induction List.range n with
  | nil => exact .nil
  | cons x xs ih => exact .cons (.int _) ih
theorem vo_listRg1 {a : Expr} {p2 pos2 : Pos} (hc : X.calm = true) (hg : Gl X "list") (hm : X.mg "list" = none) (hg2 : Gl X "range") (hm2 : X.mg "range" = none) (ha : PE X a (lX X.K τ)) (na : starEach [a] X.env = (false, eval a X.env) :: starEach [] X.env := by rfl)
    (nb : starEach [Expr.Call (.Name "range" p2) [a] [] pos2] X.env = (false, eval (.Call (.Name "range" p2) [a] [] pos2) X.env) :: starEach [] X.env := by rfl) : PE X (.Call (.Name "list" p) [.Call (.Name "range" p2) [a] [] pos2] [] pos) (lO X.K (eLRg1 τ)) :=
  pe_imp (pe_listRg hc hg hm (prg_1 hg2 hm2 ha na) nb) fun σ H QV ⟨pn, Z, F, Γ, hh, Q, A, q, k⟩ => ⟨pn, Z, F, Γ, hh, _, A, q, fun F1 Γ1 h1 H1 a v s1 A1 r1 ⟨n, e1, ok, q1⟩ =>
    ⟨n, (rep_of A1 r1 e1).int, ok, fun l nl => (A1.post s1 k).newL A1.FH nl (rgV_all 0 n) (by rw [Int.sub_zero, rangeD0]; exact q1)⟩⟩
theorem vo_tupRg1 {a : Expr} {p2 pos2 : Pos} (hc : X.calm = true) (hg : Gl X "tuple") (hm : X.mg "tuple" = none) (hg2 : Gl X "range") (hm2 : X.mg "range" = none) (ha : PE X a (lX X.K τ)) (na : starEach [a] X.env = (false, eval a X.env) :: starEach [] X.env := by rfl)
    (nb : starEach [Expr.Call (.Name "range" p2) [a] [] pos2] X.env = (false, eval (.Call (.Name "range" p2) [a] [] pos2) X.env) :: starEach [] X.env := by rfl) : PE X (.Call (.Name "tuple" p) [.Call (.Name "range" p2) [a] [] pos2] [] pos) (lO X.K (eTRg1 τ)) :=
  pe_imp (pe_tupRgN hc hg hm (prg_1 hg2 hm2 ha na) nb) fun σ H QV ⟨pn, Z, F, Γ, hh, Q, A, q, k⟩ => ⟨pn, Z, F, Γ, hh, _, A, q, fun F1 Γ1 h1 H1 a v s1 A1 r1 ⟨n, e1, ok, q1⟩ =>
    ⟨n, (rep_of A1 r1 e1).int, ok, fun l o nl hd => (A1.post s1 k).newT A1.FH nl hd (rgV_all 0 n) (by rw [Int.sub_zero, rangeD0]; exact q1)⟩⟩
end

/-! ### slices -/
def cutL {α : Type} (xs : List α) (lo hi : Option Int) : List α := (xs.drop (HT.sIx xs.length 0 lo)).take (HT.sIx xs.length xs.length hi - HT.sIx xs.length 0 lo)
theorem cut_all {K : PySem.W.Frag} {F : Hp} {ds : List PyData} {vs : List V} (h : RpAll K F vs ds) (lo hi : Option Int) : RpAll K F (cutV vs lo hi) (cutL ds lo hi) := by
  unfold cutV cutL
  rw [h.length]
  exact (h.drop _).take _
def sdAll : PyData → Option Int → Option Int → (O → Prop) → Prop
  | .list ds, lo, hi, Q => Q (.ls (cutL ds lo hi))
  | .tuple ds, lo, hi, Q => Q (.fz (.tuple (cutL ds lo hi)))
  | .str z, lo, hi, Q => z.length ≤ sizeLine ∧ Q (.fz (.str (cutS z lo hi)))
  | .dict ((.none, .none) :: l), lo, hi, Q => ∃ ns : List Int, l = ns.map (fun n => (.int n, .none)) ∧ Q (.ls (cutL (ns.map .int) lo hi))
  | _, _, _, _ => False
theorem rp_scr {K : PySem.W.Frag} {F : Hp} {v : V} {ns : List Int} (h : Rp K F v (scD ns)) : ∃ a, v = .ref a ∧ SqL K F a (ns.map V.int) := by
  generalize ed : scD ns = d at h
  cases h with
  | scr h =>
    rename_i a ms
    refine ⟨a, rfl, ?_⟩
    have inj : ∀ {xs ys : List Int}, xs.map (fun n => (PyData.int n, PyData.none)) = ys.map (fun n => (PyData.int n, PyData.none)) → xs = ys := fun {xs ys} e => by
      induction xs generalizing ys with
      | nil => cases ys with
        | nil => rfl
        | cons _ _ => cases e
      | cons x xs ih => cases ys with
        | nil => cases e
        | cons y ys =>
          simp only [List.map_cons, List.cons.injEq, Prod.mk.injEq, PyData.int.injEq, and_true] at e
          rw [e.1, ih e.2]
    have e : ns = ms := inj (by unfold scD at ed; simpa using ed)
    rw [e]; exact h
  | dct h hl t e =>
    rename_i a ks xs ds kvs
    cases ks with
    | nil => unfold scD at ed; cases ed; cases e
    | cons k ks =>
      cases ds with
      | nil => simp at hl
      | cons d ds =>
        unfold scD at ed
        cases ed
        simp only [List.map_cons, List.zip_cons_cons, List.cons.injEq, Prod.mk.injEq] at e
        cases k <;> simp [kD] at e
  | _ => unfold scD at ed; cases ed
theorem sd_all {X : Cx} : SlD X sdAll := by
  intro pins s σ H x v vl vu lo hi sl QV I rx hs pl pu ⟨F, d, Q, sF, r, h, post⟩
  unfold sdAll at h
  split at h
  · obtain ⟨a, vs, rfl, ha, ra⟩ := r.list sF
    exact sl_list pins s σ H _ v vl vu _ _ sl QV I rx hs pl pu ⟨a, vs, rfl, SqL.of ha, fun p n => post.newL sF n (cut_all ra _ _) h⟩
  · have q := r.tupR
    obtain ⟨a, vs, rfl, ha, ra⟩ := r.tup sF
    refine sl_tupN pins s σ H _ v vl vu _ _ sl QV I rx hs pl pu ⟨a, vs, rfl, ha, fun e => post.val sF q ?_, fun _ p o n hd => post.newT sF n hd (cut_all ra _ _) h⟩
    rw [ra.length] at e
    unfold cutL at h
    rw [e.1, e.2, List.drop_zero, Nat.sub_zero, List.take_length] at h
    exact h
  · cases r.str
    exact sl_str pins s σ H _ v vl vu _ _ sl QV I rx hs pl pu ⟨_, rfl, h.1, post.val sF (.str _) h.2⟩
  · obtain ⟨ns, rfl, q⟩ := h
    have rr : Rp X.K F x (scD ns) := by
      rcases r with r | ⟨_, _, _, _, e, _⟩
      · exact r
      · cases e
    obtain ⟨a, rfl, ha⟩ := rp_scr rr
    have ri : ∀ l : List Int, RpAll X.K F (l.map V.int) (l.map PyData.int) := fun l => by
      induction l with
      | nil => exact .nil
      | cons n l ih => exact .cons (.int n) ih
    exact sl_list pins s σ H _ v vl vu _ _ sl QV I rx hs pl pu ⟨a, _, rfl, Same.seq sF ha, fun p n => post.newL sF n (cut_all (ri ns) _ _) q⟩
  · exact h.elim
abbrev EP' := Ga → (Option Int → Ga → Prop) → Prop
def lP (K : PySem.W.Frag) (τ : EP') : TO := fun σ H QV => ∃ pn Z F Γ h Q, At K pn Z F Γ σ h H ∧ τ Γ Q ∧ ∀ F' Γ' h' H' i, Same F F' → At K pn Z F' Γ' σ h' H' → Q i Γ' → QV i H'
def pNone : EP' := fun Γ Q => Q none Γ
def pSome (τ : EX) : EP' := fun Γ Q => τ Γ fun a Γ1 => ∃ i, rslv Γ1 a = some (.int i) ∧ Q (some i) Γ1
def eSl (τ : EX) (pl ph : EP') : EO := fun Γ Q => τ Γ fun a Γ1 => pl Γ1 fun lo Γ2 => ph Γ2 fun hi Γ3 => ∃ d, rslv Γ3 a = some d ∧ sdAll d lo hi fun o => Q o Γ3
theorem po_imp {X : Cx} {e : Option Expr} {t t' : TO} (h : PO X e t) (i : ∀ σ H Q, t' σ H Q → t σ H Q) : PO X e t' := ⟨fun pins s σ H Q I q => h.run pins s σ H Q I (i σ H Q q)⟩
section
variable {X : Cx} {e : Expr} {lo hi : Option Expr} {τ : EX} {pl ph : EP'} {p2 pos : Pos}
theorem vp_none : PO X none (lP X.K pNone) := po_imp po_none fun σ H QV ⟨pn, Z, F, Γ, hh, Q, A, q, k⟩ => k F Γ hh H none (Same.refl _) A q
theorem vp_some (h : PE X e (lX X.K τ)) : PO X (some e) (lP X.K (pSome τ)) := po_imp (po_some h) fun σ H QV ⟨pn, Z, F, Γ, hh, Q, A, q, k⟩ =>
  ⟨pn, Z, F, Γ, hh, _, A, q, fun F1 Γ1 h1 H1 a v s1 A1 r1 ⟨i, e1, q1⟩ => ⟨i, (rep_of A1 r1 e1).int, k F1 Γ1 h1 H1 _ s1 A1 q1⟩⟩
theorem vo_sl (he : PE X e (lX X.K τ)) (hl : PO X lo (lP X.K pl)) (hu : PO X hi (lP X.K ph)) : PE X (.Subscript e (.Slice lo hi none p2) pos) (lO X.K (eSl τ pl ph)) :=
  pe_imp (pe_slice sd_all he hl hu) fun σ H QV ⟨pn, Z, F, Γ, hh, Q, A, q, k⟩ => ⟨pn, Z, F, Γ, hh, _, A, q, fun F1 Γ1 h1 H1 a v s1 A1 r1 q1 => ⟨pn, Z, F1, Γ1, h1, _, A1, q1, fun F2 Γ2 h2 H2 i s2 A2 q2 =>
    ⟨pn, Z, F2, Γ2, h2, _, A2, q2, fun F3 Γ3 h3 H3 j s3 A3 ⟨d, e1, q3⟩ => ⟨F3, d, _, A3.FH, rep_of A3 (r1.mono (s2.trans s3)) e1, q3, A3.post ((s1.trans s2).trans s3) k⟩⟩⟩⟩
end

/-! ### methods that change a slot's own list -/
abbrev SM := List PyData → List PyData → (List PyData → PyData → Prop) → Prop
def SlotM (X : Cx) (id : String) (sm : SM) : Prop := MtR X id fun x xs H QV => ∃ F a vs ds ads Q, x = .ref a ∧ H a = some (.lst vs) ∧ Same F H ∧ RpAll X.K F vs ds ∧ RpAll X.K F xs ads ∧ sm ds ads Q ∧
  ∀ vs' ds' v d, RpAll X.K F vs' ds' → Rp X.K F v d → Q ds' d → QV v (upd H a (.lst vs'))
def smAppend : SM := fun ds as Q => ∃ x, as = [x] ∧ ds.length < sizeLine ∧ Q (ds ++ [x]) .none
def smPop : SM := fun ds as Q => as = [] ∧ ∃ x, ds[ds.length - 1]? = some x ∧ Q ds.dropLast x
def smPopAt : SM := fun ds as Q => ∃ (i : Int) (k : Nat) (x : PyData), as = [.int i] ∧ (-(2 ^ 63) ≤ i ∧ i < 2 ^ 63 ∧ seqIndex? i ds.length = some k) ∧ ds[k]? = some x ∧ Q (ds.eraseIdx k) x
def smInsert : SM := fun ds as Q => ∃ (i : Int) (x : PyData), as = [.int i, x] ∧ ds.length < sizeLine ∧ 0 ≤ i ∧ i < 2 ^ 63 ∧ Q (ds.take i.toNat ++ [x] ++ ds.drop i.toNat) .none
theorem RpAll.one' {K : PySem.W.Frag} {F : Hp} {d : PyData} {vs : List V} (h : RpAll K F vs [d]) : ∃ v, vs = [v] ∧ Rp K F v d := by
  cases h with
  | cons r t => cases t; exact ⟨_, rfl, r⟩
theorem RpAll.two' {K : PySem.W.Frag} {F : Hp} {d e : PyData} {vs : List V} (h : RpAll K F vs [d, e]) : ∃ v u, vs = [v, u] ∧ Rp K F v d ∧ Rp K F u e := by
  cases h with
  | cons r t =>
    obtain ⟨u, rfl, r2⟩ := t.one'
    exact ⟨_, u, rfl, r, r2⟩
section
variable {X : Cx}
theorem sm_append : SlotM X "list.append" smAppend := by
  intro pins s σ H x xs v us QV I rx rxs ⟨F, a, vs, ds, ads, Q, e, ha, sF, r, ra, ⟨y, e2, hl, q⟩, k⟩
  subst e; subst e2
  obtain ⟨w, rfl, rw'⟩ := ra.one'
  have rp := rw'
  exact mt_append pins s σ H _ _ v us QV I rx rxs ⟨a, vs, w, rfl, rfl, ha, by rw [r.length]; exact hl, k _ _ .non .none (r.append (.one rp)) .non q⟩
theorem sm_pop : SlotM X "list.pop" smPop := by
  intro pins s σ H x xs v us QV I rx rxs ⟨F, a, vs, ds, ads, Q, e, ha, sF, r, ra, ⟨e2, y, hy, q⟩, k⟩
  subst e; subst e2
  cases ra
  obtain ⟨w, hw, rw'⟩ := r.getd (i := ds.length - 1) hy
  exact mt_pop pins s σ H _ _ v us QV I rx rxs ⟨a, vs, w, rfl, rfl, ha, by rw [r.length]; exact hw, k _ _ w y r.dropLast rw' q⟩
theorem sm_popAt : SlotM X "list.pop" smPopAt := by
  intro pins s σ H x xs v us QV I rx rxs ⟨F, a, vs, ds, ads, Q, e, ha, sF, r, ra, ⟨i, kk, y, e2, ⟨b1, b2, b3⟩, hy, q⟩, k⟩
  subst e; subst e2
  obtain ⟨w, rfl, rw'⟩ := ra.one'
  cases rp_int rw'
  obtain ⟨u, hu, ru⟩ := r.getd hy
  exact mt_popAt pins s σ H _ _ v us QV I rx rxs ⟨a, vs, i, kk, u, rfl, rfl, ha, b1, b2, by rw [r.length]; exact b3, hu, k _ _ u y (r.eraseIdx kk) ru q⟩
theorem sm_insert : SlotM X "list.insert" smInsert := by
  intro pins s σ H x xs v us QV I rx rxs ⟨F, a, vs, ds, ads, Q, e, ha, sF, r, ra, ⟨i, y, e2, hl, h0, h1, q⟩, k⟩
  subst e; subst e2
  obtain ⟨w, u, rfl, rw', ru⟩ := ra.two'
  cases rp_int rw'
  have rp := ru
  exact mt_insert pins s σ H _ _ v us QV I rx rxs ⟨a, vs, i, u, rfl, rfl, ha, by rw [r.length]; exact hl, h0, h1, k _ _ .non .none (((r.take _).append (.one rp)).append (r.drop _)) .non q⟩
end
def eSM (i : Nat) (sm : SM) (τs : EA) : EO := fun Γ Q => (∃ ds, Γ[i]? = some (some (.ls ds))) ∧ τs Γ fun as Γ1 => ∃ ds ads, Γ1[i]? = some (some (.ls ds)) ∧ unD as = some ads ∧ sm ds ads fun ds' d => ∃ Γ2, setG Γ1 i (some (.ls ds')) = some Γ2 ∧ Q (.fz d) Γ2
/-- the end of a change in place -/
theorem At.changeL {K : PySem.W.Frag} {pn : List (Nat × V)} {Z F : Hp} {Γ : Ga} {σ : St} {h H : Hp} {i : Nat} {ds : List PyData} (A : At K pn Z F Γ σ h H) (e : Γ[i]? = some (some (.ls ds))) : ∃ a vs, σ[i]? = some (some (.ref a)) ∧ H a = some (.lst vs) ∧ RpAll K F vs ds ∧
    ∀ vs' ds', RpAll K F vs' ds' → ∃ h', At K pn Z F (Γ.set i (some (.ls ds'))) σ h' (upd H a (.lst vs')) := by
  obtain ⟨v, g1, g2, a1, w, sg1, dg1, zg1, sg2, d12, dg2, zg2, put⟩ := A.change e
  obtain ⟨a, vs, rfl, rfl, r⟩ := w
  refine ⟨a, vs, a1, sg1 _ _ one_at, r, fun vs' ds' r' => ?_⟩
  have keep : ∀ (G : Hp), Dis (VL.one a (.lst vs)) G → Same G H → Same G (upd H a (.lst vs')) := fun G dG sG b o e => by
    by_cases z : b = a
    · subst z; rw [of_dis_one dG] at e; cases e
    · rw [upd_ne z]; exact sG _ _ e
  exact ⟨_, put F (.ls ds') (VL.one a (.lst vs')) _ (Same.refl _) ⟨a, vs', rfl, rfl, r'⟩ (same_one upd_same) (keep _ dg1 A.FH) (keep _ d12 sg2) (keep _ zg1 A.ZH) A.FZ (dis_one (of_dis_one d12)) (dis_one (of_dis_one dg1)) (dis_one (of_dis_one zg1)) dg2⟩
section
variable {X : Cx} {o e : Expr} {es : List Expr} {τs : EA} {name : Str} {apos cpos : Pos} {id : String} {sm : SM} {τo : EO}
theorem ty_list {K : PySem.W.Frag} {pn : List (Nat × V)} {Z F : Hp} {Γ : Ga} {σ : St} {h H : Hp} {i : Nat} {ds : List PyData} (A : At K pn Z F Γ σ h H) (e : Γ[i]? = some (some (.ls ds))) : ∃ a, σ[i]? = some (some (.ref a)) ∧ tyV K "list" (.ref a) H := by
  obtain ⟨a, vs, e1, e2, _, _⟩ := A.changeL e
  exact ⟨a, e1, .inl ⟨rfl, vs, SqL.of e2⟩⟩
theorem vo_sm (i : Nat) (slot : Slot "list" name id) (hty : typeOf (.builtin id) = pure (.type "method_descriptor")) (hm : SlotM X id sm) (ho : PE X o (tVar i)) (ha : PA X (e :: es) (lA X.K τs))
    (hbase : attributeBase o name X.env (eval o X.env) = eval o X.env := by rfl)
    (hfew : ((backTo cpos (starEach (e :: es) X.env)).all (fun x => !x.1) && (backToKw cpos (keywordEach [] X.env)).all (fun x => x.1.isSome)
      && decide ((e :: es).length + ([] : List Keyword).length + (if ([] : List Keyword).isEmpty then 0 else 1) < 30)) = true := by rfl)
    (hline : (apos.endLine == cpos.line) = true := by rfl) (hs : starEach (e :: es) X.env = (false, eval e X.env) :: starEach es X.env := by rfl) (hplain : (backTo cpos (starEach es X.env)).any (·.1) = false := by rfl) :
    PE X (.Call (.Attribute o name apos) (e :: es) [] cpos) (lO X.K (eSM i sm τs)) :=
  pe_imp (pe_bm PySem.F.plainAttrs_list slot hty hm ho ha hbase hfew hline hs hplain) fun σ H QV ⟨pn, Z, F, Γ, hh, Q, A, ⟨⟨ds0, e0⟩, q⟩, k⟩ => by
    obtain ⟨a, e1, ty⟩ := ty_list A e0
    refine ⟨.ref a, e1, ty, pn, Z, F, Γ, hh, _, A, q, fun F1 Γ1 h1 H1 as vs s1 A1 r1 ⟨ds, ads, e2, e3, q1⟩ => ?_⟩
    obtain ⟨b, ws, e4, e5, r5, put⟩ := A1.changeL e2
    rw [e1] at e4; cases e4
    rw [unD_eq e3] at r1
    refine ⟨F1, a, ws, ds, ads, _, rfl, e5, A1.FH, r5, args_d r1, q1, fun vs' ds' v d r' rd ⟨Γ2, eΓ, q'⟩ => ?_⟩
    obtain ⟨h', A'⟩ := put vs' ds' r'
    rw [(setG_eq eΓ).1] at A'
    exact k F1 _ h' emp _ (.fz d) v s1 A'.alone ⟨rfl, rd⟩ q'
theorem vo_sm0 (i : Nat) (slot : Slot "list" name id) (hty : typeOf (.builtin id) = pure (.type "method_descriptor")) (hm : SlotM X id sm) (ho : PE X o (tVar i))
    (hbase : attributeBase o name X.env (eval o X.env) = eval o X.env := by rfl) (hline : (apos.endLine == cpos.line) = true := by rfl) : PE X (.Call (.Attribute o name apos) [] [] cpos) (lO X.K (eSM i sm aNil)) :=
  pe_imp (pe_bm0 PySem.F.plainAttrs_list slot hty hm ho hbase hline) fun σ H QV ⟨pn, Z, F, Γ, hh, Q, A, ⟨⟨ds0, e0⟩, ⟨ds, ads, e2, e3, q1⟩⟩, k⟩ => by
    obtain ⟨a, e1, ty⟩ := ty_list A e0
    refine ⟨.ref a, e1, ty, ?_⟩
    obtain ⟨b, ws, e4, e5, r5, put⟩ := A.changeL e2
    rw [e1] at e4; cases e4
    have : ads = [] := by cases e3; rfl
    subst this
    refine ⟨F, a, ws, ds, [], _, rfl, e5, A.FH, r5, .nil, q1, fun vs' ds' v d r' rd ⟨Γ2, eΓ, q'⟩ => ?_⟩
    obtain ⟨h', A'⟩ := put vs' ds' r'
    rw [(setG_eq eΓ).1] at A'
    exact k F _ h' emp _ (.fz d) v (Same.refl _) A'.alone ⟨rfl, rd⟩ q'
/-! xs.extend(a new list) -/
def eExt (i : Nat) (τo : EO) : EO := fun Γ Q => (∃ ds, Γ[i]? = some (some (.ls ds))) ∧ τo Γ fun o Γ1 => ∃ ds zs, Γ1[i]? = some (some (.ls ds)) ∧ (o = .ls zs ∨ o = .fz (.list zs)) ∧ ds.length + zs.length ≤ sizeLine ∧ ∃ Γ2, setG Γ1 i (some (.ls (ds ++ zs))) = some Γ2 ∧ Q (.fz .none) Γ2
theorem vo_ext (i : Nat) (ho : PE X o (tVar i)) (ha : PE X e (lO X.K τo))
    (hbase : attributeBase o "extend" X.env (eval o X.env) = eval o X.env := by rfl)
    (hfew : ((backTo cpos (starEach [e] X.env)).all (fun x => !x.1) && (backToKw cpos (keywordEach [] X.env)).all (fun x => x.1.isSome)
      && decide ([e].length + ([] : List Keyword).length + (if ([] : List Keyword).isEmpty then 0 else 1) < 30)) = true := by rfl)
    (hline : (apos.endLine == cpos.line) = true := by rfl) (hs : starEach [e] X.env = (false, eval e X.env) :: starEach [] X.env := by rfl) :
    PE X (.Call (.Attribute o "extend" apos) [e] [] cpos) (lO X.K (eExt i τo)) :=
  pe_imp (pe_bm PySem.F.plainAttrs_list PySem.F.slot_list_extend PySem.F.type_list_extend mt_extend ho (pa_cons ha pa_nil hs) hbase hfew hline hs) fun σ H QV ⟨pn, Z, F, Γ, hh, Q, A, ⟨⟨ds0, e0⟩, q⟩, k⟩ => by
    obtain ⟨a, e1, ty⟩ := ty_list A e0
    refine ⟨.ref a, e1, ty, pn, Z, F, Γ, hh, _, A, q, fun F1 Γ1 h1 hr H1 o v s1 A1 w ⟨ds, zs, e2, e3, hl, Γ2, eΓ, q1⟩ => ?_⟩
    obtain ⟨b, ws, e4, e5, r5, put⟩ := A1.at_.changeL e2
    rw [e1] at e4; cases e4
    obtain ⟨c, us, rfl, e6, r6⟩ : ∃ c us, v = .ref c ∧ H1 c = some (.lst us) ∧ RpAll X.K F1 us zs := by
      rcases e3 with rfl | rfl
      · obtain ⟨c, us, rfl, rfl, r⟩ := w
        exact ⟨c, us, rfl, A1.rH _ _ one_at, r⟩
      · obtain ⟨c, us, rfl, h, r⟩ := rp_ref w.2
        exact ⟨c, us, rfl, A1.at_.FH _ _ h, r⟩
    refine ⟨a, c, ws, us, rfl, rfl, e5, e6, by rw [r5.length, r6.length]; exact hl, ?_⟩
    obtain ⟨h', A'⟩ := put _ _ (r5.append r6)
    rw [(setG_eq eΓ).1] at A'
    exact k F1 _ h' emp _ (.fz .none) .non s1 A'.alone ⟨rfl, .non⟩ q1
end

/-! ### isinstance -/
def tyN : PyData → String
  | .none => "NoneType"
  | .bool _ => "bool"
  | .int _ => "int"
  | .str _ => "str"
  | .list _ => "list"
  | .tuple _ => "tuple"
  | .dict _ => "dict"
def kitD (d : PyData) (n : String) : Option Bool := match d with
  | .dict _ => none
  | d => kitB (tyN d) n
theorem tyx_of {K : PySem.W.Frag} {F H : Hp} {d : PyData} {v : V} {n : String} {b : Bool} (s : Same F H) (r : RepS K F H d v) (e : kitD d n = some b) : TyX K H v (.type (tyN d)) ∧ kitB (tyN d) n = some b := by
  have r := r.rpH s
  refine ⟨?_, by unfold kitD at e; split at e; cases e; exact e⟩
  cases r with
  | non => exact .base .non
  | bl b => exact .base (.bl b)
  | int i => exact .base (.int i)
  | str x => exact .base (.str x)
  | lst h _ => exact .base (.lst h)
  | tup h _ =>
    rcases h with ⟨o, h, _⟩ | ⟨o, its, n, h, c, _⟩
    · exact .fTuple h
    · exact .kTuple h c
  | dct h _ _ _ => cases e
  | scr h => cases e
def eIsi (n : String) (τ : EX) : EO := fun Γ Q => τ Γ fun a Γ1 => ∃ d b, rslv Γ1 a = some d ∧ kitD d n = some b ∧ Q (.fz (.bool b)) Γ1
theorem vo_isi {X : Cx} {n : String} {e : Expr} {τ : EX} {p p2 pos : Pos} {nm : Str} (hg : Gl X "isinstance") (hm : X.mg "isinstance" = none) (hg2 : Gl X nm) (hm2 : X.mg nm = none) (hv : bootBuiltins nm = some (.type n)) (he : PE X e (lX X.K τ))
    (hn : nm ≠ "__name__" := by decide) (hd : (nm == ("__debug__" : Str)) = false := by decide)
    (h1 : starEach [e, .Name nm p2] X.env = (false, eval e X.env) :: starEach [.Name nm p2] X.env := by rfl) (h2 : starEach [.Name nm p2] X.env = (false, eval (.Name nm p2) X.env) :: starEach [] X.env := by rfl) (hpl : (backTo pos (starEach [.Name nm p2] X.env)).any (·.1) = false := by rfl) :
    PE X (.Call (.Name "isinstance" p) [e, .Name nm p2] [] pos) (lO X.K (eIsi n τ)) :=
  pe_imp (pe_callB call_isi hg hm (by decide +kernel) (pa_cons he (pa_cons (pe_bltn (v := .ty n) hg2 hm2 hv rfl hn hd) pa_nil h2) h1) (by decide) (by decide) h1 hpl) fun σ H QV ⟨pn, Z, F, Γ, hh, Q, A, q, k⟩ =>
    ⟨pn, Z, F, Γ, hh, _, A, q, fun F1 Γ1 h1 H1 a v s1 A1 r1 ⟨d, b, e1, e2, q1⟩ => ⟨v, .ty n, .type (tyN d), .type n, b, rfl, .ty n, (tyx_of A1.FH (rep_of A1 r1 e1) e2).1, kit_ty (tyx_of A1.FH (rep_of A1 r1 e1) e2).2, k F1 Γ1 h1 emp H1 (.fz (.bool b)) (.bl b) s1 A1.alone ⟨rfl, .bl b⟩ q1⟩⟩
end VL
end
section
namespace VL
open PySem PySem.Spec L2

/-! ### steps through a reading -/
section
variable {Γ Γ' : Ga} {Q : O → Ga → Prop} {QX : Av → Ga → Prop} {QA : List Av → Ga → Prop} {QT : Bool → Ga → Prop} {QI : List PyData → Ga → Prop} {QG : Ga → Prop} {QP : Option Int → Ga → Prop} {QO : O → Prop} {D : En} {τ τ' τa τb τc : EX} {to to' : EO} {τs : EA} {t u : ES} {tt tu : ET} {d e : PyData} {o : O} {i j : Nat} {b c : Bool} {ds es as : List PyData} {x y : Int} {ti : EI} {g : EG} {gs : EGs} {pl ph : EP'}
theorem st_nrm {t : ES} (e : nrm Γ = some Γ') (h : t D Γ') : t D Γ := by rw [nrm_eq e]; exact h
theorem st_ret (h : to Γ D.rt) : sRet to D Γ := h
theorem st_retN (h : D.rt (.fz .none) Γ) : sRetN D Γ := h
theorem st_rt0 {Q : O → Prop} (h : Q o) : (ends0 Q).rt o Γ := h
theorem st_nx0 {Q : O → Prop} (h : Q (.fz .none)) : (ends0 Q).nx Γ := h
theorem st_rt1 {Q : O → O → Prop} {o0 : O} (e : Γ[0]? = some (some o0)) (h : Q o o0) : (ends1 Q).rt o Γ := ⟨o0, e, h⟩
theorem st_nx1 {Q : O → O → Prop} {o0 : O} (e : Γ[0]? = some (some o0)) (h : Q (.fz .none) o0) : (ends1 Q).nx Γ := ⟨o0, e, h⟩
theorem st_seq (h : t { D with nx := u D } Γ) : sSeq t u D Γ := h
theorem st_next (h : D.nx Γ) : sNext D Γ := h
theorem st_brk (h : D.bk Γ) : sBreak D Γ := h
theorem st_cnt (h : D.ct Γ) : sCont D Γ := h
theorem st_drop (h : to Γ fun _ Γ' => D.nx Γ') : sDrop to D Γ := h
theorem st_if (h : tt Γ fun b Γ1 => Br b (t D Γ1) (u D Γ1)) : sIf tt t u D Γ := h
theorem st_set (h : to Γ fun o Γ1 => ∃ Γ2, setG Γ1 i (some o) = some Γ2 ∧ D.nx Γ2) : sSet i to D Γ := h
theorem st_asg (h : τ Γ fun a Γ1 => ∃ d, a = .d d ∧ g d Γ1 D.nx) : sAsg τ g D Γ := h
theorem st_par (h : to Γ fun o1 Γ1 => to' Γ1 fun o2 Γ2 => ∃ Γ3 Γ4, setG Γ2 i (some o1) = some Γ3 ∧ setG Γ3 j (some o2) = some Γ4 ∧ D.nx Γ4) : sPar i j to to' D Γ := h
theorem st_var (e : Γ[i]? = some (some o)) (h : QX (.s i) Γ) : xVar i Γ QX := ⟨⟨o, e⟩, h⟩
theorem st_val (e : Γ[i]? = some (some (.fz d))) (h : QX (.d d) Γ) : xVal i Γ QX := by unfold xVal; rw [e]; exact h
theorem st_valL (e : Γ[i]? = some (some o)) (e1 : o.frz = some d) (e2 : setG Γ i (some (.fz d)) = some Γ') (h : QX (.d d) Γ') (hn : ∀ d, o ≠ .fz d := by intro _ z; cases z) : xVal i Γ QX := by
  unfold xVal; rw [e]
  cases o with
  | fz d => exact absurd rfl (hn d)
  | _ => exact ⟨d, Γ', e1, e2, h⟩
theorem st_mv (e : Γ[i]? = some (some (.fz d))) (h : Q (.fz d) Γ) : oMv i Γ Q := by unfold oMv; rw [e]; exact h
theorem st_mvL (e : Γ[i]? = some (some o)) (e2 : setG Γ i none = some Γ') (h : Q o Γ') (hn : ∀ d, o ≠ .fz d := by intro _ z; cases z) : oMv i Γ Q := by
  unfold oMv; rw [e]
  cases o with
  | fz d => exact absurd rfl (hn d)
  | _ => exact ⟨Γ', e2, h⟩
theorem st_c (h : QX (.d d) Γ) : xC d Γ QX := h
theorem st_xo (h : to Γ fun o Γ' => ∃ d, o.frz = some d ∧ QX (.d d) Γ') : xO to Γ QX := h
theorem st_ox (h : τ Γ fun a Γ' => ∃ d, a = .d d ∧ Q (.fz d) Γ') : oX τ Γ Q := h
theorem st_op {op : PyData → PyData → (O → Prop) → Prop} (h : τa Γ fun a1 Γ1 => τb Γ1 fun a2 Γ2 => ∃ d1 d2, rslv Γ2 a1 = some d1 ∧ rslv Γ2 a2 = some d2 ∧ op d1 d2 fun o => Q o Γ2) : eOp op τa τb Γ Q := h
theorem st_op1 {op : PyData → (O → Prop) → Prop} (h : τa Γ fun a1 Γ1 => ∃ d1, rslv Γ1 a1 = some d1 ∧ op d1 fun o => Q o Γ1) : eOp1 op τa Γ Q := h
theorem st_an (h : QA [] Γ) : aNil Γ QA := h
theorem st_ac (h : τ Γ fun a Γ1 => τs Γ1 fun as Γ2 => QA (a :: as) Γ2) : aCons τ τs Γ QA := h
theorem st_cb {cd : List PyData → (O → Prop) → Prop} (h : τs Γ fun as Γ1 => ∃ ds, rsAll Γ1 as = some ds ∧ cd ds fun o => Q o Γ1) : eCB cd τs Γ Q := h
theorem st_tup (h : τs Γ fun as Γ1 => ∃ ds, unD as = some ds ∧ ds.length ≤ sizeLine ∧ Q (.fz (.tuple ds)) Γ1) : eTup τs Γ Q := h
theorem st_lst (h : τs Γ fun as Γ1 => ∃ ds, unD as = some ds ∧ ds.length ≤ sizeLine ∧ Q (.ls ds) Γ1) : eLst τs Γ Q := h
theorem st_to (h : to Γ fun o Γ' => ∃ b, o = .fz (.bool b) ∧ QT b Γ') : tO to Γ QT := h
theorem st_tru (h : τ Γ fun a Γ1 => ∃ d k, rslv Γ1 a = some d ∧ truD d = some k ∧ QT k Γ1) : tTru τ Γ QT := h
theorem st_tnot (h : tt Γ fun b Γ' => QT (!b) Γ') : tNotD tt Γ QT := h
theorem st_tand (h : tt Γ fun c Γ1 => Br c (tu Γ1 QT) (QT false Γ1)) : tAndD tt tu Γ QT := h
theorem st_tor (h : tt Γ fun c Γ1 => Br c (QT true Γ1) (tu Γ1 QT)) : tOrD tt tu Γ QT := h
theorem st_and (h : to Γ fun o Γ1 => ∃ c, o = .fz (.bool c) ∧ Br c (to' Γ1 Q) (Q (.fz (.bool false)) Γ1)) : eAnd to to' Γ Q := h
theorem st_or (h : to Γ fun o Γ1 => ∃ c, o = .fz (.bool c) ∧ Br c (Q (.fz (.bool true)) Γ1) (to' Γ1 Q)) : eOr to to' Γ Q := h
theorem st_not (h : to Γ fun o Γ1 => ∃ c, o = .fz (.bool c) ∧ Q (.fz (.bool (!c))) Γ1) : eNot to Γ Q := h
theorem st_eif (h : tt Γ fun c Γ1 => Br c (to Γ1 Q) (to' Γ1 Q)) : eIf tt to to' Γ Q := h
theorem st_chain {op op' : PyData → PyData → (O → Prop) → Prop} (h : τa Γ fun a1 Γ1 => τb Γ1 fun a2 Γ2 => ∃ d1 d2, rslv Γ2 a1 = some d1 ∧ a2 = .d d2 ∧ op d1 d2 fun o => ∃ c, o = .fz (.bool c) ∧
  Br c (τc Γ2 fun a3 Γ3 => ∃ d3, rslv Γ3 a3 = some d3 ∧ op' d2 d3 fun o => Q o Γ3) (Q (.fz (.bool false)) Γ2)) : eChain op op' τa τb τc Γ Q := h
theorem st_call {wp : W0} {dds : List PyData} (h : τs Γ fun as Γ1 => ∃ ds, unD as = some ds ∧ wp (ds ++ dds) fun o => Q o Γ1) : eCall wp dds τs Γ Q := h
theorem st_calli {wp : W1} {dds : List PyData} (h : τs Γ fun as Γ1 => ∃ j o0 ar ds, as = .s j :: ar ∧ unD ar = some ds ∧ Γ1[j]? = some (some o0) ∧ wp o0 (ds ++ dds) fun o o0' => ∃ Γ2, setG Γ1 j (some o0') = some Γ2 ∧ Q o Γ2) : eCallI wp dds τs Γ Q := h
theorem st_isi {n : String} (h : τ Γ fun a Γ1 => ∃ d b, rslv Γ1 a = some d ∧ kitD d n = some b ∧ Q (.fz (.bool b)) Γ1) : eIsi n τ Γ Q := h
theorem st_lrg (h : τ Γ fun a Γ1 => ∃ n : Int, rslv Γ1 a = some (.int n) ∧ RgOk 0 n ∧ Q (.ls (rangeN n.toNat)) Γ1) : eLRg1 τ Γ Q := h
theorem st_trg (h : τ Γ fun a Γ1 => ∃ n : Int, rslv Γ1 a = some (.int n) ∧ RgOk 0 n ∧ Q (.fz (.tuple (rangeN n.toNat))) Γ1) : eTRg1 τ Γ Q := h
theorem st_sl (h : τ Γ fun a Γ1 => pl Γ1 fun lo Γ2 => ph Γ2 fun hi Γ3 => ∃ d, rslv Γ3 a = some d ∧ sdAll d lo hi fun o => Q o Γ3) : eSl τ pl ph Γ Q := h
theorem st_pn (h : QP none Γ) : pNone Γ QP := h
theorem st_ps (h : τ Γ fun a Γ1 => ∃ i, rslv Γ1 a = some (.int i) ∧ QP (some i) Γ1) : pSome τ Γ QP := h
theorem st_sm {sm : SM} (e : Γ[i]? = some (some (.ls ds))) (h : τs Γ fun as Γ1 => ∃ ds ads, Γ1[i]? = some (some (.ls ds)) ∧ unD as = some ads ∧ sm ds ads fun ds' d => ∃ Γ2, setG Γ1 i (some (.ls ds')) = some Γ2 ∧ Q (.fz d) Γ2) : eSM i sm τs Γ Q := ⟨⟨ds, e⟩, h⟩
theorem st_ext (e : Γ[i]? = some (some (.ls ds))) (h : to Γ fun o Γ1 => ∃ ds zs, Γ1[i]? = some (some (.ls ds)) ∧ (o = .ls zs ∨ o = .fz (.list zs)) ∧ ds.length + zs.length ≤ sizeLine ∧ ∃ Γ2, setG Γ1 i (some (.ls (ds ++ zs))) = some Γ2 ∧ Q (.fz .none) Γ2) : eExt i to Γ Q := ⟨⟨ds, e⟩, h⟩
theorem st_iseq (h : τ Γ fun a Γ1 => ∃ d ds, a = .d d ∧ seqD d = some ds ∧ QI ds Γ1) : iSeq τ Γ QI := h
theorem st_ir1 (h : τs Γ fun as Γ1 => ∃ n : Int, rsAll Γ1 as = some [.int n] ∧ (-(2 ^ 62) ≤ n ∧ n < 2 ^ 62) ∧ QI (rangeN n.toNat) Γ1) : iRange1 τs Γ QI := h
theorem st_ir2 (h : τs Γ fun as Γ1 => ∃ a b : Int, rsAll Γ1 as = some [.int a, .int b] ∧ (-(2 ^ 62) ≤ a ∧ a < 2 ^ 62 ∧ -(2 ^ 62) ≤ b ∧ b < 2 ^ 62) ∧ QI (rangeD a (b - a).toNat) Γ1) : iRange2 τs Γ QI := h
theorem st_gn (e : setG Γ i (some (.fz d)) = some Γ') (h : QG Γ') : gN i d Γ QG := ⟨Γ', e, h⟩
theorem st_gt {n : Nat} (e : ds.length = n) (h : gs ds Γ QG) : gTupD n gs (.tuple ds) Γ QG := ⟨ds, rfl, e, h⟩
theorem st_gc (h : g d Γ fun Γ1 => gs ds Γ1 QG) : gConss g gs (d :: ds) Γ QG := ⟨d, ds, rfl, h⟩
theorem st_g0 (h : QG Γ) : gNils [] Γ QG := ⟨rfl, h⟩
theorem st_yes (h : QT true Γ) : tYesD Γ QT := h
-- operations
theorem op_addI (h : QO (.fz (.int (x + y)))) : opAdd (.int x) (.int y) QO := h
theorem op_addT (hl : ds.length + es.length ≤ sizeLine) (h : QO (.fz (.tuple (ds ++ es)))) : opAdd (.tuple ds) (.tuple es) QO := ⟨hl, h⟩
theorem op_addL (hl : ds.length + es.length ≤ sizeLine) (h : QO (.ls (ds ++ es))) : opAdd (.list ds) (.list es) QO := ⟨hl, h⟩
theorem op_addS {z w : Str} (hl : z.length + w.length ≤ sizeLine) (h : QO (.fz (.str (z ++ w)))) : opAdd (.str z) (.str w) QO := ⟨hl, h⟩
theorem op_subI (h : QO (.fz (.int (x - y)))) : opSub (.int x) (.int y) QO := h
theorem op_mulI (hc : CMulX x y) (h : QO (.fz (.int (x * y)))) : opMul (.int x) (.int y) QO := ⟨hc, h⟩
theorem op_modI (hc : 0 < y) (h : QO (.fz (.int (x % y)))) : opMod (.int x) (.int y) QO := ⟨hc, h⟩
theorem op_divI (hc : CDivW x y) (h : QO (.fz (.int (x / y)))) : opDiv (.int x) (.int y) QO := ⟨hc, h⟩
theorem op_ltI (h : QO (.fz (.bool (decide (x < y))))) : opLt (.int x) (.int y) QO := h
theorem op_leI (h : QO (.fz (.bool (decide (x ≤ y))))) : opLe (.int x) (.int y) QO := h
theorem op_gtI (h : QO (.fz (.bool (decide (y < x))))) : opGt (.int x) (.int y) QO := h
theorem op_geI (h : QO (.fz (.bool (decide (y ≤ x))))) : opGe (.int x) (.int y) QO := h
theorem shaped_int : shaped (.int x) := by unfold shaped SeqAt.shaped; simp [PyData.canLay0, PyData.depth]
theorem shaped_bool : shaped (.bool b) := by unfold shaped SeqAt.shaped; simp [PyData.canLay0, PyData.depth]
theorem shaped_none : shaped .none := by unfold shaped SeqAt.shaped; simp [PyData.canLay0, PyData.depth]
theorem op_eqI (h : QO (.fz (.bool (decide (x = y))))) : opEq (.int x) (.int y) QO := ⟨shaped_int, shaped_int, by rw [show PyData.eqv (.int x) (.int y) = decide (x = y) by simp only [PyData.eqv]; exact Bool.beq_eq_decide_eq x y]; exact h⟩
theorem op_neI (h : QO (.fz (.bool (!decide (x = y))))) : opNe (.int x) (.int y) QO := ⟨shaped_int, shaped_int, by rw [show PyData.eqv (.int x) (.int y) = decide (x = y) by simp only [PyData.eqv]; exact Bool.beq_eq_decide_eq x y]; exact h⟩
theorem op_eqB (h : QO (.fz (.bool (b == c)))) : opEq (.bool b) (.bool c) QO := ⟨shaped_bool, shaped_bool, by rw [show PyData.eqv (.bool b) (.bool c) = (b == c) by simp only [PyData.eqv]]; exact h⟩
theorem op_neB (h : QO (.fz (.bool (!(b == c))))) : opNe (.bool b) (.bool c) QO := ⟨shaped_bool, shaped_bool, by rw [show PyData.eqv (.bool b) (.bool c) = (b == c) by simp only [PyData.eqv]]; exact h⟩
theorem op_isNone (h : QO (.fz (.bool true))) : opIsN .none .none QO := ⟨rfl, h⟩
theorem op_isInt (h : QO (.fz (.bool false))) : opIsN (.int x) .none QO := ⟨rfl, h⟩
theorem op_isTup (h : QO (.fz (.bool false))) : opIsN (.tuple ds) .none QO := ⟨rfl, h⟩
theorem op_notNone (h : QO (.fz (.bool false))) : opNotN .none .none QO := ⟨rfl, h⟩
theorem op_notTup (h : QO (.fz (.bool true))) : opNotN (.tuple ds) .none QO := ⟨rfl, h⟩
theorem op_ixT (j : Nat) (ej : x = (j : Int)) (e : ds[j]? = some d) (h : QO (.fz d)) : opIx (.tuple ds) (.int x) QO := ⟨d, by rw [ej]; exact atI_nat e, h⟩
theorem op_ixL (j : Nat) (ej : x = (j : Int)) (e : ds[j]? = some d) (h : QO (.fz d)) : opIx (.list ds) (.int x) QO := ⟨d, by rw [ej]; exact atI_nat e, h⟩
theorem op_ixT0 (e : ds[0]? = some d) (h : QO (.fz d)) : opIx (.tuple ds) (.int 0) QO := op_ixT 0 rfl e h
theorem op_ixT1 (e : ds[1]? = some d) (h : QO (.fz d)) : opIx (.tuple ds) (.int 1) QO := op_ixT 1 rfl e h
theorem op_ixT2 (e : ds[2]? = some d) (h : QO (.fz d)) : opIx (.tuple ds) (.int 2) QO := op_ixT 2 rfl e h
theorem op_ixL0 (e : ds[0]? = some d) (h : QO (.fz d)) : opIx (.list ds) (.int 0) QO := op_ixL 0 rfl e h
theorem op_ixL1 (e : ds[1]? = some d) (h : QO (.fz d)) : opIx (.list ds) (.int 1) QO := op_ixL 1 rfl e h
theorem cd_lenL (h : QO (.fz (.int (ds.length : Nat)))) : cdLen [.list ds] QO := h
theorem cd_lenT (h : QO (.fz (.int (ds.length : Nat)))) : cdLen [.tuple ds] QO := h
theorem cd_intI (h : QO (.fz (.int x))) : cdInt [.int x] QO := h
theorem cd_intB (h : QO (.fz (.int (if b then 1 else 0)))) : cdInt [.bool b] QO := h
theorem cd_tupL (h : QO (.fz (.tuple ds))) : cdTuple [.list ds] QO := h
theorem cd_tupT (h : QO (.fz (.tuple ds))) : cdTuple [.tuple ds] QO := h
theorem cd_listL (h : QO (.ls ds)) : cdList [.list ds] QO := h
theorem cd_listT (h : QO (.ls ds)) : cdList [.tuple ds] QO := h
theorem cd_absI (h : QO (.fz (.int (if x < 0 then -x else x)))) : cdAbs [.int x] QO := h
theorem cd_min2I (h : QO (.fz (.int (if y < x then y else x)))) : cdMin2 [.int x, .int y] QO := h
theorem cd_max2I (h : QO (.fz (.int (if y > x then y else x)))) : cdMax2 [.int x, .int y] QO := h
theorem sm_app {sx : PyData} {QS : List PyData → PyData → Prop} (hl : ds.length < sizeLine) (h : QS (ds ++ [sx]) .none) : smAppend ds [sx] QS := ⟨sx, rfl, hl, h⟩
theorem sd_L {lo hi : Option Int} (h : QO (.ls (cutL ds lo hi))) : sdAll (.list ds) lo hi QO := h
theorem sd_T {lo hi : Option Int} (h : QO (.fz (.tuple (cutL ds lo hi)))) : sdAll (.tuple ds) lo hi QO := h
end

/-! ### comprehensions whose parts are functions -/
/-- a test, an element that only reads -/
def TPure (tt : ET) (Γ : Ga) (b : Bool) : Prop := ∀ Q : Bool → Ga → Prop, Q b Γ → tt Γ Q
def XPure (te : EX) (Γ : Ga) (d : PyData) : Prop := ∀ Q : Av → Ga → Prop, Q (.d d) Γ → te Γ Q
/-- an iterable whose items are known -/
def IPure (ti : EI) (Γ : Ga) (ds : List PyData) (Γ1 : Ga) : Prop := ∀ QI : List PyData → Ga → Prop, QI ds Γ1 → ti Γ QI
section
variable {α : Type} {Γ Γ1 : Ga} {vs : List Nat} {ti : EI} {g : EG} {tt : ET} {te : EX} {Q : O → Ga → Prop}
/-- a comprehension by what holds ahead of each turn -/
theorem lc_inv (xs : List α) (enc : α → PyData) (I : Nat → List PyData → Ga → Prop) (hi : IPure ti Γ (xs.map enc) Γ1) (pl : Plain Γ1 vs) (h0 : I 0 [] Γ1)
    (turn : ∀ i x acc Γ', xs[i]? = some x → I i acc Γ' → (∀ j ∈ vs, Γ'[j]? = Γ1[j]?) → ∃ Γw, nrm (wipeG Γ' vs) = some Γw ∧ g (enc x) Γw fun Γ2 => tt Γ2 fun b Γ3 => Br b (te Γ3 fun a Γ4 => ∃ y, a = .d y ∧ acc.length < sizeLine ∧ ∃ Γb, nrm (backG Γ1 Γ4 vs) = some Γb ∧ I (i + 1) (acc ++ [y]) Γb) (∃ Γb, nrm (backG Γ1 Γ3 vs) = some Γb ∧ I (i + 1) acc Γb))
    (h : ∀ acc Γ', I xs.length acc Γ' → Q (.ls acc) Γ') : eLc ti g tt te vs Γ Q := by
  refine hi _ ⟨pl, I, h0, fun i d acc Γ' e w sl => ?_, fun acc Γ' w => h acc Γ' (by rw [List.length_map] at w; exact w)⟩
  rw [List.getElem?_map] at e
  cases ex : xs[i]? with
  | none => rw [ex] at e; cases e
  | some x => rw [ex] at e; cases e; exact turn i x acc Γ' ex w sl
/-- [e for x in xs if p], by functions: p, f of the item -/
theorem lc_go (xs : List α) (enc : α → PyData) (p : α → Bool) (f : α → PyData) (hi : IPure ti Γ (xs.map enc) Γ1) (hl : xs.length ≤ sizeLine) (pl : Plain Γ1 vs)
    (turn : ∀ x ∈ xs, ∃ Γw Γx, nrm (wipeG Γ1 vs) = some Γw ∧ (∀ QG : Ga → Prop, QG Γx → g (enc x) Γw QG) ∧ nrm (backG Γ1 Γx vs) = some Γ1 ∧ TPure tt Γx (p x) ∧ (p x = true → XPure te Γx (f x)))
    (h : Q (.ls ((xs.filter p).map f)) Γ1) : eLc ti g tt te vs Γ Q := by
  refine lc_inv xs enc (fun i acc Γ' => Γ' = Γ1 ∧ acc = ((xs.take i).filter p).map f) hi pl ⟨rfl, by simp⟩ (fun i x acc Γ' ex ⟨e1, e2⟩ _ => ?_) (fun acc Γ' ⟨e1, e2⟩ => ?_)
  · subst e1; subst e2
    obtain ⟨Γw, Γx, w1, hg, w2, ht, he⟩ := turn x (List.mem_of_getElem? ex)
    have tk : xs.take (i + 1) = xs.take i ++ [x] := by rw [List.take_add_one, ex]; rfl
    have il : i < xs.length := (List.getElem?_eq_some_iff.mp ex).1
    refine ⟨Γw, w1, hg _ (ht _ ?_)⟩
    cases hp : p x with
    | true =>
      refine br_t (he hp _ ⟨f x, rfl, ?_, Γ', w2, rfl, ?_⟩)
      · rw [List.length_map]
        have := List.length_filter_le p (xs.take i)
        rw [List.length_take] at this
        omega
      · rw [tk, List.filter_append, List.map_append]; simp [hp]
    | false =>
      refine br_f ⟨Γ', w2, rfl, ?_⟩
      rw [tk, List.filter_append]; simp [hp]
  · subst e1; subst e2
    rw [List.take_length]
    exact h
/-- .. without a test -/
theorem lc_map (xs : List α) (enc : α → PyData) (f : α → PyData) (hi : IPure ti Γ (xs.map enc) Γ1) (hl : xs.length ≤ sizeLine) (pl : Plain Γ1 vs)
    (turn : ∀ x ∈ xs, ∃ Γw Γx, nrm (wipeG Γ1 vs) = some Γw ∧ (∀ QG : Ga → Prop, QG Γx → g (enc x) Γw QG) ∧ nrm (backG Γ1 Γx vs) = some Γ1 ∧ XPure te Γx (f x))
    (h : Q (.ls (xs.map f)) Γ1) : eLc ti g tYesD te vs Γ Q := by
  refine lc_go xs enc (fun _ => true) f hi hl pl (fun x hx => ?_) (by rw [List.filter_eq_self.mpr (fun _ _ => rfl)]; exact h)
  obtain ⟨Γw, Γx, w1, hg, w2, he⟩ := turn x hx
  exact ⟨Γw, Γx, w1, hg, w2, fun Q q => q, fun _ => he⟩
/-- a for by what holds ahead of each turn -/
theorem for_inv {t : ES} {D : En} (xs : List α) (enc : α → PyData) (I : Nat → Ga → Prop) (hi : IPure ti Γ (xs.map enc) Γ1) (h0 : I 0 Γ1)
    (turn : ∀ i x Γ', xs[i]? = some x → I i Γ' → g (enc x) Γ' fun Γ2 => t { D with nx := I (i + 1), ct := I (i + 1), bk := D.nx } Γ2) (hd : ∀ Γ', I xs.length Γ' → D.nx Γ') : sFor ti g t D Γ := by
  refine hi _ ⟨I, h0, fun i d Γ' e w => ?_, fun Γ' w => hd Γ' (by rw [List.length_map] at w; exact w)⟩
  rw [List.getElem?_map] at e
  cases ex : xs[i]? with
  | none => rw [ex] at e; cases e
  | some x => rw [ex] at e; cases e; exact turn i x Γ' ex w
/-- a while by what holds ahead of each turn, n falling -/
theorem while_inv {c : ET} {t : ES} {D : En} (W : Nat → Ga → Prop) (m : Nat) (h0 : W m Γ)
    (turn : ∀ m Γ', W m Γ' → c Γ' fun b Γ1 => Br b (t { D with nx := fun Γ2 => ∃ m', m' < m ∧ W m' Γ2, ct := fun Γ2 => ∃ m', m' < m ∧ W m' Γ2, bk := D.nx } Γ1) (D.nx Γ1)) : sWhile c t D Γ := ⟨W, ⟨m, h0⟩, turn⟩
end
theorem plain1 {Γ : Ga} {i : Nat} (h : Γ[i]? = some none ∨ ∃ d, Γ[i]? = some (some (.fz d))) : Plain Γ [i] := fun j hj => by
  have : j = i := by simpa using hj
  subst this; exact h
theorem plain2 {Γ : Ga} {i j : Nat} (h : Γ[i]? = some none ∨ ∃ d, Γ[i]? = some (some (.fz d))) (h2 : Γ[j]? = some none ∨ ∃ d, Γ[j]? = some (some (.fz d))) : Plain Γ [i, j] := fun k hk => by
  rcases List.mem_cons.mp hk with z | z
  · subst z; exact h
  · have : k = j := by simpa using z
    subst this; exact h2
theorem r64 {k : Nat} {A : Around} (hr : Room k A) : A.units + 64 < cLine := hr.units
theorem r65 {k : Nat} {A : Around} (hr : Room k A) : A.units + 65 < cLine := by have := hr.un; omega
end VL
end
section
namespace VL
open PySem PySem.Spec L2

/-! ### typed data -/
/-- an encoding: == of what is encoded, what may be compared (at most n deep) -/
structure Enc {α : Type} [DecidableEq α] (enc : α → PyData) (n : Nat) : Prop where
  eq : ∀ a b, PyData.eqv (enc a) (enc b) = decide (a = b)
  lay : ∀ a, (enc a).canLay0 = true
  dep : ∀ a, (enc a).depth ≤ n
section
variable {α β : Type} [DecidableEq α] [DecidableEq β] {enc : α → PyData} {fnc : β → PyData} {n m : Nat}
theorem layAll_map (h : ∀ a, (enc a).canLay0 = true) : ∀ xs : List α, PyData.canLayAll0 (xs.map enc) = true
  | [] => by simp [PyData.canLayAll0]
  | x :: xs => by simp [PyData.canLayAll0, h x, layAll_map h xs]
theorem depAll_map (h : ∀ a, (enc a).depth ≤ n) : ∀ xs : List α, PyData.depthAll (xs.map enc) ≤ n
  | [] => by simp [PyData.depthAll]
  | x :: xs => by
    have h1 := h x
    have h2 := depAll_map h xs
    simp only [List.map_cons, PyData.depthAll]
    omega
theorem eqvAll_map (h : ∀ a b, PyData.eqv (enc a) (enc b) = decide (a = b)) : ∀ xs ys : List α, PyData.eqvAll (xs.map enc) (ys.map enc) = decide (xs = ys)
  | [], [] => by simp [PyData.eqvAll]
  | [], y :: ys => by simp [PyData.eqvAll]
  | x :: xs, [] => by simp [PyData.eqvAll]
  | x :: xs, y :: ys => by
    simp only [List.map_cons, PyData.eqvAll, h x y, eqvAll_map h xs ys, List.cons.injEq]
    by_cases e1 : x = y <;> by_cases e2 : xs = ys <;> simp [e1, e2]
theorem Enc.shaped (h : Enc enc n) (hn : n ≤ 64) (a : α) : shaped (enc a) := by
  unfold VL.shaped SeqAt.shaped
  rw [h.lay a, Bool.true_and, decide_eq_true_eq]
  exact Nat.le_trans (h.dep a) hn
theorem Enc.tup (h : Enc enc n) : Enc (fun xs : List α => PyData.tuple (xs.map enc)) (n + 1) where
  eq := fun xs ys => by simp only [PyData.eqv]; exact eqvAll_map h.eq xs ys
  lay := fun xs => by simp only [PyData.canLay0]; exact layAll_map h.lay xs
  dep := fun xs => by simp only [PyData.depth]; have := depAll_map h.dep xs; omega
theorem Enc.lst (h : Enc enc n) : Enc (fun xs : List α => PyData.list (xs.map enc)) (n + 1) where
  eq := fun xs ys => by simp only [PyData.eqv]; exact eqvAll_map h.eq xs ys
  lay := fun xs => by simp only [PyData.canLay0]; exact layAll_map h.lay xs
  dep := fun xs => by simp only [PyData.depth]; have := depAll_map h.dep xs; omega
theorem Enc.pair (h : Enc enc n) (k : Enc fnc m) : Enc (fun p : α × β => PyData.tuple [enc p.1, fnc p.2]) (max n m + 1) where
  eq := fun ⟨a, b⟩ ⟨c, d⟩ => by
    simp only [PyData.eqv, PyData.eqvAll, h.eq, k.eq, Bool.and_true, Prod.mk.injEq]
    by_cases e1 : a = c <;> by_cases e2 : b = d <;> simp [e1, e2]
  lay := fun p => by simp [PyData.canLay0, PyData.canLayAll0, h.lay, k.lay]
  dep := fun p => by
    have h1 := h.dep p.1
    have h2 := k.dep p.2
    simp only [PyData.depth, PyData.depthAll]
    omega
theorem enc_int : Enc PyData.int 0 where
  eq := fun a b => by simp only [PyData.eqv]; exact Bool.beq_eq_decide_eq a b
  lay := fun a => by simp [PyData.canLay0]
  dep := fun a => by simp [PyData.depth]
theorem enc_bool : Enc PyData.bool 0 where
  eq := fun a b => by simp only [PyData.eqv]; exact Bool.beq_eq_decide_eq a b
  lay := fun a => by simp [PyData.canLay0]
  dep := fun a => by simp [PyData.depth]
def isIn (x : α) (xs : List α) : Bool := xs.any fun y => decide (y = x)
theorem isIn_iff {x : α} {xs : List α} : isIn x xs = true ↔ x ∈ xs := by
  unfold isIn
  rw [List.any_eq_true]
  constructor
  · rintro ⟨y, h, e⟩
    rw [← of_decide_eq_true e]; exact h
  · intro h; exact ⟨x, h, decide_eq_true rfl⟩
theorem isIn_false {x : α} {xs : List α} : isIn x xs = false ↔ x ∉ xs := by
  rw [← Bool.not_eq_true, isIn_iff]
theorem any_enc (h : Enc enc n) (x : α) : ∀ xs : List α, ((xs.map enc).any fun z => PyData.eqv z (enc x)) = isIn x xs
  | [] => rfl
  | y :: ys => by
    rw [List.map_cons, List.any_cons, h.eq, any_enc h x ys]
    rfl
theorem op_eqE (h : Enc enc n) (hn : n ≤ 64) {a b : α} {Q : O → Prop} (q : Q (.fz (.bool (decide (a = b))))) : opEq (enc a) (enc b) Q := ⟨h.shaped hn a, h.shaped hn b, by rw [h.eq]; exact q⟩
theorem op_neE (h : Enc enc n) (hn : n ≤ 64) {a b : α} {Q : O → Prop} (q : Q (.fz (.bool (!decide (a = b))))) : opNe (enc a) (enc b) Q := ⟨h.shaped hn a, h.shaped hn b, by rw [h.eq]; exact q⟩
theorem op_inE (h : Enc enc n) (hn : n + 1 ≤ 64) {a : α} {xs : List α} {Q : O → Prop} (q : Q (.fz (.bool (isIn a xs)))) : opIn (enc a) (.tuple (xs.map enc)) Q := by
  unfold opIn
  refine ⟨h.shaped (by omega) a, h.tup.shaped (by omega) xs, ?_⟩
  rw [any_enc h]; exact q
theorem op_inLE (h : Enc enc n) (hn : n + 1 ≤ 64) {a : α} {xs : List α} {Q : O → Prop} (q : Q (.fz (.bool (isIn a xs)))) : opIn (enc a) (.list (xs.map enc)) Q := by
  unfold opIn
  refine ⟨h.shaped (by omega) a, h.lst.shaped (by omega) xs, ?_⟩
  rw [any_enc h]; exact q
theorem op_notInE (h : Enc enc n) (hn : n + 1 ≤ 64) {a : α} {xs : List α} {Q : O → Prop} (q : Q (.fz (.bool (!isIn a xs)))) : opNotIn (enc a) (.tuple (xs.map enc)) Q := by
  unfold opNotIn
  refine ⟨h.shaped (by omega) a, h.tup.shaped (by omega) xs, ?_⟩
  rw [any_enc h]; exact q
theorem op_notInLE (h : Enc enc n) (hn : n + 1 ≤ 64) {a : α} {xs : List α} {Q : O → Prop} (q : Q (.fz (.bool (!isIn a xs)))) : opNotIn (enc a) (.list (xs.map enc)) Q := by
  unfold opNotIn
  refine ⟨h.shaped (by omega) a, h.lst.shaped (by omega) xs, ?_⟩
  rw [any_enc h]; exact q
end
/-! literals, rules, sheets, fillings -/
abbrev Lit := Int × Bool
abbrev Rule := List Lit
def dLit (b : Int) (s : Bool) : PyData := .tuple [.int b, .bool s]
def dL (l : Lit) : PyData := dLit l.1 l.2
def dR (r : Rule) : PyData := .tuple (r.map dL)
def dRs (rs : List Rule) : PyData := .tuple (rs.map dR)
def dS (m : Int) (rs : List Rule) : PyData := .tuple [.int m, dRs rs]
def dF (f : List Bool) : PyData := .tuple (f.map .bool)
def neg (l : Lit) : Lit := (l.1, !l.2)
theorem enc_L : Enc dL 1 := enc_int.pair enc_bool
theorem enc_R : Enc dR 2 := enc_L.tup
theorem enc_Rs : Enc dRs 3 := enc_R.tup
theorem enc_F : Enc dF 1 := enc_bool.tup
end VL
end
section
namespace VL
open PySem PySem.Spec L2

/-! ### trees -/
theorem keepU {G H : Hp} {a : Addr} {o : HO} (d : G a = none) (s : Same G H) : Same G (upd H a o) := fun b u e => by
  by_cases z : b = a
  · subst z; rw [d] at e; cases e
  · rw [upd_ne z]; exact s _ _ e
theorem dis_at {G : Hp} {a : Addr} {o o' : HO} (d : Dis (one a o) G) : Dis (one a o') G := dis_one (of_dis_one d)
section
variable {K : PySem.W.Frag} {F F' : Hp} {o : O} {ts : List O} {v : V} {vs : List V} {h h1 h2 : Hp}
theorem ownT_nil : OwnT K F [] vs h ↔ vs = [] ∧ h = emp := by unfold OwnT; exact Iff.rfl
theorem ownT_cons : OwnT K F (o :: ts) vs h ↔ ∃ v vr h1 h2, vs = v :: vr ∧ h = jn h1 h2 ∧ Dis h1 h2 ∧ Own K F o v h1 ∧ OwnT K F ts vr h2 := by rw [OwnT]
theorem OwnT.len : ∀ {ts : List O} {vs : List V} {h : Hp}, OwnT K F ts vs h → vs.length = ts.length
  | [], _, _, w => by rw [(ownT_nil.mp w).1]; rfl
  | _ :: _, _, _, w => by
    obtain ⟨v, vr, h1, h2, rfl, _, _, _, q⟩ := ownT_cons.mp w
    simp [OwnT.len q]
theorem OwnT.focus : ∀ {ts : List O} {vs : List V} {h : Hp} {k : Nat} {o : O}, OwnT K F ts vs h → ts[k]? = some o →
    ∃ v h1 h2, vs[k]? = some v ∧ h = jn h1 h2 ∧ Dis h1 h2 ∧ Own K F o v h1 ∧
      (∀ F' o' v' h1', Same F F' → Own K F' o' v' h1' → Dis h1' h2 → OwnT K F' (ts.set k o') (vs.set k v') (jn h1' h2)) ∧ OwnT K F (ts.eraseIdx k) (vs.eraseIdx k) h2
  | [], _, _, _, _, _, e => by simp at e
  | o :: ts, _, h, 0, o', w, e => by
    obtain ⟨v, vr, h1, h2, rfl, rfl, d, w1, q⟩ := ownT_cons.mp w
    have eo : o = o' := by simpa using e
    subst eo
    exact ⟨v, h1, h2, rfl, rfl, d, w1, fun F' o' v' h1' s w' d' => ownT_cons.mpr ⟨v', vr, h1', h2, rfl, rfl, d', w', q.mono s⟩, q⟩
  | o :: ts, _, h, k + 1, o', w, e => by
    obtain ⟨v, vr, g1, g2, rfl, rfl, d, w1, q⟩ := ownT_cons.mp w
    obtain ⟨u, h1, h2, a1, a2, a3, a4, a5, a6⟩ := OwnT.focus (k := k) (o := o') q (by simpa using e)
    subst a2
    have d1 : Dis g1 h1 := (Dis.sub same_l d.symm).symm
    have d2 : Dis g1 h2 := (Dis.sub (same_r a3) d.symm).symm
    refine ⟨u, h1, jn g1 h2, by simpa using a1, ?_, (Dis.jn d1 a3.symm).symm, a4, fun F' o' v' h1' s w' d' => ?_, ownT_cons.mpr ⟨v, _, g1, h2, rfl, rfl, d2, w1, a6⟩⟩
    · rw [← jn_assoc, jn_comm d1, jn_assoc]
    · have f1 : Dis h1' g1 := (Dis.sub same_l d'.symm).symm
      have f2 : Dis h1' h2 := (Dis.sub (same_r d2) d'.symm).symm
      refine ownT_cons.mpr ⟨v, _, g1, jn h1' h2, rfl, ?_, (Dis.jn f1 d2.symm).symm, w1.mono s, a5 F' o' v' h1' s w' f2⟩
      rw [← jn_assoc, jn_comm f1, jn_assoc]
theorem OwnT.app : ∀ {ts : List O} {vs : List V} {h : Hp}, OwnT K F ts vs h → Own K F o v h1 → Dis h h1 → OwnT K F (ts ++ [o]) (vs ++ [v]) (jn h h1)
  | [], _, _, w, w1, d => by
    obtain ⟨rfl, rfl⟩ := ownT_nil.mp w
    exact ownT_cons.mpr ⟨v, [], h1, emp, rfl, by rw [emp_jn, jn_emp], Dis.emp.symm, w1, ownT_nil.mpr ⟨rfl, rfl⟩⟩
  | _ :: _, _, _, w, w1, d => by
    obtain ⟨u, vr, g1, g2, rfl, rfl, dd, w2, q⟩ := ownT_cons.mp w
    have d1 : Dis g1 h1 := Dis.sub same_l d
    have d2 : Dis g2 h1 := Dis.sub (same_r dd) d
    exact ownT_cons.mpr ⟨u, vr ++ [v], g1, jn g2 h1, rfl, jn_assoc, (Dis.jn dd.symm d1.symm).symm, w2, OwnT.app q w1 d2⟩
theorem ownT_fz : ∀ {ds : List PyData} {vs : List V} {h : Hp}, OwnT K F (ds.map .fz) vs h ↔ RpAll K F vs ds ∧ h = emp
  | [], vs, h => by
    constructor
    · intro w; obtain ⟨rfl, rfl⟩ := ownT_nil.mp w; exact ⟨.nil, rfl⟩
    · rintro ⟨r, rfl⟩; cases r; exact ownT_nil.mpr ⟨rfl, rfl⟩
  | d :: ds, vs, h => by
    constructor
    · intro w
      obtain ⟨v, vr, g1, g2, rfl, rfl, dd, w2, q⟩ := ownT_cons.mp w
      obtain ⟨r, rfl⟩ := ownT_fz.mp q
      obtain ⟨rfl, rr⟩ := own_fz.mp w2
      exact ⟨.cons rr r, by rw [emp_jn]⟩
    · rintro ⟨r, rfl⟩
      cases r with
      | cons r1 r2 => exact ownT_cons.mpr ⟨_, _, emp, emp, rfl, by rw [emp_jn], Dis.emp, own_fz.mpr ⟨rfl, r1⟩, ownT_fz.mpr ⟨r2, rfl⟩⟩
end
section
variable {K : PySem.W.Frag} {pn : List (Nat × V)} {Z F F' : Hp} {Γ : Ga} {σ : St} {h hr H H' : Hp} {v : V} {o : O} {d : PyData} {ts : List O} {i k : Nat}
/-- a part beside put back into the slot it came from -/
theorem AtR.restore {v : V} (A : AtR K pn Z F Γ σ h hr H) (w : Own K F o v hr) (hi : i < Γ.length) (e : σ[i]? = some (some v)) : ∃ h', At K pn Z F (Γ.set i (some o)) σ h' H ∧ (∀ a, h' a ≠ none → h a ≠ none ∨ hr a ≠ none) := by
  obtain ⟨h2, s2, a, _⟩ := A.at_.own.put hi
  have d2 : Dis hr h2 := (Dis.sub s2 A.rh.symm).symm
  have q := a F o v hr (Same.refl _) w d2
  rw [set_self e] at q
  refine ⟨jn hr h2, ⟨q, same_jn A.rH (s2.trans A.at_.hH), A.at_.FH, A.at_.ZH, A.at_.FZ, Dis.jn A.rF (Dis.sub s2 A.at_.hF), Dis.jn A.rZ (Dis.sub s2 A.at_.hZ), A.at_.pin⟩, fun a e => ?_⟩
  cases z : hr a with
  | some u => exact .inr (by simp)
  | none =>
    rw [jn_r z] at e
    left
    intro y
    exact e (s2.free y)
/-- the tree of a slot: its root, its elements -/
structure TrAt (K : PySem.W.Frag) (pn : List (Nat × V)) (Z F : Hp) (Γ : Ga) (σ : St) (h H : Hp) (i : Nat) (ts : List O) (a : Addr) (vs : List V) (hT g : Hp) : Prop where
  sl : σ[i]? = some (some (.ref a))
  at_ : H a = some (.lst vs)
  own : OwnT K F ts vs hT
  TH : Same hT H
  Ta : hT a = none
  TF : Dis hT F
  TZ : Dis hT Z
  Tg : Dis hT g
  gH : Same g H
  ga : g a = none
  gF : Dis g F
  gZ : Dis g Z
  Fa : F a = none
  Za : Z a = none
  ph : ∀ k, Dis h k → Dis hT k ∧ Dis g k ∧ k a = none
  put : ∀ F' ts' vs' hT' H', Same F F' → OwnT K F' ts' vs' hT' → H' a = some (.lst vs') → Same hT' H' → Same F' H' → Same Z H' → Same g H' → Dis F' Z → hT' a = none → Dis hT' g → Dis hT' F' → Dis hT' Z → Dis g F' → F' a = none →
    At K pn Z F' (Γ.set i (some (.tr ts'))) σ (jn (jn (one a (.lst vs')) hT') g) H'
theorem At.changeT (A : At K pn Z F Γ σ h H) (e : Γ[i]? = some (some (.tr ts))) : ∃ a vs hT g, TrAt K pn Z F Γ σ h H i ts a vs hT g := by
  obtain ⟨v, h1, h2, a1, rfl, d12, a4, a5⟩ := A.own.focus e
  obtain ⟨a, vs, hT, rfl, rfl, dT, w⟩ := own_tr.mp a4
  have s1 : Same (one a (.lst vs)) (jn (jn (one a (.lst vs)) hT) h2) := fun x u z => same_l _ _ (same_l _ _ z)
  have sT : Same hT (jn (jn (one a (.lst vs)) hT) h2) := fun x u z => same_l _ _ (same_r dT _ _ z)
  have s2 : Same h2 (jn (jn (one a (.lst vs)) hT) h2) := same_r d12
  have da2 : Dis (one a (.lst vs)) h2 := Dis.sub same_l d12
  have dT2 : Dis hT h2 := Dis.sub (same_r dT) d12
  refine ⟨a, vs, hT, h2, ⟨a1, A.hH _ _ (s1 _ _ one_at), w, sT.trans A.hH, of_dis_one dT, Dis.sub sT A.hF, Dis.sub sT A.hZ, dT2, s2.trans A.hH, of_dis_one da2, Dis.sub s2 A.hF, Dis.sub s2 A.hZ, of_dis_one (Dis.sub s1 A.hF), of_dis_one (Dis.sub s1 A.hZ),
    fun k dk => ⟨Dis.sub sT dk, Dis.sub s2 dk, of_dis_one (Dis.sub s1 dk)⟩, fun F' ts' vs' hT' H' sF w' hA sT' sF' sZ' sg' dFZ ta tg tF tZ gF fa => ?_⟩⟩
  have dT' : Dis (one a (.lst vs')) hT' := dis_one ta
  have q := a5 F' (.tr ts') (.ref a) (jn (one a (.lst vs')) hT') sF (own_tr.mpr ⟨a, vs', hT', rfl, rfl, dT', w'⟩) (Dis.jn (dis_one (of_dis_one da2)) tg)
  rw [set_self a1] at q
  have zA : Z a = none := of_dis_one (Dis.sub s1 A.hZ)
  exact ⟨q, same_jn (same_jn (same_one hA) sT') sg', sF', sZ', dFZ, Dis.jn (Dis.jn (dis_one fa) tF) gF, Dis.jn (Dis.jn (dis_one zA) tZ) (Dis.sub s2 A.hZ), A.pin⟩
/-- nothing changed but one element's form: o' stands where o stood -/
theorem TrAt.elem {a : Addr} {vs : List V} {hT g : Hp} (T : TrAt K pn Z F Γ σ h H i ts a vs hT g) (A : At K pn Z F Γ σ h H) (e : ts[k]? = some o) :
    ∃ v h1, vs[k]? = some v ∧ Own K F o v h1 ∧ Same h1 H ∧ Dis h1 F ∧ Dis h1 Z ∧ h1 a = none ∧
    (∀ F' o' h1' H', Same F F' → Own K F' o' v h1' → H' a = some (.lst vs) → Same h1' H' → Same F' H' → Same Z H' → (∀ G, Same G H → Dis h1 G → Same G H') → Dis F' Z → h1' a = none → (∀ G, Dis h1 G → Dis h1' G) → Dis h1' F' → Dis h1' Z → (∀ G, Same G H → Dis G F → Dis h1 G → Dis G F') → F' a = none →
      ∃ h', At K pn Z F' (Γ.set i (some (.tr (ts.set k o')))) σ h' H') := by
  obtain ⟨v, h1, h2, a1, rfl, d12, w1, put, _⟩ := T.own.focus e
  have s1 : Same h1 (jn h1 h2) := same_l
  have s2 : Same h2 (jn h1 h2) := same_r d12
  refine ⟨v, h1, a1, w1, s1.trans T.TH, Dis.sub s1 T.TF, Dis.sub s1 T.TZ, s1.free T.Ta, fun F' o' h1' H' sF w' hA sh sF' sZ' keep dFZ ha kd dF' dZ' kF fa => ?_⟩
  have q := put F' o' v h1' sF w' (kd h2 d12)
  rw [set_self a1] at q
  have d1g : Dis h1 g := Dis.sub s1 T.Tg
  have k2 : Same h2 H' := keep h2 (s2.trans T.TH) d12
  have kg : Same g H' := keep g T.gH d1g
  have ja : ∀ x : Addr, h1' x = none → h2 x = none → jn h1' h2 x = none := fun x e1 e2 => by rw [jn_r e1]; exact e2
  exact ⟨_, T.put F' (ts.set k o') vs (jn h1' h2) H' sF q hA (same_jn sh k2) sF' sZ' kg dFZ (ja a ha (s2.free T.Ta)) (Dis.jn (kd g d1g) (Dis.sub s2 T.Tg)) (Dis.jn dF' (kF h2 (s2.trans T.TH) (Dis.sub s2 T.TF) d12)) (Dis.jn dZ' (Dis.sub s2 T.TZ)) (kF g T.gH T.gF d1g) fa⟩
/-- an element frozen where it stands -/
theorem At.frzE (A : At K pn Z F Γ σ h H) (e : Γ[i]? = some (some (.tr ts))) (e1 : ts[k]? = some o) (e2 : o.frz = some d) : ∃ F' h' a vs v, Same F F' ∧ σ[i]? = some (some (.ref a)) ∧ H a = some (.lst vs) ∧ vs[k]? = some v ∧ At K pn Z F' (Γ.set i (some (.tr (ts.set k (.fz d))))) σ h' H ∧ Rp K F' v d := by
  obtain ⟨a, vs, hT, g, T⟩ := A.changeT e
  obtain ⟨v, h1, a1, w1, sh, dF, dZ, ha, put⟩ := T.elem A e1
  obtain ⟨F', s, rfl, q⟩ := w1.frz e2 dF
  have kF : ∀ G, Same G H → Dis G F → Dis h1 G → Dis G (jn h1 F) := fun G _ d1 d2 => (Dis.jn d2 d1.symm).symm
  have sFH : Same (jn h1 F) H := same_jn sh A.FH
  obtain ⟨h', A'⟩ := put (jn h1 F) (.fz d) emp H s (own_fz.mpr ⟨rfl, q⟩) T.at_ same_emp sFH A.ZH (fun G sG _ => sG) (Dis.jn dZ A.FZ) rfl (fun _ _ => Dis.emp) Dis.emp Dis.emp kF (by rw [jn_r ha]; exact T.Fa)
  exact ⟨_, h', a, vs, v, s, T.sl, T.at_, a1, A', q⟩
/-- an element's own list changed -/
theorem At.changeE {ds : List PyData} (A : At K pn Z F Γ σ h H) (e : Γ[i]? = some (some (.tr ts))) (e1 : ts[k]? = some (.ls ds)) : ∃ a vs b ws, σ[i]? = some (some (.ref a)) ∧ H a = some (.lst vs) ∧ vs[k]? = some (.ref b) ∧ H b = some (.lst ws) ∧ RpAll K F ws ds ∧
    ∀ ws' ds', RpAll K F ws' ds' → ∃ h', At K pn Z F (Γ.set i (some (.tr (ts.set k (.ls ds'))))) σ h' (upd H b (.lst ws')) := by
  obtain ⟨a, vs, hT, g, T⟩ := A.changeT e
  obtain ⟨v, h1, a1, w1, sh, dF, dZ, ha, put⟩ := T.elem A e1
  obtain ⟨b, ws, rfl, rfl, r⟩ := own_ls.mp w1
  have hab : a ≠ b := fun z => by subst z; rw [one_at] at ha; cases ha
  refine ⟨a, vs, b, ws, T.sl, T.at_, a1, sh _ _ one_at, r, fun ws' ds' r' => ?_⟩
  exact put F (.ls ds') (VL.one b (.lst ws')) (upd H b (.lst ws')) (Same.refl _) (own_ls.mpr ⟨b, ws', rfl, rfl, r'⟩) (by rw [upd_ne hab]; exact T.at_) (same_one upd_same) (keepU (of_dis_one dF) A.FH) (keepU (of_dis_one dZ) A.ZH) (fun G sG dG => keepU (of_dis_one dG) sG) A.FZ (one_ne hab) (fun G dG => dis_at dG) (dis_at dF) (dis_at dZ) (fun G _ d1 _ => d1) T.Fa
/-- an element's dict changed -/
theorem At.changeED {kk : List (Key × PyData)} (A : At K pn Z F Γ σ h H) (e : Γ[i]? = some (some (.tr ts))) (e1 : ts[k]? = some (.dk kk)) : ∃ a vs b ws, σ[i]? = some (some (.ref a)) ∧ H a = some (.lst vs) ∧ vs[k]? = some (.ref b) ∧ H b = some (.dK ws) ∧ KvAll K F ws kk ∧
    ∀ ws' kk', KvAll K F ws' kk' → ∃ h', At K pn Z F (Γ.set i (some (.tr (ts.set k (.dk kk'))))) σ h' (upd H b (.dK ws')) := by
  obtain ⟨a, vs, hT, g, T⟩ := A.changeT e
  obtain ⟨v, h1, a1, w1, sh, dF, dZ, ha, put⟩ := T.elem A e1
  obtain ⟨b, ws, rfl, rfl, r⟩ : ∃ b ws, v = .ref b ∧ h1 = VL.one b (.dK ws) ∧ KvAll K F ws kk := by unfold Own at w1; exact w1
  have hab : a ≠ b := fun z => by subst z; rw [one_at] at ha; cases ha
  refine ⟨a, vs, b, ws, T.sl, T.at_, a1, sh _ _ one_at, r, fun ws' ds' r' => ?_⟩
  exact put F (.dk ds') (VL.one b (.dK ws')) (upd H b (.dK ws')) (Same.refl _) (by unfold Own; exact ⟨b, ws', rfl, rfl, r'⟩) (by rw [upd_ne hab]; exact T.at_) (same_one upd_same) (keepU (of_dis_one dF) A.FH) (keepU (of_dis_one dZ) A.ZH) (fun G sG dG => keepU (of_dis_one dG) sG) A.FZ (one_ne hab) (fun G dG => dis_at dG) (dis_at dF) (dis_at dZ) (fun G _ d1 _ => d1) T.Fa
/-- an owned part put behind -/
theorem AtR.pushT (A : AtR K pn Z F Γ σ h hr H) (w : Own K F o v hr) (e : Γ[i]? = some (some (.tr ts))) : ∃ a vs, σ[i]? = some (some (.ref a)) ∧ H a = some (.lst vs) ∧ vs.length = ts.length ∧ ∃ h', At K pn Z F (Γ.set i (some (.tr (ts ++ [o])))) σ h' (upd H a (.lst (vs ++ [v]))) := by
  obtain ⟨a, vs, hT, g, T⟩ := A.at_.changeT e
  obtain ⟨d1, d2, d3⟩ := T.ph hr A.rh.symm
  refine ⟨a, vs, T.sl, T.at_, T.own.len, _, T.put F (ts ++ [o]) (vs ++ [v]) (jn hT hr) _ (Same.refl _) (T.own.app w d1) upd_same (same_jn (keepU T.Ta T.TH) (keepU d3 A.rH)) (keepU T.Fa A.at_.FH) (keepU T.Za A.at_.ZH) (keepU T.ga T.gH) A.at_.FZ (by rw [jn_r T.Ta]; exact d3) (Dis.jn T.Tg d2.symm) (Dis.jn T.TF A.rF) (Dis.jn T.TZ A.rZ) T.gF T.Fa⟩
/-- an element put anew (what stood there is dropped) -/
theorem AtR.putT (A : AtR K pn Z F Γ σ h hr H) (w : Own K F o v hr) (e : Γ[i]? = some (some (.tr ts))) (hk : k < ts.length) : ∃ a vs, σ[i]? = some (some (.ref a)) ∧ H a = some (.lst vs) ∧ vs.length = ts.length ∧ ∃ h', At K pn Z F (Γ.set i (some (.tr (ts.set k o)))) σ h' (upd H a (.lst (vs.set k v))) := by
  obtain ⟨a, vs, hT, g, T⟩ := A.at_.changeT e
  obtain ⟨d1, d2, d3⟩ := T.ph hr A.rh.symm
  obtain ⟨u, h1, h2, a1, rfl, d12, w1, put, _⟩ := T.own.focus (List.getElem?_eq_getElem hk)
  have s2 : Same h2 (jn h1 h2) := same_r d12
  have e2 : Dis hr h2 := (Dis.sub s2 d1).symm
  refine ⟨a, vs, T.sl, T.at_, T.own.len, _, T.put F (ts.set k o) (vs.set k v) (jn hr h2) _ (Same.refl _) (put F o v hr (Same.refl _) w e2) upd_same (same_jn (keepU d3 A.rH) (keepU (s2.free T.Ta) (s2.trans T.TH))) (keepU T.Fa A.at_.FH) (keepU T.Za A.at_.ZH) (keepU T.ga T.gH) A.at_.FZ (by rw [jn_r d3]; exact s2.free T.Ta) (Dis.jn d2.symm (Dis.sub s2 T.Tg)) (Dis.jn A.rF (Dis.sub s2 T.TF)) (Dis.jn A.rZ (Dis.sub s2 T.TZ)) T.gF T.Fa⟩
/-- an element taken out -/
theorem At.takeT (A : At K pn Z F Γ σ h H) (e : Γ[i]? = some (some (.tr ts))) (e1 : ts[k]? = some o) : ∃ a vs v, σ[i]? = some (some (.ref a)) ∧ H a = some (.lst vs) ∧ vs.length = ts.length ∧ vs[k]? = some v ∧ ∃ h' hr, AtR K pn Z F (Γ.set i (some (.tr (ts.eraseIdx k)))) σ h' hr (upd H a (.lst (vs.eraseIdx k))) ∧ Own K F o v hr := by
  obtain ⟨a, vs, hT, g, T⟩ := A.changeT e
  obtain ⟨v, h1, h2, a1, rfl, d12, w1, _, er⟩ := T.own.focus e1
  have s1 : Same h1 (jn h1 h2) := same_l
  have s2 : Same h2 (jn h1 h2) := same_r d12
  refine ⟨a, vs, v, T.sl, T.at_, T.own.len, a1, _, h1, ⟨T.put F (ts.eraseIdx k) (vs.eraseIdx k) h2 _ (Same.refl _) er upd_same (keepU (s2.free T.Ta) (s2.trans T.TH)) (keepU T.Fa A.FH) (keepU T.Za A.ZH) (keepU T.ga T.gH) A.FZ (s2.free T.Ta) (Dis.sub s2 T.Tg) (Dis.sub s2 T.TF) (Dis.sub s2 T.TZ) T.gF T.Fa, keepU (s1.free T.Ta) (s1.trans T.TH), ?_, Dis.sub s1 T.TF, Dis.sub s1 T.TZ⟩, w1⟩
  exact (Dis.jn (Dis.jn (dis_one (s1.free T.Ta)) d12.symm) (Dis.sub s1 T.Tg).symm).symm
end
end VL
end
section
namespace VL
open PySem PySem.Spec L2

/-! ### an element of a slot's tree, as it stands -/
abbrev EE := Ga → (Nat → Nat → Ga → Prop) → Prop
def ElV (σ : St) (H : Hp) (i k : Nat) (v : V) : Prop := ∃ a vs, σ[i]? = some (some (.ref a)) ∧ H a = some (.lst vs) ∧ vs[k]? = some v
def elG (Γ : Ga) (i k : Nat) : Option O := match Γ[i]? with
  | some (some (.tr ts)) => ts[k]?
  | _ => none
def elD : O → Option PyData
  | .fz d => some d
  | .ls ds => some (.list ds)
  | _ => none
def lE (K : PySem.W.Frag) (τ : EE) : TE := fun σ H QV => ∃ pn Z F Γ h Q, At K pn Z F Γ σ h H ∧ τ Γ Q ∧ ∀ F' Γ' h' H' i k v, Same F F' → At K pn Z F' Γ' σ h' H' → ElV σ H' i k v → Q i k Γ' → QV v H'
def eEl (i : Nat) (τ : EX) : EE := fun Γ Q => (∃ ts, Γ[i]? = some (some (.tr ts))) ∧ τ Γ fun a Γ1 => ∃ ts z k, Γ1[i]? = some (some (.tr ts)) ∧ rslv Γ1 a = some (.int z) ∧ ixN ts.length z = some k ∧ Q i k Γ1
theorem ixN_lt {n k : Nat} {z : Int} (h : ixN n z = some k) : k < n := by
  unfold ixN at h
  split at h
  · split at h
    · cases h; omega
    · cases h
  · split at h
    · cases h; omega
    · cases h
theorem elG_some {Γ : Ga} {i k : Nat} {o : O} (h : elG Γ i k = some o) : ∃ ts, Γ[i]? = some (some (.tr ts)) ∧ ts[k]? = some o := by
  unfold elG at h
  split at h
  · rename_i ts e; exact ⟨ts, e, h⟩
  · cases h
section
variable {K : PySem.W.Frag} {pn : List (Nat × V)} {Z F F' : Hp} {Γ : Ga} {σ : St} {h hr H H' : Hp} {v : V} {o : O} {d : PyData} {ts : List O} {i k : Nat}
theorem At.root (A : At K pn Z F Γ σ h H) (e : Γ[i]? = some (some (.tr ts))) : ∃ a vs, σ[i]? = some (some (.ref a)) ∧ H a = some (.lst vs) ∧ vs.length = ts.length := by
  obtain ⟨a, vs, hT, g, T⟩ := A.changeT e
  exact ⟨a, vs, T.sl, T.at_, T.own.len⟩
theorem rep_el (A : At K pn Z F Γ σ h H) (r : ElV σ H i k v) (e : elG Γ i k = some o) (e2 : elD o = some d) : RepS K F H d v := by
  obtain ⟨ts, e1, e3⟩ := elG_some e
  obtain ⟨a, vs, hT, g, T⟩ := A.changeT e1
  obtain ⟨u, h1, a1, w1, sh, _⟩ := T.elem A e3
  obtain ⟨b, ws, r1, r2, r3⟩ := r
  have x := T.sl
  rw [r1] at x; cases x
  have y := T.at_
  rw [r2] at y; cases y
  rw [a1] at r3; cases r3
  cases o with
  | fz d' => cases e2; exact .inl (own_fz.mp w1).2
  | ls ds =>
    cases e2
    obtain ⟨c, us, rfl, rfl, q⟩ := own_ls.mp w1
    exact .inr ⟨c, us, ds, rfl, rfl, sh _ _ one_at, q⟩
  | dk _ => cases e2
  | rs _ => cases e2
  | tr _ => cases e2
  | td _ _ => cases e2
end
section
variable {X : Cx} {e o idx : Expr} {es : List Expr} {τ τk τv : EX} {τe : EE} {τo : EO} {τs : EA} {p pos cpos apos : Pos} {id T : String} {cd : List PyData → (O → Prop) → Prop} {x : Str}
theorem ve_el (i : Nat) (ho : PE X o (tVar i)) (hx : PE X idx (lX X.K τ)) (hs : PlainIx idx := by intro _ _; rfl) : PE X (.Subscript o idx pos) (lE X.K (eEl i τ)) :=
  pe_imp (pe_ix ix_list ho hx hs) fun σ H QV ⟨pn, Z, F, Γ, hh, Q, A, ⟨⟨ts0, e0⟩, q⟩, k⟩ => by
    obtain ⟨a, vs0, s0, _, _⟩ := A.root e0
    refine ⟨.ref a, s0, pn, Z, F, Γ, hh, _, A, q, fun F1 Γ1 h1 H1 av y s1 A1 r1 ⟨ts, z, kk, e1, e2, e3, q1⟩ => ?_⟩
    obtain ⟨b, vs, s2, hb, hl⟩ := A1.root e1
    rw [s0] at s2; cases s2
    have hk : kk < vs.length := by rw [hl]; exact ixN_lt e3
    refine ⟨a, vs, z, vs[kk], rfl, (rep_of A1 r1 e2).int, SqL.of hb, ?_, k F1 Γ1 h1 H1 i kk _ s1 A1 ⟨a, vs, s0, hb, List.getElem?_eq_getElem hk⟩ q1⟩
    unfold atI
    rw [hl, e3]
    exact List.getElem?_eq_getElem hk
/-! calls with an element -/
def eCBE (cd : List PyData → (O → Prop) → Prop) (τe : EE) : EO := fun Γ Q => τe Γ fun i k Γ1 => ∃ o d, elG Γ1 i k = some o ∧ elD o = some d ∧ cd [d] fun o => Q o Γ1
theorem cbe_read {σ : St} {H : Hp} {QV : VK} (h : lO X.K (eCBE cd τe) σ H QV) : lE X.K τe σ H fun v H1 => ∃ F ds Q, Same F H1 ∧ RepL X.K F H1 ds [v] ∧ cd ds Q ∧ OpPost X.K F H1 Q QV := by
  obtain ⟨pn, Z, F, Γ, hh, Q, A, q, kk⟩ := h
  exact ⟨pn, Z, F, Γ, hh, _, A, q, fun F1 Γ1 h1 H1 i k v s1 A1 r1 ⟨o, d, e1, e2, q1⟩ => ⟨F1, [d], _, A1.FH, .cons (rep_el A1 r1 e1 e2) .nil, q1, A1.post s1 kk⟩⟩
theorem vo_cbE (hc : CallD X (.builtin id) cd) (hg : Gl X x) (hm : X.mg x = none) (hv : bootBuiltins x = some (.builtin id)) (he : PE X e (lE X.K τe)) (hn : x ≠ "__name__" := by decide) (hdb : (x == ("__debug__" : Str)) = false := by decide)
    (hs : starEach [e] X.env = (false, eval e X.env) :: starEach [] X.env := by rfl) : PE X (.Call (.Name x p) [e] [] pos) (lO X.K (eCBE cd τe)) :=
  pe_imp (pe_callB hc hg hm hv (pa_cons he pa_nil hs) hn hdb hs rfl) fun σ H QV h => cbe_read h
theorem vo_ctyE (hc : CallD X (.type T) cd) (hg : Gl X x) (hm : X.mg x = none) (hv : bootBuiltins x = some (.type T)) (he : PE X e (lE X.K τe)) (hn : x ≠ "__name__" := by decide) (hdb : (x == ("__debug__" : Str)) = false := by decide)
    (hs : starEach [e] X.env = (false, eval e X.env) :: starEach [] X.env := by rfl) : PE X (.Call (.Name x p) [e] [] pos) (lO X.K (eCBE cd τe)) :=
  pe_imp (pe_callTy hc hg hm hv (pa_cons he pa_nil hs) hn hdb hs rfl) fun σ H QV h => cbe_read h
/-! truth of an element -/
def tTruE (τe : EE) : ET := fun Γ Q => τe Γ fun i k Γ1 => ∃ o d c, elG Γ1 i k = some o ∧ elD o = some d ∧ truD d = some c ∧ Q c Γ1
theorem vt_truE (h : PE X e (lE X.K τe)) (he : ∀ whole, isTrue e X.env whole = (do let v ← whole; standAt e.pos; holding [v] (truthy v)) := by intro _; rfl) : PT X e (lT X.K (tTruE τe)) :=
  pt_imp (pt_truth h he) fun σ H QV ⟨pn, Z, F, Γ, hh, Q, A, q, kk⟩ => ⟨pn, Z, F, Γ, hh, _, A, q, fun F1 Γ1 h1 H1 i k v s1 A1 r1 ⟨o, d, c, e1, e2, e3, q1⟩ => ⟨c, tru_of A1.FH (rep_el A1 r1 e1 e2) e3, kk F1 Γ1 h1 H1 c s1 A1 q1⟩⟩
/-! an element frozen and read -/
def xEl (τe : EE) : EX := fun Γ Q => τe Γ fun i k Γ1 => ∃ ts o d Γ2, Γ1[i]? = some (some (.tr ts)) ∧ ts[k]? = some o ∧ o.frz = some d ∧ setG Γ1 i (some (.tr (ts.set k (.fz d)))) = some Γ2 ∧ Q (.d d) Γ2
theorem vx_el (h : PE X e (lE X.K τe)) : PE X e (lX X.K (xEl τe)) := pe_imp h fun σ H QV ⟨pn, Z, F, Γ, hh, Q, A, q, kk⟩ => ⟨pn, Z, F, Γ, hh, _, A, q, fun F1 Γ1 h1 H1 i k v s1 A1 r1 ⟨ts, o, d, Γ2, e1, e2, e3, e4, q1⟩ => by
  obtain ⟨F2, h2, a, vs, u, s2, b1, b2, b3, A2, rd⟩ := A1.frzE e1 e2 e3
  obtain ⟨a', vs', c1, c2, c3⟩ := r1
  rw [b1] at c1; cases c1
  rw [b2] at c2; cases c2
  rw [b3] at c3; cases c3
  rw [(setG_eq e4).1] at A2
  exact kk F2 Γ2 h2 H1 (.d d) _ (s1.trans s2) A2 rd q1⟩
/-! the slot shut while what stands behind is reckoned -/
def lockG (Γ : Ga) (i : Nat) (τ : Ga → (Ga → Prop) → Prop) (Q : Ga → Prop) : Prop := ∃ o Γ1, Γ[i]? = some (some o) ∧ setG Γ i none = some Γ1 ∧ τ Γ1 fun Γ2 => Γ2[i]? = some none ∧ ∃ Γ3, setG Γ2 i (some o) = some Γ3 ∧ Q Γ3
end
section
variable {K : PySem.W.Frag} {pn : List (Nat × V)} {Z F F' : Hp} {Γ Γ1 : Ga} {σ : St} {h hr H H' : Hp} {v : V} {o : O} {d : PyData} {ts : List O} {i k : Nat}
/-- a slot's part kept aside -/
theorem At.lock (A : At K pn Z F Γ σ h H) (e : Γ[i]? = some (some o)) (e2 : setG Γ i none = some Γ1) : ∃ v h1 hk, σ[i]? = some (some v) ∧ At K pn (jn Z hk) F Γ1 σ h1 H ∧ Own K F o v hk ∧ Dis Z hk := by
  obtain ⟨h2, hk, v, s1, w, A'⟩ := A.move e
  rw [(setG_eq e2).1] at A'
  exact ⟨v, h2, hk, s1, A'.keep, w, A'.rZ.symm⟩
theorem At.unlock {hk : Hp} (A : At K pn (jn Z hk) F' Γ σ h H) (d : Dis Z hk) (s : Same F F') (w : Own K F o v hk) (e : σ[i]? = some (some v)) (e2 : setG Γ i (some o) = some Γ1) : ∃ h', At K pn Z F' Γ1 σ h' H := by
  obtain ⟨q1, q2⟩ := setG_eq e2
  obtain ⟨h', A', _⟩ := (A.unkeep d).restore (w.mono s) q2 e
  rw [q1] at A'
  exact ⟨h', A'⟩
/-- what stands in a part kept aside -/
theorem kept_el {hk H1 : Hp} {a : Addr} {vs : List V} {u : V} (w : Own K F o v hk) (s : Same hk H) (s1 : Same hk H1) (e : v = .ref a) (e1 : H a = some (.lst vs)) (et : o = .tr ts) (hl : vs[k]? = some u) : H1 a = some (.lst vs) := by
  subst e; subst et
  obtain ⟨b, ws, h', e2, rfl, _, _⟩ := own_tr.mp w
  cases e2
  have : H a = some (.lst ws) := s _ _ (jn_l one_at)
  rw [e1] at this; cases this
  exact s1 _ _ (jn_l one_at)
end
section
variable {X : Cx} {e o idx : Expr} {es : List Expr} {τ τk τv : EX} {τe : EE} {τo : EO} {τs : EA} {p pos cpos apos : Pos} {id T : String} {cd : List PyData → (O → Prop) → Prop} {x : Str}
/-! slot[k][j] -/
def eIxE (op : PyData → PyData → (O → Prop) → Prop) (τe : EE) (τ : EX) : EO := fun Γ Q => τe Γ fun i k Γ1 => ∃ o1 ts Γ2, o1 = .tr ts ∧ Γ1[i]? = some (some o1) ∧ setG Γ1 i none = some Γ2 ∧ τ Γ2 fun a Γ3 => ∃ el d1 d2 Γ4, rslv Γ3 a = some d2 ∧ ts[k]? = some el ∧ elD el = some d1 ∧ setG Γ3 i (some o1) = some Γ4 ∧ op d1 d2 fun o => Q o Γ4
theorem vo_ixE {opd : PyData → PyData → (O → Prop) → Prop} (ho : Ix2 X opd) (he : PE X e (lE X.K τe)) (hb : PE X idx (lX X.K τ)) (hs : PlainIx idx := by intro _ _; rfl) : PE X (.Subscript e idx pos) (lO X.K (eIxE opd τe τ)) :=
  pe_imp (pe_ix ho he hb hs) fun σ H QV ⟨pn, Z, F, Γ, hh, Q, A, q, kk⟩ => ⟨pn, Z, F, Γ, hh, _, A, q, fun F1 Γ1 h1 H1 i k v s1 A1 r1 ⟨o1, ts, Γ2, et, e1, e2, q1⟩ => by
    subst et
    obtain ⟨u, g1, hk, su, A2, w, dz⟩ := A1.lock e1 e2
    obtain ⟨a, vs, r1, r2, r3⟩ := r1
    refine ⟨pn, _, F1, Γ2, g1, _, A2, q1, fun F3 Γ3 h3 H3 av y s3 A3 r4 ⟨el, d1, d2, Γ4, e3, e4, e5, e6, q2⟩ => ?_⟩
    have ry := rep_of A3 r4 e3
    rw [r1] at su; cases su
    have e8 : H3 a = some (.lst vs) := kept_el w (fun x o z => A2.ZH _ _ (same_r dz _ _ z)) (fun x o z => A3.ZH _ _ (same_r dz _ _ z)) rfl r2 rfl r3
    obtain ⟨h5, A5⟩ := A3.unlock dz s3 w r1 e6
    have eG : elG Γ4 i k = some el := by
      unfold elG
      obtain ⟨x1, x2⟩ := setG_eq e6
      rw [← x1, List.getElem?_set_self x2]
      exact e4
    exact ⟨F3, d1, d2, _, A5.FH, rep_el A5 ⟨a, vs, r1, e8, r3⟩ eG e5, ry, q2, A5.post (s1.trans s3) kk⟩⟩
/-! methods of an element -/
def eSME (sm : SM) (τe : EE) (τs : EA) : EO := fun Γ Q => τe Γ fun i k Γ1 => ∃ o1 ts Γ2 ds, o1 = .tr ts ∧ Γ1[i]? = some (some o1) ∧ setG Γ1 i none = some Γ2 ∧ ts[k]? = some (.ls ds) ∧ τs Γ2 fun as Γ3 => ∃ ads Γ4, unD as = some ads ∧ setG Γ3 i (some o1) = some Γ4 ∧ sm ds ads fun ds' d => ∃ Γ5, setG Γ4 i (some (.tr (ts.set k (.ls ds')))) = some Γ5 ∧ Q (.fz d) Γ5
def eSME0 (sm : SM) (τe : EE) : EO := fun Γ Q => τe Γ fun i k Γ1 => ∃ ts ds, Γ1[i]? = some (some (.tr ts)) ∧ ts[k]? = some (.ls ds) ∧ sm ds [] fun ds' d => ∃ Γ5, setG Γ1 i (some (.tr (ts.set k (.ls ds')))) = some Γ5 ∧ Q (.fz d) Γ5
theorem vo_smE {name : Str} {sm : SM} (slot : Slot "list" name id) (hty : typeOf (.builtin id) = pure (.type "method_descriptor")) (hm : SlotM X id sm) (ho : PE X o (lE X.K τe)) (ha : PA X (e :: es) (lA X.K τs))
    (hbase : attributeBase o name X.env (eval o X.env) = eval o X.env := by rfl)
    (hfew : ((backTo cpos (starEach (e :: es) X.env)).all (fun x => !x.1) && (backToKw cpos (keywordEach [] X.env)).all (fun x => x.1.isSome)
      && decide ((e :: es).length + ([] : List Keyword).length + (if ([] : List Keyword).isEmpty then 0 else 1) < 30)) = true := by rfl)
    (hline : (apos.endLine == cpos.line) = true := by rfl) (hs : starEach (e :: es) X.env = (false, eval e X.env) :: starEach es X.env := by rfl) (hplain : (backTo cpos (starEach es X.env)).any (·.1) = false := by rfl) :
    PE X (.Call (.Attribute o name apos) (e :: es) [] cpos) (lO X.K (eSME sm τe τs)) :=
  pe_imp (pe_bm PySem.F.plainAttrs_list slot hty hm ho ha hbase hfew hline hs hplain) fun σ H QV ⟨pn, Z, F, Γ, hh, Q, A, q, kk⟩ => ⟨pn, Z, F, Γ, hh, _, A, q, fun F1 Γ1 h1 H1 i k v s1 A1 r1 ⟨o1, ts, Γ2, ds, et, e1, e2, e3, q1⟩ => by
    subst et
    obtain ⟨a, vs, r1, r2, r3⟩ := r1
    obtain ⟨a', vs', b, ws, b1, b2, b3, b4, _, _⟩ := A1.changeE e1 e3
    rw [r1] at b1; cases b1
    rw [r2] at b2; cases b2
    rw [r3] at b3; cases b3
    refine ⟨.inl ⟨rfl, ws, SqL.of b4⟩, ?_⟩
    obtain ⟨u, g1, hk, su, A2, w, dz⟩ := A1.lock e1 e2
    refine ⟨pn, _, F1, Γ2, g1, _, A2, q1, fun F3 Γ3 h3 H3 as xs s3 A3 r4 ⟨ads, Γ4, e4, e6, q2⟩ => ?_⟩
    rw [r1] at su; cases su
    have e8 : H3 a = some (.lst vs) := kept_el w (fun x o z => A2.ZH _ _ (same_r dz _ _ z)) (fun x o z => A3.ZH _ _ (same_r dz _ _ z)) rfl r2 rfl r3
    obtain ⟨h5, A5⟩ := A3.unlock dz s3 w r1 e6
    have eG : Γ4[i]? = some (some (.tr ts)) := by
      obtain ⟨x1, x2⟩ := setG_eq e6
      rw [← x1, List.getElem?_set_self x2]
    obtain ⟨a', vs', b', ws', c1, c2, c3, c4, c5, put⟩ := A5.changeE eG e3
    rw [r1] at c1; cases c1
    rw [e8] at c2; cases c2
    rw [r3] at c3; cases c3
    rw [unD_eq e4] at r4
    refine ⟨F3, b, ws', ds, ads, _, rfl, c4, A5.FH, c5, args_d r4, q2, fun vs2 ds2 v2 d2 rr rd ⟨Γ5, eΓ, q3⟩ => ?_⟩
    obtain ⟨h6, A6⟩ := put vs2 ds2 rr
    rw [(setG_eq eΓ).1] at A6
    exact kk F3 _ h6 emp _ (.fz d2) v2 (s1.trans s3) A6.alone ⟨rfl, rd⟩ q3⟩
theorem vo_smE0 {name : Str} {sm : SM} (slot : Slot "list" name id) (hty : typeOf (.builtin id) = pure (.type "method_descriptor")) (hm : SlotM X id sm) (ho : PE X o (lE X.K τe))
    (hbase : attributeBase o name X.env (eval o X.env) = eval o X.env := by rfl) (hline : (apos.endLine == cpos.line) = true := by rfl) :
    PE X (.Call (.Attribute o name apos) [] [] cpos) (lO X.K (eSME0 sm τe)) :=
  pe_imp (pe_bm0 PySem.F.plainAttrs_list slot hty hm ho hbase hline) fun σ H QV ⟨pn, Z, F, Γ, hh, Q, A, q, kk⟩ => ⟨pn, Z, F, Γ, hh, _, A, q, fun F1 Γ1 h1 H1 i k v s1 A1 r1 ⟨ts, ds, e1, e3, q2⟩ => by
    obtain ⟨a, vs, r1, r2, r3⟩ := r1
    obtain ⟨a', vs', b, ws, b1, b2, b3, b4, b5, put⟩ := A1.changeE e1 e3
    rw [r1] at b1; cases b1
    rw [r2] at b2; cases b2
    rw [r3] at b3; cases b3
    refine ⟨.inl ⟨rfl, ws, SqL.of b4⟩, ?_⟩
    refine ⟨F1, b, ws, ds, [], _, rfl, b4, A1.FH, b5, .nil, q2, fun vs2 ds2 v2 d2 rr rd ⟨Γ5, eΓ, q3⟩ => ?_⟩
    obtain ⟨h6, A6⟩ := put vs2 ds2 rr
    rw [(setG_eq eΓ).1] at A6
    exact kk F1 _ h6 emp _ (.fz d2) v2 s1 A6.alone ⟨rfl, rd⟩ q3⟩
/-! slot[k] = v -/
def sPut (i : Nat) (τk : EX) (τv : EO) : ES := fun D Γ => τv Γ fun o Γ1 => (∃ o1, Γ1[i]? = some (some o1) ∧ (∃ ts, o1 = .tr ts ∨ ∃ ds, o1 = .ls ds)) ∧ τk Γ1 fun a Γ2 => ∃ z k Γ3, rslv Γ2 a = some (.int z) ∧
  ((∃ ts, Γ2[i]? = some (some (.tr ts)) ∧ ixN ts.length z = some k ∧ setG Γ2 i (some (.tr (ts.set k o))) = some Γ3) ∨ (∃ ds d, Γ2[i]? = some (some (.ls ds)) ∧ o.frz = some d ∧ ixN ds.length z = some k ∧ setG Γ2 i (some (.ls (ds.set k d))) = some Γ3)) ∧ D.nx Γ3
theorem vs_put {io : Bool} {spos : Pos} (i : Nat) (ho : PE X o (tVar i)) (hk : PE X idx (lX X.K τk)) (hv : PE X e (lO X.K τo))
    (ha : ∀ (v : Value), assign (Expr.Subscript o idx pos) X.env v = (do let ov ← holding [v] (eval o X.env); let iv ← holding [v, ov] (eval idx X.env); standAt pos; holding [v, ov, iv] (setItem ov iv v); release [v, ov, iv] []) := by intro _; rfl)
    (hs : swapsWithSole [Expr.Subscript o idx pos] e spos.line X.env = pure false := by rfl) (hw : swappedStores [Expr.Subscript o idx pos] e X.env = pure none := by rfl)
    (h1 : (assignEach [Expr.Subscript o idx pos] X.env).map (·.2) = [assign (Expr.Subscript o idx pos) X.env] := by rfl) :
    PS X (.Assign [.Subscript o idx pos] e spos) (lS X.K io (sPut i τk τo)) :=
  ps_imp (ps_asg hv (pg_sub ho hk set_list ha) hs hw h1) fun D σ H ⟨v0, Z, F, Γ, h, DD, A, q, kk⟩ => ⟨_, Z, F, Γ, h, _, A, q, fun F1 Γ1 h1 hr1 H1 o1 v s1 A1 w1 ⟨⟨ox, e0, ts0, e0'⟩, q1⟩ => by
    have sl : ∃ a, σ[i]? = some (some (.ref a)) := by
      rcases e0' with rfl | ⟨ds, rfl⟩
      · obtain ⟨a, _, s, _⟩ := A1.at_.root e0
        exact ⟨a, s⟩
      · obtain ⟨a, _, s, _⟩ := A1.at_.changeL e0
        exact ⟨a, s⟩
    obtain ⟨a, sa⟩ := sl
    refine ⟨.ref a, sa, _, jn Z hr1, F1, Γ1, h1, _, A1.keep, q1, fun F2 Γ2 h2 H2 av y s2 A2 r2 ⟨z, k, Γ3, e1, e2, q2⟩ => ?_⟩
    have ry := (rep_of A2 r2 e1).int
    have B := A2.unkeep A1.rZ.symm
    rcases e2 with ⟨ts, e3, e4, e5⟩ | ⟨ds, d, e3, e6, e4, e5⟩
    · obtain ⟨b, vs, b1, b2, b3, h', A3⟩ := B.putT (w1.mono s2) e3 (ixN_lt e4)
      rw [sa] at b1; cases b1
      rw [(setG_eq e5).1] at A3
      exact ⟨a, vs, z, k, rfl, ry, b2, by rw [b3]; exact e4, kk.nx F2 Γ3 σ h' _ (s1.trans s2) A3 q2⟩
    · obtain ⟨F3, s3, A3, rd⟩ := B.frz (w1.mono s2) e6
      obtain ⟨b, vs, b1, b2, b3, put⟩ := A3.changeL e3
      rw [sa] at b1; cases b1
      obtain ⟨h', A4⟩ := put _ _ (RpAll.set rd k b3)
      rw [(setG_eq e5).1] at A4
      exact ⟨a, vs, z, k, rfl, ry, b2, by rw [b3.length]; exact e4, kk.nx F3 Γ3 σ h' _ ((s1.trans s2).trans s3) A4 q2⟩⟩
/-! slot[k][j] = v -/
def sPutE (τe : EE) (τj : EX) (τv : EX) : ES := fun D Γ => τv Γ fun av Γ1 => ∃ d, av = .d d ∧ τe Γ1 fun i k Γ2 => ∃ o1 ts ds Γ3, o1 = .tr ts ∧ Γ2[i]? = some (some o1) ∧ ts[k]? = some (.ls ds) ∧ setG Γ2 i none = some Γ3 ∧ τj Γ3 fun a Γ4 => ∃ z j Γ5, rslv Γ4 a = some (.int z) ∧ ixN ds.length z = some j ∧ setG Γ4 i (some o1) = some Γ5 ∧ ∃ Γ6, setG Γ5 i (some (.tr (ts.set k (.ls (ds.set j d))))) = some Γ6 ∧ D.nx Γ6
theorem vs_putE {io : Bool} {spos : Pos} (ho : PE X o (lE X.K τe)) (hk : PE X idx (lX X.K τk)) (hv : PE X e (lX X.K τv))
    (ha : ∀ (v : Value), assign (Expr.Subscript o idx pos) X.env v = (do let ov ← holding [v] (eval o X.env); let iv ← holding [v, ov] (eval idx X.env); standAt pos; holding [v, ov, iv] (setItem ov iv v); release [v, ov, iv] []) := by intro _; rfl)
    (hs : swapsWithSole [Expr.Subscript o idx pos] e spos.line X.env = pure false := by rfl) (hw : swappedStores [Expr.Subscript o idx pos] e X.env = pure none := by rfl)
    (h1 : (assignEach [Expr.Subscript o idx pos] X.env).map (·.2) = [assign (Expr.Subscript o idx pos) X.env] := by rfl) :
    PS X (.Assign [.Subscript o idx pos] e spos) (lS X.K io (sPutE τe τk τv)) :=
  ps_imp (ps_asg hv (pg_sub ho hk set_list ha) hs hw h1) fun D σ H ⟨v0, Z, F, Γ, h, DD, A, q, kk⟩ => ⟨_, Z, F, Γ, h, _, A, q, fun F1 Γ1 h1 H1 av v s1 A1 rv ⟨d, ed, q1⟩ => by
    subst ed
    refine ⟨_, Z, F1, Γ1, h1, _, A1, q1, fun F2 Γ2 h2 H2 i k u s2 A2 r1 ⟨o1, ts, ds, Γ3, et, e1, e3, e2, q2⟩ => ?_⟩
    subst et
    obtain ⟨a, vs, r1, r2, r3⟩ := r1
    obtain ⟨x, g1, hk, su, A3, w, dz⟩ := A2.lock e1 e2
    refine ⟨_, _, F2, Γ3, g1, _, A3, q2, fun F4 Γ4 h4 H4 aj y s4 A4 rj ⟨z, j, Γ5, ez, ej, e6, Γ6, e7, q3⟩ => ?_⟩
    have ry := (rep_of A4 rj ez).int
    rw [r1] at su; cases su
    have e8 : H4 a = some (.lst vs) := kept_el w (fun x o z => A3.ZH _ _ (same_r dz _ _ z)) (fun x o z => A4.ZH _ _ (same_r dz _ _ z)) rfl r2 rfl r3
    obtain ⟨h5, A5⟩ := A4.unlock dz s4 w r1 e6
    have eG : Γ5[i]? = some (some (.tr ts)) := by
      obtain ⟨x1, x2⟩ := setG_eq e6
      rw [← x1, List.getElem?_set_self x2]
    obtain ⟨a', vs', b', ws', c1, c2, c3, c4, c5, put⟩ := A5.changeE eG e3
    rw [r1] at c1; cases c1
    rw [e8] at c2; cases c2
    rw [r3] at c3; cases c3
    obtain ⟨h6, A6⟩ := put _ _ (RpAll.set (Rp.mono (s2.trans s4) rv) j c5)
    rw [(setG_eq e7).1] at A6
    exact ⟨b', ws', z, j, rfl, ry, c4, by rw [c5.length]; exact ej, kk.nx F4 Γ6 σ h6 _ ((s1.trans s2).trans s4) A6 q3⟩⟩
end
end VL
end
section
namespace VL
open PySem PySem.Spec L2

/-! ### lists of owned parts -/
abbrev EAO := Ga → (List O → Ga → Prop) → Prop
def lAO (K : PySem.W.Frag) (τ : EAO) : TA := fun σ H QV => ∃ pn Z F Γ h Q, At K pn Z F Γ σ h H ∧ τ Γ Q ∧ ∀ F' Γ' h' hr H' os vs, Same F F' → AtR K pn Z F' Γ' σ h' hr H' → OwnT K F' os vs hr → Q os Γ' → QV vs H'
def aoNil : EAO := fun Γ Q => Q [] Γ
def aoCons (τ : EO) (τs : EAO) : EAO := fun Γ Q => τ Γ fun o Γ1 => τs Γ1 fun os Γ2 => Q (o :: os) Γ2
def allFz : List O → Option (List PyData)
  | [] => some []
  | .fz d :: r => match allFz r with
    | some ds => some (d :: ds)
    | none => none
  | _ :: _ => none
theorem allFz_eq : ∀ {os : List O} {ds : List PyData}, allFz os = some ds → os = ds.map .fz
  | [], _, h => by cases h; rfl
  | .fz d :: r, ds, h => by
    unfold allFz at h
    split at h
    · rename_i xs e
      cases h
      rw [allFz_eq e]; rfl
    · cases h
  | .ls _ :: _, _, h => by simp [allFz] at h
  | .dk _ :: _, _, h => by simp [allFz] at h
  | .rs _ :: _, _, h => by simp [allFz] at h
  | .tr _ :: _, _, h => by simp [allFz] at h
  | .td _ _ :: _, _, h => by simp [allFz] at h
def mkL (os : List O) : O := match allFz os with
  | some ds => .ls ds
  | none => .tr os
def eTrL (τs : EAO) : EO := fun Γ Q => τs Γ fun os Γ1 => os.length ≤ sizeLine ∧ Q (mkL os) Γ1
section
variable {K : PySem.W.Frag} {pn : List (Nat × V)} {Z F F' : Hp} {Γ : Ga} {σ : St} {h hr hr' H H' : Hp} {v : V} {o : O} {os ts : List O} {vs : List V} {a : Addr}
theorem AtR.both {hr1 hr2 : Hp} (A : AtR K pn (jn Z hr1) F Γ σ h hr2 H) (d : Dis Z hr1) : AtR K pn Z F Γ σ h (jn hr1 hr2) H ∧ Dis hr1 hr2 := by
  have B := A.at_.unkeep d
  have dZ : Dis hr2 Z := (Dis.sub same_l A.rZ.symm).symm
  have d12 : Dis hr1 hr2 := Dis.sub (same_r d) A.rZ.symm
  exact ⟨⟨B.at_, same_jn B.rH A.rH, Dis.jn B.rh A.rh, Dis.jn B.rF A.rF, Dis.jn B.rZ dZ⟩, d12⟩
theorem own_mk (w : OwnT K F os vs hr) (ha : hr a = none) : Own K F (mkL os) (.ref a) (jn (one a (.lst vs)) hr) := by
  unfold mkL
  split
  · rename_i ds e
    rw [allFz_eq e] at w
    obtain ⟨r, rfl⟩ := ownT_fz.mp w
    rw [jn_emp]
    exact own_ls.mpr ⟨a, vs, rfl, rfl, r⟩
  · exact own_tr.mpr ⟨a, vs, hr, rfl, rfl, dis_one ha, w⟩
/-- a new list over a part beside -/
theorem AtR.newL (A : AtR K pn Z F Γ σ h hr H) (n : H a = none) : AtR K pn Z F Γ σ h (jn (one a (.lst vs)) hr) (upd H a (.lst vs)) ∧ hr a = none := by
  have hra := A.rH.free n
  refine ⟨⟨A.at_.grow (Grow.stay A.at_.FH (same_new n)), same_jn (same_one upd_same) (A.rH.trans (same_new n)), Dis.jn (dis_one (A.at_.hH.free n)) A.rh, Dis.jn (dis_one (A.at_.FH.free n)) A.rF, Dis.jn (dis_one (A.at_.ZH.free n)) A.rZ⟩, hra⟩
theorem own_ls_tr {ds : List PyData} : Own K F (.ls ds) v h ↔ Own K F (.tr (ds.map .fz)) v h := by
  constructor
  · intro w
    obtain ⟨a, vs, rfl, rfl, r⟩ := own_ls.mp w
    exact own_tr.mpr ⟨a, vs, emp, rfl, by rw [jn_emp], Dis.emp.symm, ownT_fz.mpr ⟨r, rfl⟩⟩
  · intro w
    obtain ⟨a, vs, h', rfl, rfl, _, q⟩ := own_tr.mp w
    obtain ⟨r, rfl⟩ := ownT_fz.mp q
    exact own_ls.mpr ⟨a, vs, rfl, by rw [jn_emp], r⟩
theorem At.asT {i : Nat} {ds : List PyData} (A : At K pn Z F Γ σ h H) (e : Γ[i]? = some (some (.ls ds))) : At K pn Z F (Γ.set i (some (.tr (ds.map .fz)))) σ h H := by
  obtain ⟨v, h1, h2, a1, rfl, a3, a4, a5⟩ := A.own.focus e
  have q := a5 F _ v h1 (Same.refl _) (own_ls_tr.mp a4) a3
  rw [set_self a1] at q
  exact ⟨q, A.hH, A.FH, A.ZH, A.FZ, A.hF, A.hZ, A.pin⟩
end
section
variable {X : Cx} {e : Expr} {es : List Expr} {τo : EO} {τs : EAO} {pos : Pos}
theorem vao_nil : PA X [] (lAO X.K aoNil) := pa_imp pa_nil fun σ H QV ⟨pn, Z, F, Γ, hh, Q, A, q, k⟩ => k F Γ hh emp H [] [] (Same.refl _) A.alone (ownT_nil.mpr ⟨rfl, rfl⟩) q
theorem vao_cons (ha : PE X e (lO X.K τo)) (hr : PA X es (lAO X.K τs)) (hs : starEach (e :: es) X.env = (false, eval e X.env) :: starEach es X.env := by rfl) : PA X (e :: es) (lAO X.K (aoCons τo τs)) :=
  pa_imp (pa_cons ha hr hs) fun σ H QV ⟨pn, Z, F, Γ, hh, Q, A, q, k⟩ => ⟨pn, Z, F, Γ, hh, _, A, q, fun F1 Γ1 h1 hr1 H1 o v s1 A1 w1 q1 => ⟨pn, jn Z hr1, F1, Γ1, h1, _, A1.keep, q1, fun F2 Γ2 h2 hr2 H2 os vs s2 A2 w2 q2 => by
    obtain ⟨B, d⟩ := A2.both A1.rZ.symm
    exact k F2 Γ2 h2 _ H2 (o :: os) (v :: vs) (s1.trans s2) B (ownT_cons.mpr ⟨v, vs, hr1, hr2, rfl, rfl, d, w1.mono s2, w2⟩) q2⟩⟩
theorem vo_trL (h : PA X es (lAO X.K τs)) : PE X (.List es pos) (lO X.K (eTrL τs)) :=
  pe_imp (pe_lst h) fun σ H QV ⟨pn, Z, F, Γ, hh, Q, A, q, k⟩ => ⟨pn, Z, F, Γ, hh, _, A, q, fun F1 Γ1 h1 hr1 H1 os vs s1 A1 w1 ⟨z, q1⟩ =>
    ⟨by rw [w1.len]; exact z, fun p n => by
      obtain ⟨B, ha⟩ := A1.newL (vs := vs) n
      exact k F1 Γ1 h1 _ _ (mkL os) _ s1 B (own_mk w1 ha) q1⟩⟩
end

/-! ### methods of a slot's list: its parts may be owned -/
section
variable {X : Cx} {o e : Expr} {τo : EO} {τs : EA} {apos cpos pos p : Pos}
def listG (Γ : Ga) (i : Nat) : Prop := (∃ ds, Γ[i]? = some (some (.ls ds))) ∨ ∃ ts, Γ[i]? = some (some (.tr ts))
theorem listG_at {K : PySem.W.Frag} {pn : List (Nat × V)} {Z F : Hp} {Γ : Ga} {σ : St} {h H : Hp} {i : Nat} (A : At K pn Z F Γ σ h H) (l : listG Γ i) : ∃ a vs, σ[i]? = some (some (.ref a)) ∧ H a = some (.lst vs) := by
  rcases l with ⟨ds, e⟩ | ⟨ts, e⟩
  · obtain ⟨a, vs, e1, e2, _, _⟩ := A.changeL e
    exact ⟨a, vs, e1, e2⟩
  · obtain ⟨a, vs, e1, e2, _⟩ := A.root e
    exact ⟨a, vs, e1, e2⟩
/-- xs.append(e): t tells whether xs is to be a tree -/
def appO (t : Bool) (i : Nat) (o : O) (Γ1 : Ga) (Q : O → Ga → Prop) : Prop := match Γ1[i]? with
  | some (some (.ls ds)) => ds.length < sizeLine ∧ (if t = true then ∃ Γ2, setG Γ1 i (some (.tr (ds.map .fz ++ [o]))) = some Γ2 ∧ Q (.fz .none) Γ2 else ∃ d, o.frz = some d ∧ ∃ Γ2, setG Γ1 i (some (.ls (ds ++ [d]))) = some Γ2 ∧ Q (.fz .none) Γ2)
  | some (some (.tr ts)) => ts.length < sizeLine ∧ ∃ Γ2, setG Γ1 i (some (.tr (ts ++ [o]))) = some Γ2 ∧ Q (.fz .none) Γ2
  | _ => False
def eApp (t : Bool) (i : Nat) (τo : EO) : EO := fun Γ Q => listG Γ i ∧ τo Γ fun o Γ1 => appO t i o Γ1 Q
theorem vo_app (t : Bool) (i : Nat) (ho : PE X o (tVar i)) (ha : PE X e (lO X.K τo))
    (hbase : attributeBase o "append" X.env (eval o X.env) = eval o X.env := by rfl)
    (hfew : ((backTo cpos (starEach [e] X.env)).all (fun x => !x.1) && (backToKw cpos (keywordEach [] X.env)).all (fun x => x.1.isSome)
      && decide ([e].length + ([] : List Keyword).length + (if ([] : List Keyword).isEmpty then 0 else 1) < 30)) = true := by rfl)
    (hline : (apos.endLine == cpos.line) = true := by rfl) (hs : starEach [e] X.env = (false, eval e X.env) :: starEach [] X.env := by rfl) :
    PE X (.Call (.Attribute o "append" apos) [e] [] cpos) (lO X.K (eApp t i τo)) :=
  pe_imp (pe_bm PySem.F.plainAttrs_list PySem.F.slot_list_append PySem.F.type_list_append mt_append ho (pa_cons ha pa_nil hs) hbase hfew hline hs) fun σ H QV ⟨pn, Z, F, Γ, hh, Q, A, ⟨l, q⟩, k⟩ => by
    obtain ⟨a, vs, e1, e2⟩ := listG_at A l
    refine ⟨.ref a, e1, .inl ⟨rfl, vs, SqL.of e2⟩, pn, Z, F, Γ, hh, _, A, q, fun F1 Γ1 h1 hr H1 o v s1 A1 w q1 => ?_⟩
    unfold appO at q1
    split at q1
    · rename_i ds eG
      obtain ⟨hl, q1⟩ := q1
      cases t with
      | true =>
        rw [if_pos rfl] at q1
        obtain ⟨Γ2, eΓ, q2⟩ := q1
        have A2 : AtR X.K pn Z F1 (Γ1.set i (some (.tr (ds.map .fz)))) σ h1 hr H1 := ⟨A1.at_.asT eG, A1.rH, A1.rh, A1.rF, A1.rZ⟩
        obtain ⟨z1, z2⟩ := setG_eq eΓ
        obtain ⟨b, ws, b1, b2, b3, h', A3⟩ := A2.pushT w (List.getElem?_set_self z2)
        rw [e1] at b1; cases b1
        rw [List.set_set, z1] at A3
        exact ⟨a, ws, v, rfl, rfl, b2, by rw [b3, List.length_map]; exact hl, k F1 Γ2 h' emp _ (.fz .none) .non s1 A3.alone ⟨rfl, .non⟩ q2⟩
      | false =>
        rw [if_neg Bool.false_ne_true] at q1
        obtain ⟨d, ed, Γ2, eΓ, q2⟩ := q1
        obtain ⟨F2, s2, A2, rd⟩ := A1.frz w ed
        obtain ⟨b, ws, b1, b2, b3, put⟩ := A2.changeL eG
        rw [e1] at b1; cases b1
        obtain ⟨h', A3⟩ := put _ _ (b3.append (.one rd))
        rw [(setG_eq eΓ).1] at A3
        exact ⟨a, ws, v, rfl, rfl, b2, by rw [b3.length]; exact hl, k F2 Γ2 h' emp _ (.fz .none) .non (s1.trans s2) A3.alone ⟨rfl, .non⟩ q2⟩
    · rename_i ts eG
      obtain ⟨hl, Γ2, eΓ, q2⟩ := q1
      obtain ⟨b, ws, b1, b2, b3, h', A3⟩ := A1.pushT w eG
      rw [e1] at b1; cases b1
      rw [(setG_eq eΓ).1] at A3
      exact ⟨a, ws, v, rfl, rfl, b2, by rw [b3]; exact hl, k F1 Γ2 h' emp _ (.fz .none) .non s1 A3.alone ⟨rfl, .non⟩ q2⟩
    · exact q1.elim
theorem erase_last {α : Type} (l : List α) : l.eraseIdx (l.length - 1) = l.dropLast := by
  rw [List.dropLast_eq_take]
  rcases List.eq_nil_or_concat l with rfl | ⟨l', x, rfl⟩
  · rfl
  · rw [List.eraseIdx_eq_take_drop_succ]
    simp
/-- xs.pop() -/
def ePop (i : Nat) : EO := fun Γ Q => match Γ[i]? with
  | some (some (.ls ds)) => ∃ x Γ2, ds[ds.length - 1]? = some x ∧ setG Γ i (some (.ls ds.dropLast)) = some Γ2 ∧ Q (.fz x) Γ2
  | some (some (.tr ts)) => ∃ x Γ2, ts[ts.length - 1]? = some x ∧ setG Γ i (some (.tr ts.dropLast)) = some Γ2 ∧ Q x Γ2
  | _ => False
theorem vo_pop (i : Nat) (ho : PE X o (tVar i)) (hbase : attributeBase o "pop" X.env (eval o X.env) = eval o X.env := by rfl) (hline : (apos.endLine == cpos.line) = true := by rfl) : PE X (.Call (.Attribute o "pop" apos) [] [] cpos) (lO X.K (ePop i)) :=
  pe_imp (pe_bm0 PySem.F.plainAttrs_list PySem.F.slot_list_pop PySem.F.type_list_pop mt_pop ho hbase hline) fun σ H QV ⟨pn, Z, F, Γ, hh, Q, A, q, k⟩ => by
    unfold ePop at q
    split at q
    · rename_i ds eG
      obtain ⟨x, Γ2, ex, eΓ, q⟩ := q
      obtain ⟨a, vs, b1, b2, b3, put⟩ := A.changeL eG
      obtain ⟨w, hw, rw'⟩ := b3.getd ex
      obtain ⟨h', A3⟩ := put _ _ b3.dropLast
      rw [(setG_eq eΓ).1] at A3
      exact ⟨.ref a, b1, .inl ⟨rfl, vs, SqL.of b2⟩, a, vs, w, rfl, rfl, b2, by rw [b3.length]; exact hw, k F Γ2 h' emp _ (.fz x) w (Same.refl _) A3.alone ⟨rfl, rw'⟩ q⟩
    · rename_i ts eG
      obtain ⟨x, Γ2, ex, eΓ, q⟩ := q
      obtain ⟨a, vs, v, b1, b2, b3, b4, h', hr, A3, w⟩ := A.takeT eG ex
      have e3 : ts.eraseIdx (ts.length - 1) = ts.dropLast := erase_last ts
      have e4 : vs.eraseIdx (ts.length - 1) = vs.dropLast := by rw [← b3]; exact erase_last vs
      rw [e3, e4, (setG_eq eΓ).1] at A3
      exact ⟨.ref a, b1, .inl ⟨rfl, vs, SqL.of b2⟩, a, vs, v, rfl, rfl, b2, by rw [b3]; exact b4, k F Γ2 h' hr _ x v (Same.refl _) A3 w q⟩
    · exact q.elim
/-- len(xs) -/
def eLenS (i : Nat) : EO := fun Γ Q => match Γ[i]? with
  | some (some (.tr ts)) => Q (.fz (.int (ts.length : Nat))) Γ
  | _ => ∃ d, rslv Γ (.s i) = some d ∧ cdLen [d] fun o => Q o Γ
theorem vo_lenS (i : Nat) (hg : Gl X "len") (hm : X.mg "len" = none) (ho : PE X o (tVar i)) (hs : starEach [o] X.env = (false, eval o X.env) :: starEach [] X.env := by rfl) : PE X (.Call (.Name "len" p) [o] [] pos) (lO X.K (eLenS i)) := by
  refine pe_imp (pe_callB (id := "len") (r := fun vs H Q => (∃ a vs', vs = [.ref a] ∧ H a = some (.lst vs') ∧ Q (.int (vs'.length : Nat)) H) ∨ ∃ F ds Q', Same F H ∧ RepL X.K F H ds vs ∧ cdLen ds Q' ∧ OpPost X.K F H Q' Q) ?_ hg hm (by decide +kernel) (pa_cons ho pa_nil hs) (by decide) (by decide) hs rfl) ?_
  · intro pins s σ H xs us Q I rx h
    rcases h with ⟨a, vs', rfl, ha, q⟩ | h
    · exact call_len_seq pins s σ H _ us Q I rx ⟨a, vs', rfl, .inl (SqL.of ha), q⟩
    · exact cd_len pins s σ H xs us Q I rx h
  · intro σ H QV ⟨pn, Z, F, Γ, hh, Q, A, q, k⟩
    unfold eLenS at q
    split at q
    · rename_i ts eG
      obtain ⟨a, vs, e1, e2, e3⟩ := A.root eG
      exact ⟨.ref a, e1, .inl ⟨a, vs, rfl, e2, by rw [e3]; exact k F Γ hh emp H (.fz (.int (ts.length : Nat))) _ (Same.refl _) A.alone ⟨rfl, .int _⟩ q⟩⟩
    · obtain ⟨d, ed, q⟩ := q
      have : ∃ v, σ[i]? = some (some v) := by
        cases e2 : Γ[i]? with
        | none => simp [rslv, e2] at ed
        | some y =>
          cases y with
          | none => simp [rslv, e2] at ed
          | some o =>
            obtain ⟨v, h1, s1, _⟩ := A.slot e2
            exact ⟨v, s1⟩
      obtain ⟨v, sv⟩ := this
      exact ⟨v, sv, .inr ⟨F, [d], _, A.FH, .cons (rep_of A (a := .s i) sv ed) .nil, q, A.post (Same.refl _) k⟩⟩
end

/-! ### a comprehension whose items are owned -/
def eLcO (τi : EI) (g : EG) (tt : ET) (te : EO) (vs : List Nat) : EO := fun Γ Q => τi Γ fun ds Γ1 => Plain Γ1 vs ∧ ∃ I : Nat → List O → Ga → Prop, I 0 [] Γ1 ∧
  (∀ i d acc Γ', ds[i]? = some d → I i acc Γ' → (∀ j ∈ vs, Γ'[j]? = Γ1[j]?) → ∃ Γw, nrm (wipeG Γ' vs) = some Γw ∧ g d Γw fun Γ2 => tt Γ2 fun b Γ3 => Br b (te Γ3 fun o Γ4 => acc.length < sizeLine ∧ ∃ Γb, nrm (backG Γ1 Γ4 vs) = some Γb ∧ I (i + 1) (acc ++ [o]) Γb) (∃ Γb, nrm (backG Γ1 Γ3 vs) = some Γb ∧ I (i + 1) acc Γb)) ∧
  ∀ acc Γ', I ds.length acc Γ' → Q (.tr acc) Γ'
theorem lcO_read {K : PySem.W.Frag} {τi : EI} {g : EG} {tt : ET} {te : EO} {ws vs : List Nat} (hw : ∀ i ∈ ws, i ∈ vs) {σ : St} {H : Hp} {QV : VK} (hh : lO K (eLcO τi g tt te vs) σ H QV) : tLc (lI K τi) (lG K false ws g) (lT K tt) (lO K te) vs σ H QV := by
  obtain ⟨pn, Z, F, Γ, h, Q, A, q, k⟩ := hh
  refine ⟨pn, Z, F, Γ, h, _, A, q, fun F1 Γ1 h1 H1 J ds s1 A1 ok ⟨pl, I, i0, turn, fin⟩ D hD => ?_⟩
  have l1 := A1.own.len
  refine ⟨fun i m H' => m = ds.length - i ∧ i ≤ ds.length ∧ ∃ F' Γ' h' acc xs hT, Same F1 F' ∧ AtR K pn Z F' Γ' σ h' (jn (VL.one D (.lst xs)) hT) H' ∧ hT D = none ∧ OwnT K F' acc xs hT ∧ (∀ j ∈ vs, Γ'[j]? = Γ1[j]?) ∧ I i acc Γ',
    ⟨ds.length, by simp, Nat.zero_le _, F1, Γ1, h1, [], [], emp, Same.refl _, (A1.alone.newL hD).1, rfl, ownT_nil.mpr ⟨rfl, rfl⟩, fun _ _ => rfl, i0⟩, ?_⟩
  rintro i m H2 ⟨rfl, hi, F2, Γ2, h2, acc, xs, hT, s2, A2, tD, ra, sl, w2⟩
  by_cases hlt : i < ds.length
  · refine .inr ⟨ok.go F2 H2 i s2 A2.at_.FH hlt, fun H' => ∃ F' Γ' h' acc xs hT, Same F1 F' ∧ AtR K pn Z F' Γ' σ h' (jn (VL.one D (.lst xs)) hT) H' ∧ hT D = none ∧ OwnT K F' acc xs hT ∧ (∀ j ∈ vs, Γ'[j]? = Γ1[j]?) ∧ I (i + 1) acc Γ',
      fun H' ⟨F', Γ', h', acc', xs', hT', s', A', tD', r', sl', w'⟩ => ⟨ds.length - (i + 1), by omega, rfl, hlt, F', Γ', h', acc', xs', hT', s', A', tD', r', sl', w'⟩, fun x H' y => ?_⟩
    obtain ⟨F3, d, g3, e3, r3⟩ := ok.yld F2 H2 i x H' s2 A2.at_.FH hlt y
    have B : At K pn (jn Z (jn (VL.one D (.lst xs)) hT)) F3 Γ2 σ h2 H' := (AtR.keep A2).grow g3
    obtain ⟨h2', sw, ow⟩ := B.own.wipe vs
    have C : At K (pns false .non) (jn Z (jn (VL.one D (.lst xs)) hT)) F3 (wipeG Γ2 vs) (wipe σ vs) h2' H' := ⟨ow, sw.trans B.hH, B.FH, B.ZH, B.FZ, Dis.sub sw B.hF, Dis.sub sw B.hZ, fun p hp => nomatch hp⟩
    have dZ : Dis Z (jn (VL.one D (.lst xs)) hT) := A2.rZ.symm
    obtain ⟨Γw, eΓw, tq⟩ := turn i d acc Γ2 e3 w2 sl
    rw [nrm_eq eΓw] at C
    refine ⟨.non, _, F3, _, h2', d, _, C, r3, tq, fun F4 Γ4 σ4 h4 H4 s4 o4 A4 q4 => ⟨by rw [o4 vs hw]; exact lc_read.wipe_wipe σ vs, ?_⟩⟩
    have wσ : wipe σ4 vs = wipe σ vs := by rw [o4 vs hw]; exact lc_read.wipe_wipe σ vs
    have back : ∀ Z0 F5 Γ5 h5 H5, Same F4 F5 → At K (pns false .non) Z0 F5 Γ5 σ4 h5 H5 → ∃ h6, Same h6 h5 ∧ At K pn Z0 F5 (backG Γ1 Γ5 vs) σ h6 H5 ∧ ∀ j ∈ vs, (backG Γ1 Γ5 vs)[j]? = Γ1[j]? := fun Z0 F5 Γ5 h5 H5 s5 A5 => by
      have sF : Same F2 F5 := (g3.fs.trans s4).trans s5
      have lσ : σ.length = σ4.length := (len_wipe wσ).symm
      have l5 : Γ1.length = Γ5.length := by rw [A5.own.len, ← lσ, ← l1]
      obtain ⟨h6, σ6, s6, w6, n6, in6, out6⟩ := A5.own.back (Γ0 := Γ1) (σ0 := σ) vs (fun j hj => by
        rcases pl j hj with e | ⟨d, e⟩
        · exact .inl e
        · obtain ⟨u, e2, r⟩ := A2.at_.own.get (show Γ2[j]? = some (some (.fz d)) by rw [sl j hj]; exact e)
          exact .inr ⟨d, u, e, e2, Rp.mono sF r⟩) lσ l5
      have eσ : σ6 = σ := by
        apply List.ext_getElem?
        intro j
        by_cases hj : j ∈ vs
        · exact in6 j hj
        · rw [out6 j hj, out_wipe wσ hj]
      subst eσ
      refine ⟨h6, s6, ⟨w6, s6.trans A5.hH, A5.FH, A5.ZH, A5.FZ, Dis.sub s6 A5.hF, Dis.sub s6 A5.hZ, A2.at_.pin⟩, fun j hj => backG_get l5 hj⟩
    refine ⟨_, _, F4, Γ4, h4, _, A4, q4, fun F5 Γ5 h5 H5 b s5 A5 q5 => ?_⟩
    have q5 := of_br q5
    have s25 : Same F2 F5 := (g3.fs.trans s4).trans s5
    cases b with
    | false =>
      obtain ⟨h6, _, A6, sl6⟩ := back _ F5 Γ5 h5 H5 s5 A5
      obtain ⟨Γb, eb, q5⟩ := q5
      rw [nrm_eq eb] at A6 sl6
      exact ⟨F5, _, h6, acc, xs, hT, s2.trans s25, A6.unkeep dZ, tD, ra.mono s25, sl6, q5⟩
    | true =>
      refine iteT ⟨_, _, F5, Γ5, h5, _, A5, q5, fun F6 Γ6 h6 hr6 H6 o v s6 A6 w6 ⟨z6, Γb, eb, q6⟩ => ?_⟩
      obtain ⟨h7, s7, A7, sl7⟩ := back _ F6 Γ6 h6 H6 (s5.trans s6) A6.at_
      rw [nrm_eq eb] at A7 sl7
      have R7 : AtR K pn (jn Z (jn (VL.one D (.lst xs)) hT)) F6 Γb σ h7 hr6 H6 := ⟨A7, A6.rH, (Dis.sub s7 A6.rh.symm).symm, A6.rF, A6.rZ⟩
      obtain ⟨R8, d8⟩ := R7.both dZ
      have s26 := s25.trans s6
      have ra6 : OwnT K F6 acc xs hT := ra.mono s26
      have dT : Dis hT hr6 := Dis.sub (same_r (dis_one tD)) d8
      have dD : hr6 D = none := of_dis_one (Dis.sub same_l d8)
      have hD6 : H6 D = some (.lst xs) := R8.rH _ _ (same_l _ _ (same_l _ _ one_at))
      refine ⟨xs, hD6, by rw [ra.len]; exact z6, F6, _, h7, acc ++ [o], xs ++ [v], jn hT hr6, s2.trans s26, ?_, by rw [jn_r tD]; exact dD, ra6.app w6 dT, sl7, q6⟩
      have s1' : Same (VL.one D (.lst xs)) (jn (jn (VL.one D (.lst xs)) hT) hr6) := fun x u z => same_l _ _ (same_l _ _ z)
      have sT' : Same hT (jn (jn (VL.one D (.lst xs)) hT) hr6) := fun x u z => same_l _ _ (same_r (dis_one tD) _ _ z)
      have s6' : Same hr6 (jn (jn (VL.one D (.lst xs)) hT) hr6) := same_r d8
      have nF : F6 D = none := of_dis_one (Dis.sub s1' R8.rF)
      have nZ : Z D = none := of_dis_one (Dis.sub s1' R8.rZ)
      have nh : h7 D = none := of_dis_one (Dis.sub s1' R8.rh)
      exact ⟨⟨R8.at_.own, keepU nh R8.at_.hH, keepU nF R8.at_.FH, keepU nZ R8.at_.ZH, R8.at_.FZ, R8.at_.hF, R8.at_.hZ, R8.at_.pin⟩, same_jn (same_one upd_same) (same_jn (keepU tD (sT'.trans R8.rH)) (keepU dD (s6'.trans R8.rH))), Dis.jn (dis_one nh) (Dis.jn (Dis.sub sT' R8.rh) (Dis.sub s6' R8.rh)), Dis.jn (dis_one nF) (Dis.jn (Dis.sub sT' R8.rF) (Dis.sub s6' R8.rF)), Dis.jn (dis_one nZ) (Dis.jn (Dis.sub sT' R8.rZ) (Dis.sub s6' R8.rZ))⟩
  · have e : i = ds.length := by omega
    subst e
    refine .inl ⟨ok.stop F2 H2 _ s2 A2.at_.FH (Nat.le_refl _), ?_⟩
    exact k F2 Γ2 h2 _ H2 (.tr acc) (.ref D) (s1.trans s2) A2 (own_tr.mpr ⟨D, xs, hT, rfl, rfl, dis_one tD, ra⟩) (fin acc Γ2 w2)
section
variable {X : Cx} {elt tg iter : Expr} {ifs : List Expr} {scope : Scope} {own : List (Str × Nat)} {pos : Pos} {ws : List Nat} {τi : EI} {g : EG} {tt : ET} {te : EO}
theorem vo_lcO (hc : X.calm = true) (hN : X.N.Nodup) (hi : PI X tg iter (lI X.K τi)) (ok : BlkOk X.N X.env.scope scope own)
    (hg : ∀ (s : Shared) (H : Hp) (C : Addr) (cl : List (Str × Addr)) (fp : List Addr), PG (X.blk s H scope (compEnvC scope cl C X.env) fp) tg (lG X.K false ws g)) (hw : ∀ i ∈ ws, i ∈ own.map (·.2))
    (ht : ∀ (s : Shared) (H : Hp) (C : Addr) (cl : List (Str × Addr)) (fp : List Addr), PTs (X.blk s H scope (compEnvC scope cl C X.env) fp) ifs (lT X.K tt))
    (he : ∀ (s : Shared) (H : Hp) (C : Addr) (cl : List (Str × Addr)) (fp : List Addr), PE (X.blk s H scope (compEnvC scope cl C X.env) fp) elt (lO X.K te)) (hs : ∀ x, foldedSetIterable iter X.env x = pure x := by intro _; rfl) :
    PE X (.ListComp elt [⟨tg, iter, ifs, 0⟩] scope pos) (lO X.K (eLcO τi g tt te (own.map (·.2)))) :=
  pe_imp (pe_lc hc hN hi ok hg ht he hs) fun σ H QV h => lcO_read hw h
theorem vs_setLcO {io : Bool} {i : Nat} {y : Str} {py spos : Pos} (hc : X.calm = true) (hN : X.N.Nodup) (hy : X.N[i]? = some y) (hyl : X.env.scope.names.lookup y = some .local) (h0 : io = true → i ≠ 0)
    (hsw : swapsWith (.ListComp elt [⟨tg, iter, ifs, 0⟩] scope pos) (some (.Name y py)) spos.line X.env = pure true) (hi : PI X tg iter (lI X.K τi)) (ok : BlkOk X.N X.env.scope scope own)
    (hg : ∀ (s : Shared) (H : Hp) (C : Addr) (cl : List (Str × Addr)) (fp : List Addr), PG (X.blk s H scope (compEnvC scope cl C X.env) fp) tg (lG X.K false ws g)) (hw : ∀ i ∈ ws, i ∈ own.map (·.2))
    (ht : ∀ (s : Shared) (H : Hp) (C : Addr) (cl : List (Str × Addr)) (fp : List Addr), PTs (X.blk s H scope (compEnvC scope cl C X.env) fp) ifs (lT X.K tt))
    (he : ∀ (s : Shared) (H : Hp) (C : Addr) (cl : List (Str × Addr)) (fp : List Addr), PE (X.blk s H scope (compEnvC scope cl C X.env) fp) elt (lO X.K te)) (hs : ∀ x, foldedSetIterable iter X.env x = pure x := by intro _; rfl) :
    PS X (.Assign [.Name y py] (.ListComp elt [⟨tg, iter, ifs, 0⟩] scope pos) spos) (lS X.K io (sSet i (eLcO τi g tt te (own.map (·.2))))) :=
  ps_imp (ps_setLc hc hN hy hyl hsw hi ok hg ht he hs) fun D σ H ⟨v0, Z, F, Γ, h, DD, A, q, k⟩ => lcO_read (K := X.K) hw (QV := fun x H1 => gName i x σ H1 D.nx) ⟨_, Z, F, Γ, h, _, A, q, fun F' Γ' h' hr H' o v s A' w ⟨Γ2, eΓ, q'⟩ => by
    obtain ⟨e1, hl⟩ := setG_eq eΓ
    obtain ⟨h2, A2⟩ := A'.store w hl (pns_ne h0)
    rw [e1] at A2
    exact k.nx F' _ _ h2 H' s A2 q'⟩
end
end VL
end
section
namespace VL
open PySem PySem.Spec L2

/-! ### sorted -/
def SortOk (ds : List PyData) : Prop := PySem.W.AllAlike ds ∧ PySem.W.Sortable ds ∧ ds.length ≤ sizeLine ∧ ∀ d ∈ ds, d.canLay0 = true ∧ d.depth ≤ 60
def cdSorted : List PyData → (O → Prop) → Prop
  | [.list ds], Q => SortOk ds ∧ Q (.ls (ds.mergeSort (PySem.W.dataLe false id)))
  | _, _ => False
theorem each_rp {K : PySem.W.Frag} {F : Hp} : ∀ {vs : List V} {us : List Value} {ds : List PyData}, Vals vs us → RpAll K F vs ds → PySem.W.EachIs (fun u d => ∃ x, RelV x u ∧ Rp K F x d) us ds
  | _, _, _, .nil, .nil => .nil
  | _, _, _, .cons h t, .cons r q => .cons ⟨_, h, r⟩ (each_rp t q)
theorem rp_each {K : PySem.W.Frag} {F : Hp} : ∀ {us : List Value} {ds : List PyData}, PySem.W.EachIs (fun u d => ∃ x, RelV x u ∧ Rp K F x d) us ds → ∃ vs, Vals vs us ∧ RpAll K F vs ds
  | _, _, .nil => ⟨[], .nil, .nil⟩
  | _, _, .cons ⟨x, h, r⟩ t => by
    obtain ⟨vs, a, b⟩ := rp_each t
    exact ⟨x :: vs, .cons h a, .cons r b⟩
theorem each_reads {X : Cx} {pins : List (Addr × Obj)} {σ : St} {H F : Hp} {s : Shared} (I : Inv X pins σ H s) (sF : Same F H) : ∀ {vs : List V} {us : List Value} {ds : List PyData}, Vals vs us → RpAll X.K F vs ds → (∀ d ∈ ds, d.canLay0 = true) → PySem.W.EachIs (fun u d => ∃ as, Reads s.heap u (id d) as) us ds
  | _, _, _, .nil, .nil, _ => .nil
  | _, _, _, .cons h t, .cons r q, c => .cons (Dp.reads I _ _ _ (Rp.dp _ (Rp.mono sF r) (c _ (by simp))) h) (each_reads I sF t q fun d hd => c d (by simp [hd]))
section
variable {X : Cx}
theorem cd_sorted (hu : X.A.units + 64 < cLine) : CallD X (.builtin "sorted") cdSorted := by
  intro pins s σ H xs us QV I rx ⟨F, ds, Q, sF, rl, h, post⟩
  unfold cdSorted at h
  split at h
  · rename_i ds
    obtain ⟨v, rfl, r⟩ := rl.one'
    obtain ⟨a, vs, rfl, ha, ra⟩ := r.list sF
    obtain ⟨⟨k1, k2, k3, k4⟩, q⟩ := h
    obtain ⟨its, rv, hl, hz⟩ := I.list (SqL.of ha)
    rw [Vals.ref1 rx]
    refine PySem.W.sorted_data (enc := id) (R := fun u d => ∃ x, RelV x u ∧ Rp X.K F x d) (bs := ds) hl.isList (each_rp rv ra) (each_reads I sF rv ra fun d hd => (k4 d hd).1) (by rw [List.map_id]; exact k1) (by rw [List.map_id]; exact k2) k3 (fun d hd => ?_) fun out ho e => ?_
    · have := (k4 d hd).2
      show X.A.units + 2 + d.depth < cLine
      omega
    · obtain ⟨ws, w1, w2⟩ := rp_each e
      obtain ⟨ep, he'⟩ := PyProof.Rows.sortedAll_at s.heap its out.toArray
      have hlen : ws.length ≤ sizeLine := by rw [w2.length, List.length_mergeSort]; exact k3
      exact ⟨.ref _, upd H (s.heap.objs.size + 1) (.lst ws), I.laid (t' := s.toks) (fun _ _ => PyProof.Rows.sortedAll_old) (Nat.le_succ _) ⟨hlen, out, ep, w1, he'⟩, rfl, post.newL sF (I.hok.fresh (Nat.le_succ _)) w2 q⟩
  · exact h.elim
end

/-! ### dicts keyed by whole numbers, texts -/
theorem kD_inj {a b : Key} (e : kD a = kD b) : a = b := by
  cases a <;> cases b <;> simp_all [kD]
theorem rp_key {K : PySem.W.Frag} {F H : Hp} {k : Key} {v : V} (r : RepS K F H (kD k) v) : v = kV k := by
  cases k with
  | inl i => exact r.int
  | inr x => exact r.str
def kGet (kk : List (Key × PyData)) (k : Key) : Option PyData := (kk.find? fun p => decide (p.1 = k)).map (·.2)
def kPut (kk : List (Key × PyData)) (k : Key) (d : PyData) : List (Key × PyData) := if (kk.any fun p => decide (p.1 = k)) = true then kk.map fun p => if p.1 = k then (p.1, d) else p else kk ++ [(k, d)]
def kMerge (kk more : List (Key × PyData)) : List (Key × PyData) := more.foldl (fun acc p => kPut acc p.1 p.2) kk
section
variable {K : PySem.W.Frag} {F : Hp}
theorem kvAll_nil : KvAll K F [] [] := ⟨rfl, .nil⟩
theorem kvAll_cons {p : Key × V} {q : Key × PyData} {kv : List (Key × V)} {kk : List (Key × PyData)} : KvAll K F (p :: kv) (q :: kk) ↔ p.1 = q.1 ∧ Rp K F p.2 q.2 ∧ KvAll K F kv kk := by
  constructor
  · rintro ⟨e, r⟩
    simp only [List.map_cons, List.cons.injEq] at e
    cases r with
    | cons r1 r2 => exact ⟨e.1, r1, e.2, r2⟩
  · rintro ⟨e, r1, e2, r2⟩
    exact ⟨by simp [e, e2], .cons r1 r2⟩
theorem KvAll.cases : ∀ {kv : List (Key × V)} {kk : List (Key × PyData)}, KvAll K F kv kk → kv.length = kk.length := fun h => by
  have := congrArg List.length h.1
  simpa using this
theorem kv_get {k : Key} : ∀ {kv : List (Key × V)} {kk : List (Key × PyData)}, KvAll K F kv kk → (valV kv k = none ∧ kGet kk k = none) ∨ ∃ v d, valV kv k = some v ∧ kGet kk k = some d ∧ Rp K F v d
  | [], [], _ => .inl ⟨rfl, rfl⟩
  | [], _ :: _, h => by have := h.cases; simp at this
  | _ :: _, [], h => by have := h.cases; simp at this
  | p :: kv, q :: kk, h => by
    obtain ⟨e, r, t⟩ := kvAll_cons.mp h
    unfold valV kGet
    by_cases z : p.1 = k
    · have z2 : q.1 = k := e ▸ z
      rw [List.find?_cons_of_pos (by simpa using z), List.find?_cons_of_pos (by simpa using z2)]
      exact .inr ⟨p.2, q.2, rfl, rfl, r⟩
    · have z2 : ¬ q.1 = k := e ▸ z
      rw [List.find?_cons_of_neg (by simpa using z), List.find?_cons_of_neg (by simpa using z2)]
      exact kv_get t
theorem kv_any {k : Key} {kv : List (Key × V)} {kk : List (Key × PyData)} (h : KvAll K F kv kk) : (kv.any fun p => decide (p.1 = k)) = (kk.any fun p => decide (p.1 = k)) := by
  have e := h.1
  have a : (kv.any fun p => decide (p.1 = k)) = (kv.map (·.1)).any fun x => decide (x = k) := by rw [List.any_map]; rfl
  have b : (kk.any fun p => decide (p.1 = k)) = (kk.map (·.1)).any fun x => decide (x = k) := by rw [List.any_map]; rfl
  rw [a, b, e]
theorem kv_app {kv kv2 : List (Key × V)} {kk kk2 : List (Key × PyData)} (h : KvAll K F kv kk) (h2 : KvAll K F kv2 kk2) : KvAll K F (kv ++ kv2) (kk ++ kk2) :=
  ⟨by rw [List.map_append, List.map_append, h.1, h2.1], by rw [List.map_append, List.map_append]; exact h.2.append h2.2⟩
theorem kv_map {k : Key} {v : V} {d : PyData} (r : Rp K F v d) : ∀ {kv : List (Key × V)} {kk : List (Key × PyData)}, KvAll K F kv kk → KvAll K F (kv.map fun p => if p.1 = k then (p.1, v) else p) (kk.map fun p => if p.1 = k then (p.1, d) else p)
  | [], [], _ => kvAll_nil
  | [], _ :: _, h => by have := h.cases; simp at this
  | _ :: _, [], h => by have := h.cases; simp at this
  | p :: kv, q :: kk, h => by
    obtain ⟨e, r1, t⟩ := kvAll_cons.mp h
    rw [List.map_cons, List.map_cons]
    refine kvAll_cons.mpr ?_
    by_cases z : p.1 = k
    · have z2 : q.1 = k := e ▸ z
      rw [if_pos z, if_pos z2]
      exact ⟨e, r, kv_map r t⟩
    · have z2 : ¬ q.1 = k := e ▸ z
      rw [if_neg z, if_neg z2]
      exact ⟨e, r1, kv_map r t⟩
theorem kv_put {k : Key} {v : V} {d : PyData} {kv : List (Key × V)} {kk : List (Key × PyData)} (h : KvAll K F kv kk) (r : Rp K F v d) : KvAll K F (putK kv k v) (kPut kk k d) := by
  unfold putK kPut
  rw [kv_any h]
  split
  · exact kv_map r h
  · exact kv_app h (kvAll_cons.mpr ⟨rfl, r, kvAll_nil⟩)
theorem kv_merge : ∀ {mv : List (Key × V)} {mk : List (Key × PyData)} {kv : List (Key × V)} {kk : List (Key × PyData)}, KvAll K F mv mk → KvAll K F kv kk → KvAll K F (mergeK kv mv) (kMerge kk mk)
  | [], [], _, _, _, h => h
  | [], _ :: _, _, _, h, _ => by have := h.cases; simp at this
  | _ :: _, [], _, _, h, _ => by have := h.cases; simp at this
  | p :: mv, q :: mk, kv, kk, h, g => by
    obtain ⟨e, r, t⟩ := kvAll_cons.mp h
    show KvAll K F (mergeK (putK kv p.1 p.2) mv) (kMerge (kPut kk q.1 q.2) mk)
    rw [e]
    exact kv_merge t (kv_put g r)
theorem KvAll.mono {F F' : Hp} {kv : List (Key × V)} {kk : List (Key × PyData)} (s : Same F F') (h : KvAll K F kv kk) : KvAll K F' kv kk := ⟨h.1, RpAll.mono s h.2⟩
theorem zip_inj {ks : List Key} {ds : List PyData} {kk : List (Key × PyData)} (hl : ks.length = ds.length) (e : (ks.map kD).zip ds = kk.map fun p => (kD p.1, p.2)) : ks = kk.map (·.1) ∧ ds = kk.map (·.2) := by
  have e1 := congrArg (List.map Prod.fst) e
  have e2 := congrArg (List.map Prod.snd) e
  rw [List.map_fst_zip (by simp [hl]), List.map_map] at e1
  rw [List.map_snd_zip (by simp [hl]), List.map_map] at e2
  refine ⟨?_, e2⟩
  have inj : ∀ {as bs : List Key}, as.map kD = bs.map kD → as = bs := fun {as bs} h => by
    induction as generalizing bs with
    | nil => cases bs with
      | nil => rfl
      | cons _ _ => cases h
    | cons a as ih =>
      cases bs with
      | nil => cases h
      | cons b bs =>
        simp only [List.map_cons, List.cons.injEq] at h
        rw [kD_inj h.1, ih h.2]
  apply inj
  rw [e1, List.map_map]; rfl
end
def keysOf : List (PyData × PyData) → Option (List (Key × PyData))
  | [] => some []
  | (.int i, d) :: r => match keysOf r with
    | some kk => some ((.inl i, d) :: kk)
    | none => none
  | (.str x, d) :: r => match keysOf r with
    | some kk => some ((.inr x, d) :: kk)
    | none => none
  | _ :: _ => none
theorem keysOf_eq : ∀ {kvs : List (PyData × PyData)} {kk : List (Key × PyData)}, keysOf kvs = some kk → kvs = kk.map fun p => (kD p.1, p.2)
  | [], _, h => by cases h; rfl
  | (.int i, d) :: r, kk, h => by
    unfold keysOf at h
    split at h
    · rename_i k e; cases h; rw [keysOf_eq e]; rfl
    · cases h
  | (.str i, d) :: r, kk, h => by
    unfold keysOf at h
    split at h
    · rename_i k e; cases h; rw [keysOf_eq e]; rfl
    · cases h
  | (.none, _) :: _, _, h => by simp [keysOf] at h
  | (.bool _, _) :: _, _, h => by simp [keysOf] at h
  | (.list _, _) :: _, _, h => by simp [keysOf] at h
  | (.tuple _, _) :: _, _, h => by simp [keysOf] at h
  | (.dict _, _) :: _, _, h => by simp [keysOf] at h
theorem keysOf_map : ∀ {kk : List (Key × PyData)}, keysOf (kk.map fun p => (kD p.1, p.2)) = some kk
  | [] => rfl
  | (.inl i, d) :: kk => by rw [List.map_cons]; show (match keysOf _ with | some kk => _ | none => _) = _; rw [keysOf_map]
  | (.inr i, d) :: kk => by rw [List.map_cons]; show (match keysOf _ with | some kk => _ | none => _) = _; rw [keysOf_map]
/-- the dict that a slot holds -/
def dicO : O → Option (List (Key × PyData))
  | .dk kk => some kk
  | .fz (.dict kvs) => keysOf kvs
  | _ => none
def dicG (Γ : Ga) (i : Nat) : Option (List (Key × PyData)) := match Γ[i]? with
  | some (some o) => dicO o
  | _ => none
theorem own_dk {K : PySem.W.Frag} {F : Hp} {kk : List (Key × PyData)} {v : V} {h : Hp} : Own K F (.dk kk) v h ↔ ∃ a kv, v = .ref a ∧ h = one a (.dK kv) ∧ KvAll K F kv kk := by unfold Own; exact Iff.rfl
section
variable {K : PySem.W.Frag} {pn : List (Nat × V)} {Z F : Hp} {Γ : Ga} {σ : St} {h H hr : Hp} {i : Nat} {kk : List (Key × PyData)} {o : O} {v : V}
theorem own_dic (w : Own K F o v hr) (s : Same hr H) (sF : Same F H) (e : dicO o = some kk) : ∃ a kv, v = .ref a ∧ H a = some (.dK kv) ∧ KvAll K F kv kk := by
  cases o with
  | dk kk' =>
    cases e
    obtain ⟨a, kv, rfl, rfl, q⟩ := own_dk.mp w
    exact ⟨a, kv, rfl, s _ _ one_at, q⟩
  | fz d =>
    cases d with
    | dict kvs =>
      have e : keysOf kvs = some kk := e
      cases (own_fz.mp w).2 with
      | @dct a ks xs ds _ hF hl hr hk =>
        obtain ⟨z1, z2⟩ := zip_inj hl (hk.symm.trans (keysOf_eq e))
        have lx := hr.length
        refine ⟨a, _, rfl, sF _ _ hF, ?_, ?_⟩
        · rw [List.map_fst_zip (by omega)]; exact z1
        · rw [List.map_snd_zip (by omega), ← z2]; exact hr
      | scr h => cases e
    | _ => cases e
  | _ => cases e
theorem At.dic (A : At K pn Z F Γ σ h H) (e : dicG Γ i = some kk) : ∃ a kv, σ[i]? = some (some (.ref a)) ∧ H a = some (.dK kv) ∧ KvAll K F kv kk := by
  cases e1 : Γ[i]? with
  | none => simp [dicG, e1] at e
  | some x =>
    cases x with
    | none => simp [dicG, e1] at e
    | some o =>
      have e : dicO o = some kk := by simpa [dicG, e1] using e
      obtain ⟨v, h1, s1, w, s2, _⟩ := A.slot e1
      obtain ⟨a, kv, rfl, b, c⟩ := own_dic w s2 A.FH e
      exact ⟨a, kv, s1, b, c⟩
theorem At.changeD (A : At K pn Z F Γ σ h H) (e : Γ[i]? = some (some (.dk kk))) : ∃ a kv, σ[i]? = some (some (.ref a)) ∧ H a = some (.dK kv) ∧ KvAll K F kv kk ∧
    ∀ kv' kk', KvAll K F kv' kk' → ∃ h', At K pn Z F (Γ.set i (some (.dk kk'))) σ h' (upd H a (.dK kv')) := by
  obtain ⟨v, g1, g2, a1, w, sg1, dg1, zg1, sg2, d12, dg2, zg2, put⟩ := A.change e
  obtain ⟨a, kv, rfl, rfl, r⟩ := own_dk.mp w
  exact ⟨a, kv, a1, sg1 _ _ one_at, r, fun kv' kk' r' => ⟨_, put F (.dk kk') (VL.one a (.dK kv')) _ (Same.refl _) (own_dk.mpr ⟨a, kv', rfl, rfl, r'⟩) (same_one upd_same) (keepU (of_dis_one dg1) A.FH) (keepU (of_dis_one d12) sg2) (keepU (of_dis_one zg1) A.ZH) A.FZ (dis_at d12) (dis_at dg1) (dis_at zg1) dg2⟩⟩
end
/-! reading: d[k], k in d -/
section
variable {X : Cx} {e o idx : Expr} {τ τk : EX} {τo τo' : EO} {t1 t2 : TE} {p pos : Pos}
theorem pe_or (h1 : PE X e t1) (h2 : PE X e t2) : PE X e (fun σ H Q => t1 σ H Q ∨ t2 σ H Q) := ⟨fun pins s σ H Q I q => by
  rcases q with q | q
  · exact h1.run pins s σ H Q I q
  · exact h2.run pins s σ H Q I q⟩
theorem pt_or {t1 t2 : TT} (h1 : PT X e t1) (h2 : PT X e t2) : PT X e (fun σ H Q => t1 σ H Q ∨ t2 σ H Q) := ⟨fun pins s σ H Q I q => by
  rcases q with q | q
  · exact h1.run pins s σ H Q I q
  · exact h2.run pins s σ H Q I q⟩
theorem ps_or {st : Stmt} {t1 t2 : TS} (h1 : PS X st t1) (h2 : PS X st t2) : PS X st (fun D σ H => t1 D σ H ∨ t2 D σ H) := ⟨fun pins s σ H D I q => by
  rcases q with q | q
  · exact h1.run pins s σ H D I q
  · exact h2.run pins s σ H D I q⟩
/-- by what a slot holds: a dict, anything else -/
def isDic (Γ : Ga) (i : Nat) : Bool := match Γ[i]? with
  | some (some (.dk _)) => true
  | some (some (.fz (.dict _))) => true
  | _ => false
def oAlt (i : Nat) (t u : EO) : EO := fun Γ Q => match isDic Γ i with
  | true => t Γ Q
  | false => u Γ Q
theorem vo_alt (i : Nat) (h1 : PE X e (lO X.K τo)) (h2 : PE X e (lO X.K τo')) : PE X e (lO X.K (oAlt i τo τo')) := pe_imp (pe_or h1 h2) fun σ H QV ⟨pn, Z, F, Γ, hh, Q, A, q, k⟩ => by
  unfold oAlt at q
  split at q
  · exact .inl ⟨pn, Z, F, Γ, hh, Q, A, q, k⟩
  · exact .inr ⟨pn, Z, F, Γ, hh, Q, A, q, k⟩
def tAlt (i : Nat) (t u : ET) : ET := fun Γ Q => match isDic Γ i with
  | true => t Γ Q
  | false => u Γ Q
theorem vt_alt {tt tu : ET} (i : Nat) (h1 : PT X e (lT X.K tt)) (h2 : PT X e (lT X.K tu)) : PT X e (lT X.K (tAlt i tt tu)) := pt_imp (pt_or h1 h2) fun σ H QV ⟨pn, Z, F, Γ, hh, Q, A, q, k⟩ => by
  unfold tAlt at q
  split at q
  · exact .inl ⟨pn, Z, F, Γ, hh, Q, A, q, k⟩
  · exact .inr ⟨pn, Z, F, Γ, hh, Q, A, q, k⟩
def sAlt (i : Nat) (t u : ES) : ES := fun D Γ => match isDic Γ i with
  | true => t D Γ
  | false => u D Γ
theorem vs_alt {io : Bool} {st : Stmt} {t u : ES} (i : Nat) (h1 : PS X st (lS X.K io t)) (h2 : PS X st (lS X.K io u)) : PS X st (lS X.K io (sAlt i t u)) := ps_imp (ps_or h1 h2) fun D σ H ⟨v0, Z, F, Γ, h, DD, A, q, k⟩ => by
  unfold sAlt at q
  split at q
  · exact .inl ⟨v0, Z, F, Γ, h, DD, A, q, k⟩
  · exact .inr ⟨v0, Z, F, Γ, h, DD, A, q, k⟩
def eDGet (i : Nat) (τ : EX) : EO := fun Γ Q => (∃ kk, dicG Γ i = some kk) ∧ τ Γ fun a Γ1 => ∃ kk k d, dicG Γ1 i = some kk ∧ rslv Γ1 a = some (kD k) ∧ kGet kk k = some d ∧ Q (.fz d) Γ1
theorem vo_dget (i : Nat) (hu : X.A.units + 1 < cLine) (ho : PE X o (tVar i)) (hx : PE X idx (lX X.K τ)) (hs : NoSl idx := by intro _ _; rfl) : PE X (.Subscript o idx pos) (lO X.K (eDGet i τ)) :=
  pe_imp (pe_dget hu ho hx hs) fun σ H QV ⟨pn, Z, F, Γ, hh, Q, A, ⟨⟨kk0, e0⟩, q⟩, kq⟩ => by
    obtain ⟨a, kv, s0, _, _⟩ := A.dic e0
    refine ⟨.ref a, s0, pn, Z, F, Γ, hh, _, A, q, fun F1 Γ1 h1 H1 av y s1 A1 r1 ⟨kk, k, d, e1, e2, e3, q1⟩ => ?_⟩
    obtain ⟨b, kv, s2, hb, hk⟩ := A1.dic e1
    rw [s0] at s2; cases s2
    have ey := rp_key (rep_of A1 r1 e2)
    subst ey
    rcases kv_get (k := k) hk with ⟨_, z⟩ | ⟨v, d', z1, z2, r⟩
    · rw [e3] at z; cases z
    · rw [e3] at z2; cases z2
      refine ⟨a, v, rfl, ?_, kq F1 Γ1 h1 emp H1 (.fz d) v s1 A1.alone ⟨rfl, r⟩ q1⟩
      rw [← z1]
      exact DGet.k hb
def eDIn (pos : Bool) (τ : EX) (i : Nat) : EO := fun Γ Q => τ Γ fun a Γ1 => ∃ kk k, dicG Γ1 i = some kk ∧ rslv Γ1 a = some (kD k) ∧ Q (.fz (.bool (if pos then (kGet kk k).isSome else !(kGet kk k).isSome))) Γ1
theorem dgo {K : PySem.W.Frag} {F H : Hp} {a : Addr} {kv : List (Key × V)} {kk : List (Key × PyData)} {k : Key} (hb : H a = some (.dK kv)) (hk : KvAll K F kv kk) : ∃ o, DGet H a (kV k) o ∧ o.isSome = (kGet kk k).isSome := by
  refine ⟨_, DGet.k hb, ?_⟩
  rcases kv_get (k := k) hk with ⟨z1, z2⟩ | ⟨v, d', z1, z2, r⟩
  · rw [z1, z2]; rfl
  · rw [z1, z2]; rfl
theorem vo_din (i : Nat) (hu : X.A.units + 1 < cLine) (hx : PE X idx (lX X.K τ)) (ho : PE X o (tVar i)) (hm : behindInMarks .In o = false := by rfl) : PE X (.Compare idx [.In] [o] pos) (lO X.K (eDIn true τ i)) :=
  pe_imp (pe_cmp (pc_din hu hx ho) hm) fun σ H QV ⟨pn, Z, F, Γ, hh, Q, A, q, kq⟩ => ⟨pn, Z, F, Γ, hh, _, A, q, fun F1 Γ1 h1 H1 av y s1 A1 r1 ⟨kk, k, e1, e2, q1⟩ => by
    obtain ⟨b, kv, s2, hb, hk⟩ := A1.dic e1
    have ey := rp_key (rep_of A1 r1 e2)
    subst ey
    obtain ⟨o, g, eo⟩ := dgo (k := k) hb hk
    exact ⟨.ref b, s2, b, o, rfl, g, by rw [eo]; exact kq F1 Γ1 h1 emp H1 (.fz (.bool _)) _ s1 A1.alone ⟨rfl, .bl _⟩ q1⟩⟩
theorem vo_dnotin (i : Nat) (hu : X.A.units + 1 < cLine) (hx : PE X idx (lX X.K τ)) (ho : PE X o (tVar i)) (hm : behindInMarks .NotIn o = false := by rfl) : PE X (.Compare idx [.NotIn] [o] pos) (lO X.K (eDIn false τ i)) :=
  pe_imp (pe_cmp (pc_dnotin hu hx ho) hm) fun σ H QV ⟨pn, Z, F, Γ, hh, Q, A, q, kq⟩ => ⟨pn, Z, F, Γ, hh, _, A, q, fun F1 Γ1 h1 H1 av y s1 A1 r1 ⟨kk, k, e1, e2, q1⟩ => by
    obtain ⟨b, kv, s2, hb, hk⟩ := A1.dic e1
    have ey := rp_key (rep_of A1 r1 e2)
    subst ey
    obtain ⟨o, g, eo⟩ := dgo (k := k) hb hk
    exact ⟨.ref b, s2, b, o, rfl, g, by rw [eo]; exact kq F1 Γ1 h1 emp H1 (.fz (.bool _)) _ s1 A1.alone ⟨rfl, .bl _⟩ q1⟩⟩
theorem vt_din (i : Nat) (hu : X.A.units + 1 < cLine) (hx : PE X idx (lX X.K τ)) (ho : PE X o (tVar i)) (hm : behindInMarks .In o = false := by rfl) : PT X (.Compare idx [.In] [o] pos) (lT X.K (tO (eDIn true τ i))) :=
  pt_imp (pt_cmp (pc_din hu hx ho) hm) fun σ H QV ⟨pn, Z, F, Γ, hh, Q, A, q, kq⟩ => ⟨pn, Z, F, Γ, hh, _, A, q, fun F1 Γ1 h1 H1 av y s1 A1 r1 ⟨kk, k, e1, e2, b', eb, q1⟩ => by
    cases eb
    obtain ⟨b, kv, s2, hb, hk⟩ := A1.dic e1
    have ey := rp_key (rep_of A1 r1 e2)
    subst ey
    obtain ⟨o, g, eo⟩ := dgo (k := k) hb hk
    exact ⟨.ref b, s2, b, o, rfl, g, _, rfl, by rw [eo]; exact kq F1 Γ1 h1 H1 _ s1 A1 q1⟩⟩
theorem vt_dnotin (i : Nat) (hu : X.A.units + 1 < cLine) (hx : PE X idx (lX X.K τ)) (ho : PE X o (tVar i)) (hm : behindInMarks .NotIn o = false := by rfl) : PT X (.Compare idx [.NotIn] [o] pos) (lT X.K (tO (eDIn false τ i))) :=
  pt_imp (pt_cmp (pc_dnotin hu hx ho) hm) fun σ H QV ⟨pn, Z, F, Γ, hh, Q, A, q, kq⟩ => ⟨pn, Z, F, Γ, hh, _, A, q, fun F1 Γ1 h1 H1 av y s1 A1 r1 ⟨kk, k, e1, e2, b', eb, q1⟩ => by
    cases eb
    obtain ⟨b, kv, s2, hb, hk⟩ := A1.dic e1
    have ey := rp_key (rep_of A1 r1 e2)
    subst ey
    obtain ⟨o, g, eo⟩ := dgo (k := k) hb hk
    exact ⟨.ref b, s2, b, o, rfl, g, _, rfl, by rw [eo]; exact kq F1 Γ1 h1 H1 _ s1 A1 q1⟩⟩
/-! {} ; d[k] = v -/
def eDNew : EO := fun Γ Q => Q (.dk []) Γ
theorem vo_dnew : PE X (.Dict [] [] pos) (lO X.K eDNew) := pe_imp pe_dnewK fun σ H QV ⟨pn, Z, F, Γ, hh, Q, A, q, k⟩ a n => by
  have g := Grow.stay (H' := upd H a (.dK [])) A.FH (same_new n)
  exact k F Γ hh (VL.one a (.dK [])) _ (.dk []) (.ref a) (Same.refl _) (A.beside g (same_one upd_same) (dis_one (A.FH.free n)) fun x z => by
    by_cases e : x = a
    · subst e; exact n
    · rw [one_ne e] at z; exact absurd rfl z) (own_dk.mpr ⟨a, [], rfl, rfl, kvAll_nil⟩) q
def sDPutS (i : Nat) (τk : EX) (τv : EX) : ES := fun D Γ => τv Γ fun av Γ1 => (∃ kk, Γ1[i]? = some (some (.dk kk))) ∧ ∃ d, av = .d d ∧ τk Γ1 fun a Γ2 => ∃ kk k Γ3, Γ2[i]? = some (some (.dk kk)) ∧ rslv Γ2 a = some (kD k) ∧ kk.length < sizeLine ∧ setG Γ2 i (some (.dk (kPut kk k d))) = some Γ3 ∧ D.nx Γ3
theorem vs_dput {io : Bool} {spos : Pos} {τv : EX} (i : Nat) (hu : X.A.units + 1 < cLine) (ho : PE X o (tVar i)) (hx : PE X idx (lX X.K τk)) (hv : PE X e (lX X.K τv)) (hs : swapsWith e (some (.Subscript o idx pos)) spos.line X.env = pure false := by rfl) :
    PS X (.Assign [.Subscript o idx pos] e spos) (lS X.K io (sDPutS i τk τv)) :=
  ps_imp (ps_dput hu ho hx hv hs) fun D σ H ⟨v0, Z, F, Γ, h, DD, A, q, kq⟩ => ⟨_, Z, F, Γ, h, _, A, q, fun F1 Γ1 h1 H1 av v s1 A1 r1 ⟨⟨kk0, e0⟩, d, ed, q1⟩ => by
    subst ed
    obtain ⟨a, kv, sa, _, _⟩ := A1.changeD e0
    refine ⟨.ref a, sa, _, Z, F1, Γ1, h1, _, A1, q1, fun F2 Γ2 h2 H2 ak y s2 A2 r2 ⟨kk, k, Γ3, e1, e2, hl, e3, q2⟩ => ?_⟩
    obtain ⟨b, kv, sb, hb, hk, put⟩ := A2.changeD e1
    rw [sa] at sb; cases sb
    have ey := rp_key (rep_of A2 r2 e2)
    subst ey
    obtain ⟨h', A3⟩ := put _ _ (kv_put (k := k) hk (Rp.mono s2 r1))
    rw [(setG_eq e3).1] at A3
    exact ⟨a, _, rfl, DPut.k hb (by rw [hk.cases]; exact hl), kq.nx F2 Γ3 σ h' _ (s1.trans s2) A3 q2⟩⟩
end
/-! dict(pairs) -/
def prD (p : Key × PyData) : PyData := .tuple [kD p.1, p.2]
def cdDict : List PyData → (O → Prop) → Prop
  | [.list ds], Q => ∃ kk, ds = kk.map prD ∧ Q (.dk (kMerge [] kk))
  | [.tuple ds], Q => ∃ kk, ds = kk.map prD ∧ Q (.dk (kMerge [] kk))
  | _, _ => False
theorem pairs_rp {X : Cx} {pins : List (Addr × Obj)} {σ : St} {H F : Hp} {s : Shared} (I : Inv X pins σ H s) (sF : Same F H) : ∀ {kk : List (Key × PyData)} {vs : List V} {its : List Value}, RpAll X.K F vs (kk.map prD) → Vals vs its →
    ∃ (kv : List (Key × V)) (prs : List (Key × Value)) (qs : List (Value × Value)) (Ts : Nat → Addr), KvAll X.K F kv kk ∧ KV kv prs ∧ prs.length = its.length ∧ qs.length = its.length ∧
      ∀ j k v, qs[j]? = some (k, v) → its[j]? = some (.ref (Ts j)) ∧ s.heap.IsTuple (Ts j) #[k, v] ∧ ∃ key, prs[j]? = some (key, v) ∧ (mixKind X.prog X.w).is key k = true
  | [], _, _, .nil, .nil => ⟨[], [], [], fun _ => 0, kvAll_nil, .nil, rfl, rfl, fun j k v e => by simp at e⟩
  | q :: kk, _, _, .cons r rr, .cons h t => by
    obtain ⟨kv, prs, qs, Ts, a1, a2, a3, a4, a5⟩ := pairs_rp I sF rr t
    obtain ⟨p, vs, rfl, hs, ra⟩ := rp_tup (show Rp X.K F _ (.tuple [kD q.1, q.2]) from r)
    cases h
    obtain ⟨x, y, rfl, rx, ry⟩ := ra.two'
    have ex := rp_key (H := H) (.inl rx)
    subst ex
    obtain ⟨us, rv, ht, _⟩ := I.tuple (sameT sF hs)
    obtain ⟨u, w, ei, ru, rw'⟩ := vals2 rv
    subst ei
    refine ⟨(q.1, y) :: kv, (q.1, w) :: prs, (u, w) :: qs, fun j => match j with | 0 => p | j + 1 => Ts j, kvAll_cons.mpr ⟨rfl, ry, a1⟩, .cons ⟨rfl, rw'⟩ a2, by simp [a3], by simp [a4], fun j k v e => ?_⟩
    cases j with
    | zero =>
      have e : (u, w) = (k, v) := by simpa using e
      cases e
      exact ⟨rfl, ht, q.1, rfl, kV_is ru⟩
    | succ j => exact a5 j k v (by simpa using e)
section
variable {X : Cx}
theorem dict_core {pins : List (Addr × Obj)} {σ : St} {H F : Hp} {s : Shared} {QV : VK} {Q : O → Prop} {T : String} {a : Addr} {its : List Value} {fp : List Addr} {OK : Heap → Prop} {kv : List (Key × V)} {kk : List (Key × PyData)} {prs : List (Key × Value)} {qs : List (Value × Value)}
    (hcalm : X.calm = true) (I : Inv X pins σ H s) (sF : Same F H) (P : PairArg X.prog X.w T a fp [] qs.length (PairRel qs) OK) (ok : OK s.heap) (a1 : KvAll X.K F kv kk) (a2 : KV kv prs) (a3 : prs.length = its.length) (a4 : qs.length = its.length) (hz : its.length ≤ sizeLine)
    (a5 : ∀ (j : Nat) (k v : Value), qs[j]? = some (k, v) → ∃ key, prs[j]? = some (key, v) ∧ (mixKind X.prog X.w).is key k = true) (post : OpPost X.K F H Q QV) (q : Q (.dk (kMerge [] kk))) : wpAny (model X.prog X.w) X.A (call (.type "dict") [.ref a]) (EP X pins σ QV) X.xe s := by
  refine call_dict_pairs (knd := mixKind X.prog X.w) (kvs := prs) P (I.ok.hd hcalm) ok ⟨by rw [a3, a4], fun i k v e => a5 i k v e⟩ (by rw [a4]; exact hz) fun h' tk hd' k => ?_
  have hm : (s.heap.objs.size == sysModules) = false := beq_eq_false_iff_ne.mpr (Nat.ne_of_gt I.big)
  have hlen : (mergeK [] kv).length ≤ sizeLine := by
    refine Nat.le_trans (length_mergeK kv []) ?_
    have := a1.cases
    have l2 : kv.length = prs.length := by
      have := a2
      unfold KV at this
      exact this.length
    rw [List.length_nil, Nat.zero_add, l2, a3]
    exact hz
  have n : H s.heap.objs.size = none := I.hok.fresh (Nat.le_refl _)
  refine ⟨.ref s.heap.objs.size, upd H s.heap.objs.size (.dK (mergeK [] kv)), I.laid (t' := tk) (fun b o e => k b o (by simp) e) (Nat.le_refl _) (show ObjOk X.prog X.w _ _ _ (.dK (mergeK [] kv)) from ⟨hlen, hm, merged [] prs, KV.merge a2 .nil, hd'⟩), rfl, ?_⟩
  exact post F (VL.one s.heap.objs.size (.dK (mergeK [] kv))) _ (.dk (kMerge [] kk)) _ (Grow.stay sF (same_new n)) (own_dk.mpr ⟨_, _, rfl, rfl, kv_merge a1 kvAll_nil⟩) (same_one upd_same) (dis_one (sF.free n)) (fun x z => by
    by_cases e : x = s.heap.objs.size
    · subst e; exact n
    · rw [one_ne e] at z; exact absurd rfl z) q
theorem cd_dict (hcalm : X.calm = true) : CallD X (.type "dict") cdDict := by
  intro pins s σ H xs us QV I rx ⟨F, ds, Q, sF, rl, h, post⟩
  unfold cdDict at h
  split at h
  · obtain ⟨v, rfl, r⟩ := rl.one'
    obtain ⟨kk, rfl, q⟩ := h
    obtain ⟨a, vs, rfl, ha, ra⟩ := r.list sF
    obtain ⟨its, rv, ⟨o, n, ho, hc, hd, hdat⟩, hz⟩ := I.list (SqL.of ha)
    rw [Vals.ref1 rx]
    obtain ⟨kv, prs, qs, Ts, a1, a2, a3, a4, a5⟩ := pairs_rp I sF ra rv
    have hz' : its.length ≤ sizeLine := by rw [← rv.length]; exact hz
    exact dict_core hcalm I sF (PairArg.list a its.toArray Ts qs) ⟨⟨o, n, ho, hc, hd, hdat⟩, by simp [a4], fun j k v e => ⟨by simpa using (a5 j k v e).1, .inl (a5 j k v e).2.1⟩⟩ a1 a2 a3 a4 hz' (fun j k v e => (a5 j k v e).2.2) post q
  · obtain ⟨v, rfl, r⟩ := rl.one'
    obtain ⟨kk, rfl, q⟩ := h
    obtain ⟨a, vs, rfl, ha, ra⟩ := rp_tupN r.tupR
    obtain ⟨its, rv, pl, hz⟩ := (sameN sF ha).at I
    rw [Vals.ref1 rx]
    obtain ⟨kv, prs, qs, Ts, a1, a2, a3, a4, a5⟩ := pairs_rp I sF ra rv
    have hz' : its.length ≤ sizeLine := by rw [← rv.length]; exact hz
    exact dict_core hcalm I sF (PairArg.tuple a its.toArray Ts qs) ⟨pl, by simp [a4], fun j k v e => ⟨by simpa using (a5 j k v e).1, .inl (a5 j k v e).2.1⟩⟩ a1 a2 a3 a4 hz' (fun j k v e => (a5 j k v e).2.2) post q
  · exact h.elim
end
end VL
end
section
namespace VL
open PySem PySem.Spec PyProof.Rows L2

/-! ### del xs[lo:] -/
theorem tail_gone (a N : Nat) (f : Value × Nat → Option Value) (hf : ∀ p : Value × Nat, f p = if a ≤ p.2 ∧ p.2 < N then none else some p.1) : ∀ (l : List Value) (n : Nat), n + l.length = N → (l.zipIdx n).filterMap f = l.take (a - n)
  | [], n, _ => by simp
  | x :: l, n, e => by
    have ih := tail_gone a N f hf l (n + 1) (by simp only [List.length_cons] at e; omega)
    have hn : n < N := by simp only [List.length_cons] at e; omega
    rw [List.zipIdx_cons, List.filterMap_cons, hf]
    by_cases h : a ≤ n
    · rw [if_pos ⟨h, hn⟩, ih, Nat.sub_eq_zero_of_le h, Nat.sub_eq_zero_of_le (by omega)]
      simp
    · rw [if_neg (fun z => h z.1), ih]
      obtain ⟨m, hm⟩ : ∃ m, a - n = m + 1 := ⟨a - n - 1, by omega⟩
      rw [hm, show a - (n + 1) = m by omega]
      rfl
theorem bounds_tail {a n : Nat} : sliceBounds (some (a : Int)) none none n = (((min a n : Nat) : Int), ((n : Nat) : Int), 1) := by
  simp only [sliceBounds, Option.getD_none]
  have h1 : ¬ ((a : Int) < 0) := by omega
  simp only [h1, if_false, show (1 : Int) > 0 by decide, if_true]
  congr 1
  · omega
section
variable {prog : Program} {w : World} {A : Around} {E : Value → Shared → Prop} {s : Shared}
theorem del_tailV {l sl : Addr} {items : Array Value} {n : Nat} {vl : Value} {a : Nat} {Q : Unit → Shared → Prop} (e : s.heap.get? l = some { cls := .type "list", data := .seq items n })
    (hs : s.heap.IsSliceOf sl vl .none .none) (pl : IsPart vl (some (a : Int))) (hsz : items.size ≤ sizeLine)
    (h : ∀ f : Array Value → Array Value, f items = (items.toList.take a).toArray → Q () { s with heap := s.heap.update l (Obj.mapSeq f) }) : wpAny (model prog w) A (delItem (.ref l) (.ref sl)) Q E s := by
  have hl : s.heap.IsList l items := PySem.IsL.isList e
  obtain ⟨os, hos, hcs, hds⟩ := id hs
  have hTs : s.TypeIs (.ref sl) "slice" := ⟨os, hos, hcs⟩
  have hstep : ¬ ((rawPart none == rawInt 0) = true) := Bool.false_ne_true
  refine wpAny_delItem_slot hl.typeIs (by decide) F.slot_list_delitem (wpAny_call_entry F.slot_list_delitem hl.typeIs F.entry_list_delitem ?_ (F.args_list_delitem_2 _ _))
  show wpAny _ _ (Builtin.List.listSubscript? (.ref sl) >>= _) _ _ s
  refine wpAny_bind ?_
  unfold Builtin.List.listSubscript?
  refine wpAny_bind (wpAny_specialOf hTs slice_no_index ?_)
  simp only [Option.isNone_none, if_true]
  refine wpAny_pure ?_
  show wpAny _ _ (typeOf (.ref sl) >>= _) _ _ s
  refine wpAny_bind (wpAny_typeOf hTs ?_)
  first
    | rw [if_neg (by decide)]
    | refine PySem.W.KFB.if_not (by decide) ?_
  rw [listSliceParts_eq]
  refine wpAny_bind (wpAny_bind (wpAny_field hos hds (x := .none) rfl (wpAny_bind (wpAny_listPart .none ?_))))
  rw [if_neg hstep]
  refine wpAny_bind (wpAny_field hos hds (x := vl) rfl (wpAny_bind (wpAny_listPart pl ?_)))
  refine wpAny_bind (wpAny_field hos hds (x := .none) rfl (wpAny_bind (wpAny_listPart .none (wpAny_pure ?_))))
  unfold Builtin.List.listItems
  refine wpAny_bind (wpAny_bind (wpAny_seqItems e rfl (wpAny_pure ?_)))
  refine wpAny_bind (wpAny_of_eq ((sliceIndices_raw (some (a : Int)) none none items.size (by simp)).trans (congrArg (pure : Int × Int × Int → Sem (Int × Int × Int)) bounds_tail)) ?_)
  refine wpAny_bind (wpAny_rule ?_)
  have key : ∀ f : Array Value → Array Value, (∀ xs, f xs = (xs.toList.zipIdx.filterMap fun p => if (if (1 : Int) > 0 then (decide (((min a items.size : Nat) : Int) ≤ (p.2 : Int)) && decide ((p.2 : Int) < ((items.size : Nat) : Int)) && (((p.2 : Int) - ((min a items.size : Nat) : Int)) % 1 == 0)) else (decide (((items.size : Nat) : Int) < (p.2 : Int)) && decide ((p.2 : Int) ≤ ((min a items.size : Nat) : Int)) && ((((min a items.size : Nat) : Int) - (p.2 : Int)) % (-1) == 0))) = true then none else some p.1).toArray) → f items = (items.toList.take a).toArray := fun f hf => by
    rw [hf]
    congr 1
    rw [tail_gone (min a items.size) items.size _ (fun p => ?_) items.toList 0 (by simp)]
    · rw [Nat.sub_zero]
      by_cases c : a ≤ items.size
      · rw [Nat.min_eq_left c]
      · rw [Nat.min_eq_right (by omega), List.take_of_length_le (by simp), List.take_of_length_le (by simp; omega)]
    · rw [if_pos (show (1 : Int) > 0 by decide), Int.emod_one]
      by_cases c : min a items.size ≤ p.2 ∧ p.2 < items.size
      · rw [if_pos c, if_pos]
        simp only [Bool.and_eq_true, decide_eq_true_eq, beq_self_eq_true, and_true]
        omega
      · rw [if_neg c, if_neg]
        simp only [Bool.and_eq_true, decide_eq_true_eq, beq_self_eq_true, and_true]
        omega
  show wpAny _ _ (updateSeq l _ >>= _) _ _ s
  refine wpAny_bind (wpAny_updateSeq (hz := hsz) (_hz' := ?_) e rfl ?_)
  · refine wpAny_bind (wpAny_letGo ?_)
    exact wpAny_pure ⟨.none, rfl, h _ (key _ fun xs => rfl)⟩
  · rw [List.size_toArray]
    refine Nat.le_trans (List.length_filterMap_le _ _) ?_
    rw [List.length_zipIdx, Array.length_toList]
    omega
end
section
variable {X : Cx} {o e : Expr} {td te : TE} {p2 tpos pos : Pos}
def tDelT (td te : TE) : TS := fun D σ H => td σ H fun x H1 => tPart te σ H1 fun i H2 => ∃ (l : Addr) (xs : List V) (a : Nat), x = .ref l ∧ i = some (a : Int) ∧ H2 l = some (.lst xs) ∧ D.nx σ (upd H2 l (.lst (xs.take a)))
theorem ps_delT (ho : PE X o td) (he : PE X e te) : PS X (.Delete [.Subscript o (.Slice (some e) none none p2) tpos] pos) (tDelT td te) := by
  refine ⟨fun pins s σ H D I h => ?_⟩
  refine wpAny_Delete (wpAny_deleteEach_cons (wpAny_delete_Subscript (thn (ho.run pins s σ H _ I h) fun u s1 ⟨x, H1, I1, rx, q1⟩ => ?_)))
  refine wpAny_Slice (thn ((po_some he).run pins s1 σ H1 (fun i H2 => ∃ (l : Addr) (xs : List V) (a : Nat), x = .ref l ∧ i = some (a : Int) ∧ H2 l = some (.lst xs) ∧ D.nx σ (upd H2 l (.lst (xs.take a)))) I1 (q1 : tPart te σ H1 _)) fun vl s2 ⟨i, H2, I2, pl, l, xs, a, ex, ei, eH, q2⟩ => ?_)
  subst ex; subst ei
  cases (show u = Value.ref l from rx)
  rw [evalPart_none]
  refine wpAny_pure (wpAny_pure ?_)
  have J : Inv X pins σ H2 { s2 with heap := s2.heap.push { cls := .type "slice", data := .fields #[vl, .none, .none] } } := I2.kept (t' := s2.toks) fun b ob q => Heap.get?_push_of_some _ q
  obtain ⟨z, its, n, r, hl, e⟩ := J.lstM eH
  refine del_tailV (a := a) e (Heap.IsSliceOf.new ..) pl (by rw [List.size_toArray, ← hl]; exact z) fun f hf => wpAny_deleteEach_nil ⟨σ, _, J.lset (its' := its.take a) (t' := s2.toks) eH e (by rw [hf]) (r.take a) (by rw [List.length_take]; omega), q2⟩
end
end VL
end
section
namespace VL
open PySem PySem.Spec L2

/-! ### del xs[a:] of a slot -/
def sDel (i : Nat) (τ : EX) : ES := fun D Γ => (∃ ds, Γ[i]? = some (some (.ls ds))) ∧ τ Γ fun a Γ1 => ∃ ds n Γ2, Γ1[i]? = some (some (.ls ds)) ∧ rslv Γ1 a = some (.int (n : Nat)) ∧ setG Γ1 i (some (.ls (ds.take n))) = some Γ2 ∧ D.nx Γ2
section
variable {X : Cx} {o e idx : Expr} {τ τk : EX} {τo : EO} {p2 tpos pos : Pos}
theorem vs_del {io : Bool} (i : Nat) (ho : PE X o (tVar i)) (he : PE X e (lX X.K τ)) : PS X (.Delete [.Subscript o (.Slice (some e) none none p2) tpos] pos) (lS X.K io (sDel i τ)) :=
  ps_imp (ps_delT ho he) fun D σ H ⟨v0, Z, F, Γ, h, DD, A, ⟨⟨ds0, e0⟩, q⟩, kq⟩ => by
    obtain ⟨a, vs, sa, _, _, _⟩ := A.changeL e0
    refine ⟨.ref a, sa, _, Z, F, Γ, h, _, A, q, fun F1 Γ1 h1 H1 av y s1 A1 r1 ⟨ds, n, Γ2, e1, e2, e3, q1⟩ => ?_⟩
    obtain ⟨b, ws, sb, hb, rb, put⟩ := A1.changeL e1
    rw [sa] at sb; cases sb
    obtain ⟨h', A2⟩ := put _ _ (rb.take n)
    rw [(setG_eq e3).1] at A2
    exact ⟨(n : Nat), (rep_of A1 r1 e2).int, a, ws, n, rfl, rfl, hb, kq.nx F1 Γ2 σ h' _ s1 A2 q1⟩
/-! slot[k], by what the slot holds -/
def isTr (Γ : Ga) (i : Nat) : Bool := match Γ[i]? with
  | some (some (.tr _)) => true
  | _ => false
def oAltT (i : Nat) (t u : EO) : EO := fun Γ Q => match isTr Γ i with
  | true => t Γ Q
  | false => u Γ Q
theorem vo_altT {τ1 τ2 : EO} (i : Nat) (h1 : PE X e (lO X.K τ1)) (h2 : PE X e (lO X.K τ2)) : PE X e (lO X.K (oAltT i τ1 τ2)) := pe_imp (pe_or h1 h2) fun σ H QV ⟨pn, Z, F, Γ, hh, Q, A, q, k⟩ => by
  unfold oAltT at q
  split at q
  · exact .inl ⟨pn, Z, F, Γ, hh, Q, A, q, k⟩
  · exact .inr ⟨pn, Z, F, Γ, hh, Q, A, q, k⟩
def eIxS (i : Nat) (τ : EX) : EO := oAlt i (eDGet i τ) (oAltT i (oX (xEl (eEl i τ))) (eOp opIx (xVar i) τ))
theorem vo_ixS (i : Nat) (hu : X.A.units + 1 < cLine) (ho : PE X o (tVar i)) (hx : PE X idx (lX X.K τ)) (hs : PlainIx idx := by intro _ _; rfl) (hs2 : NoSl idx := by intro _ _; rfl) : PE X (.Subscript o idx pos) (lO X.K (eIxS i τ)) :=
  vo_alt i (vo_dget i hu ho hx hs2) (vo_altT i (vo_x (vx_el (ve_el i ho hx hs))) (vo_ix ix2_any (vx_var i ho) hx hs))
def sPutS (i : Nat) (τk : EX) (τv : EX) (τo : EO) : ES := sAlt i (sDPutS i τk τv) (sPut i τk τo)
def eInS (i : Nat) (τ : EX) : EO := oAlt i (eDIn true τ i) (eOp opIn τ (xVar i))
def eNotInS (i : Nat) (τ : EX) : EO := oAlt i (eDIn false τ i) (eOp opNotIn τ (xVar i))
def tInS (i : Nat) (τ : EX) : ET := tAlt i (tO (eDIn true τ i)) (tO (eOp opIn τ (xVar i)))
def tNotInS (i : Nat) (τ : EX) : ET := tAlt i (tO (eDIn false τ i)) (tO (eOp opNotIn τ (xVar i)))
theorem vo_inS (i : Nat) (hu : X.A.units + 65 < cLine) (hx : PE X idx (lX X.K τ)) (ho : PE X o (tVar i)) (hm : behindInMarks .In o = false := by rfl) : PE X (.Compare idx [.In] [o] pos) (lO X.K (eInS i τ)) :=
  vo_alt i (vo_din i (by omega) hx ho hm) (vo_cmp (o2_in hu) hx (vx_var i ho) hm)
theorem vo_notInS (i : Nat) (hu : X.A.units + 65 < cLine) (hx : PE X idx (lX X.K τ)) (ho : PE X o (tVar i)) (hm : behindInMarks .NotIn o = false := by rfl) : PE X (.Compare idx [.NotIn] [o] pos) (lO X.K (eNotInS i τ)) :=
  vo_alt i (vo_dnotin i (by omega) hx ho hm) (vo_cmp (o2_notIn hu) hx (vx_var i ho) hm)
theorem vt_inS (i : Nat) (hu : X.A.units + 65 < cLine) (hx : PE X idx (lX X.K τ)) (ho : PE X o (tVar i)) (hm : behindInMarks .In o = false := by rfl) : PT X (.Compare idx [.In] [o] pos) (lT X.K (tInS i τ)) :=
  vt_alt i (vt_din i (by omega) hx ho hm) (vt_cmp (o2_in hu) hx (vx_var i ho) hm)
theorem vt_notInS (i : Nat) (hu : X.A.units + 65 < cLine) (hx : PE X idx (lX X.K τ)) (ho : PE X o (tVar i)) (hm : behindInMarks .NotIn o = false := by rfl) : PT X (.Compare idx [.NotIn] [o] pos) (lT X.K (tNotInS i τ)) :=
  vt_alt i (vt_dnotin i (by omega) hx ho hm) (vt_cmp (o2_notIn hu) hx (vx_var i ho) hm)
end

/-! ### calls with keywords -/
def perm {α : Type} (np nk : Nat) (idx : List Nat) (us ws : List α) : List α := if us.length = np ∧ ws.length = nk then idx.filterMap ((us ++ ws)[·]?) else []
theorem perm_vals {np nk : Nat} {idx : List Nat} {vs : List V} {us : List Value} {zs : List V} {ws : List Value} (a : Vals vs us) (b : Vals zs ws) : Vals (perm np nk idx vs zs) (perm np nk idx us ws) := by
  unfold perm
  rw [a.length, b.length]
  split
  · have ab : Vals (vs ++ zs) (us ++ ws) := a.append b
    have at_ : ∀ (l : List V) (m : List Value), Vals l m → ∀ i : Nat, (l[i]? = none ∧ m[i]? = none) ∨ ∃ x u, l[i]? = some x ∧ m[i]? = some u ∧ RelV x u := by
      intro l m r
      induction r with
      | nil => intro i; exact .inl ⟨by simp, by simp⟩
      | cons h t ih =>
        intro i
        cases i with
        | zero => exact .inr ⟨_, _, rfl, rfl, h⟩
        | succ i => simpa using ih i
    induction idx with
    | nil => exact .nil
    | cons i idx ih =>
      rw [List.filterMap_cons, List.filterMap_cons]
      rcases at_ _ _ ab i with ⟨z1, z2⟩ | ⟨x, u, z1, z2, r⟩
      · simp only [z1, z2]; exact ih
      · simp only [z1, z2]; exact .cons r ih
  · exact .nil
theorem perm_rp {K : PySem.W.Frag} {F : Hp} {np nk : Nat} {idx : List Nat} {vs zs : List V} {ds es : List PyData} (a : RpAll K F vs ds) (b : RpAll K F zs es) : RpAll K F (perm np nk idx vs zs) (perm np nk idx ds es) := by
  unfold perm
  rw [a.length, b.length]
  split
  · have ab := a.append b
    induction idx with
    | nil => exact .nil
    | cons i idx ih =>
      rw [List.filterMap_cons, List.filterMap_cons]
      cases z : (vs ++ zs)[i]? with
      | none =>
        have : (ds ++ es)[i]? = none := by
          have := List.getElem?_eq_none_iff.mp z
          rw [ab.length] at this
          exact List.getElem?_eq_none this
        simp only [this]; exact ih
      | some x =>
        obtain ⟨d, e1, r⟩ := ab.get z
        simp only [e1]; exact .cons r ih
  · exact .nil
theorem kbinds_of {K : PySem.W.Frag} {x qual : Str} {st : Stmt} {f : Addr} {fd : FuncData} {ps ks : List Str} {np : Nat} {idx : List Nat} (F : Fun K x qual st f fd) (hne : ps ≠ [])
    (h : ∀ (kV doc pm : Value) (an : Option Addr) (cdv ct : Value) (us ws : List Value), us.length = np → ws.length = ks.length →
      bindArgs (PySem.W.fnOf x qual (defArgs st) (defBody st) (defScope st) .none kV doc pm an cdv ct) ⟨us, ks.zip ws⟩ = pure (ps.zip (idx.filterMap ((us ++ ws)[·]?)))) : KBinds K fd ps ks (perm np ks.length idx) (perm np ks.length idx) := by
  obtain ⟨oc, od, kV, doc, pm, an, cdv, ct, osl, rfl, lk, hcd⟩ := F.ex
  refine ⟨fun s us ws _ hl => ?_, fun a b => perm_vals a b⟩
  unfold perm at hl ⊢
  by_cases c : us.length = np ∧ ws.length = ks.length
  · rw [if_pos c]
    exact BindsTo.of_eq (h kV doc pm an cdv ct us ws c.1 c.2)
  · rw [if_neg c] at hl
    exact absurd (List.eq_nil_of_length_eq_zero hl.symm) hne
abbrev lK := lA
section
variable {X : Cx} {k : Nat} {f : Addr} {fd : FuncData} {ps ks : List Str} {x : Str} {p pos kpos : Pos} {e : Expr} {es : List Expr} {kws : List Keyword} {nm : Option Str} {τ : EX} {τs τk : EA} {np : Nat} {idx : List Nat}
theorem pk_imp {t t' : TA} (h : PK X kws t) (i : ∀ σ H Q, t' σ H Q → t σ H Q) : PK X kws t' := ⟨fun pos pins s σ H Q I q => h.run pos pins s σ H Q I (i σ H Q q)⟩
theorem vk_nil : PK X [] (lA X.K aNil) := pk_imp pk_nil fun σ H QV ⟨pn, Z, F, Γ, hh, Q, A, q, k⟩ => k F Γ hh H [] [] (Same.refl _) A rfl q
theorem vk_cons (ha : PE X e (lX X.K τ)) (hr : PK X kws (lA X.K τs)) : PK X (⟨nm, e, kpos⟩ :: kws) (lA X.K (aCons τ τs)) :=
  pk_imp (pk_cons ha hr) fun σ H QV ⟨pn, Z, F, Γ, hh, Q, A, q, k⟩ =>
    ⟨pn, Z, F, Γ, hh, _, A, q, fun F1 Γ1 h1 H1 a1 x s1 A1 r1 q1 => ⟨pn, Z, F1, Γ1, h1, _, A1, q1, fun F2 Γ2 h2 H2 as vs s2 A2 r2 q2 =>
      k F2 Γ2 h2 H2 (a1 :: as) (x :: vs) (s1.trans s2) A2 ⟨x, vs, rfl, r1.mono s2, r2⟩ q2⟩⟩
def eCallK (wp : W0) (np nk : Nat) (idx : List Nat) (τs τk : EA) : EO := fun Γ Q => τs Γ fun as Γ1 => τk Γ1 fun bs Γ2 => ∃ ds es, unD as = some ds ∧ unD bs = some es ∧ wp (perm np nk idx ds es) fun o => Q o Γ2
theorem callK_read {wp : W0} {E : XK} {nk : Nat} {σ : St} {H : Hp} {QV : VK} (h : lO X.K (eCallK wp np nk idx τs τk) σ H QV) : tCallK (toSp0 X.K wp) (perm np nk idx) E (lA X.K τs) (lA X.K τk) σ H QV := by
  obtain ⟨pn, Z, F, Γ, hh, Q, A, q, kk⟩ := h
  refine ⟨pn, Z, F, Γ, hh, _, A, q, fun F1 Γ1 h1 H1 as vs s1 A1 r1 q1 => ⟨pn, Z, F1, Γ1, h1, _, A1, q1, fun F2 Γ2 h2 H2 bs ws s2 A2 r2 ⟨ds, es, e1, e2, q2⟩ => ?_⟩⟩
  rw [unD_eq e1] at r1
  rw [unD_eq e2] at r2
  exact ⟨F2, _, _, A2.FH, perm_rp (args_d (r1.mono s2)) (args_d r2), q2, A2.post (s1.trans s2) kk⟩
theorem vo_callK {wp : W0} (G : FnOk X.prog X.w X.K X.mg X.base CX0 k f fd ps (toSp0 X.K wp)) (hr : Room k X.A) (hg : Gl X x) (hm : X.mg x = some (.ref f)) (hk : PySem.W.keepIn X.K (.ref f) = true) {nk : Nat} (hb : KBinds X.K fd ps ks (perm np nk idx) (perm np nk idx))
    (ha : PA X (e :: es) (lA X.K τs)) (hkw : PK X kws (lA X.K τk)) (hall : (backToKw pos (keywordEach kws X.env)).all (·.1.isSome) = true := by rfl) (hks : (backToKw pos (keywordEach kws X.env)).filterMap (·.1) = ks := by rfl)
    (hdb : (x == ("__debug__" : Str)) = false := by decide) (he : starEach (e :: es) X.env = (false, eval e X.env) :: starEach es X.env := by rfl)
    (hpl : ((backTo pos (starEach (e :: es) X.env)).any (·.1) || (backToKw pos (keywordEach kws X.env)).any (·.1.isNone)) = false := by rfl) :
    PE X (.Call (.Name x p) (e :: es) kws pos) (lO X.K (eCallK wp np nk idx τs τk)) := pe_imp (pe_callK G hr hg hm hk hb pass0 ha hkw hall hks hdb he hpl) fun σ H QV h => callK_read h
theorem pe_callK0 {CX : CXT} {sp : Sp} {E : XK} {g : List Value → List Value → List Value} {gV : List V → List V → List V} {tk : TA} (F : FnOk X.prog X.w X.K X.mg X.base CX k f fd ps sp) (hr : Room k X.A) (hg : Gl X x) (hm : X.mg x = some (.ref f)) (hk : PySem.W.keepIn X.K (.ref f) = true) (hb : KBinds X.K fd ps ks g gV) (hx : Passes CX X E)
    (hkw : PK X kws tk) (hall : (backToKw pos (keywordEach kws X.env)).all (·.1.isSome) = true := by rfl) (hks : (backToKw pos (keywordEach kws X.env)).filterMap (·.1) = ks := by rfl) (hdb : (x == ("__debug__" : Str)) = false := by decide)
    (hpl : ((backTo pos (starEach [] X.env)).any (·.1) || (backToKw pos (keywordEach kws X.env)).any (·.1.isNone)) = false := by rfl) : PE X (.Call (.Name x p) [] kws pos) (tCallK sp gV E tNil tk) := by
  refine ⟨fun pins s σ H Q I h => ?_⟩
  refine wpAny_Call_Name_kw (ld_glob I hg hm ?_ hdb)
  refine PySem.W.callWith_KW0 (h₀ := X.base) I.ok.mod.kin hk hall (thn (hkw.run pos pins s σ H _ I h) fun ws s2 ⟨zs, H2, I2, rz, q2⟩ => ⟨I2.kIn, ?_⟩) hpl
  rw [hks]
  exact run_fnk (us := []) F hr hb hx I2 .nil rz q2
theorem vo_callK0 {wp : W0} (G : FnOk X.prog X.w X.K X.mg X.base CX0 k f fd ps (toSp0 X.K wp)) (hr : Room k X.A) (hg : Gl X x) (hm : X.mg x = some (.ref f)) (hk : PySem.W.keepIn X.K (.ref f) = true) {nk : Nat} (hb : KBinds X.K fd ps ks (perm 0 nk idx) (perm 0 nk idx))
    (hkw : PK X kws (lA X.K τk)) (hall : (backToKw pos (keywordEach kws X.env)).all (·.1.isSome) = true := by rfl) (hks : (backToKw pos (keywordEach kws X.env)).filterMap (·.1) = ks := by rfl)
    (hdb : (x == ("__debug__" : Str)) = false := by decide)
    (hpl : ((backTo pos (starEach [] X.env)).any (·.1) || (backToKw pos (keywordEach kws X.env)).any (·.1.isNone)) = false := by rfl) :
    PE X (.Call (.Name x p) [] kws pos) (lO X.K (eCallK wp 0 nk idx aNil τk)) := pe_imp (pe_callK0 G hr hg hm hk hb pass0 hkw hall hks hdb hpl) fun σ H QV h => by
  obtain ⟨pn, Z, F, Γ, hh, Q, A, q, kk⟩ := h
  refine ⟨pn, Z, F, Γ, hh, _, A, q, fun F2 Γ2 h2 H2 bs ws s2 A2 r2 ⟨ds, es, e1, e2, q2⟩ => ?_⟩
  cases e1
  rw [unD_eq e2] at r2
  exact ⟨F2, _, _, A2.FH, perm_rp (ds := []) .nil (args_d r2), q2, A2.post s2 kk⟩
end
end VL
end
section
namespace VL
open PySem PySem.Spec L2

/-! ### steps of the later rules -/
section
variable {Γ Γ' : Ga} {Q : O → Ga → Prop} {QX : Av → Ga → Prop} {QA : List Av → Ga → Prop} {QT : Bool → Ga → Prop} {QOS : List O → Ga → Prop} {QE : Nat → Nat → Ga → Prop} {QO : O → Prop} {D : En} {τ τ' τk : EX} {to to' : EO} {τs τkw : EA} {tos : EAO} {te : EE} {t u : ES} {tt tu : ET} {d e : PyData} {o : O} {i j k : Nat} {b c : Bool} {ds es as : List PyData} {ts : List O} {x y : Int} {kk : List (Key × PyData)}
theorem st_ixD (he : Γ[i]? = some (some o)) (h1 : isDic Γ i = false) (h2 : isTr Γ i = false) (h : τ Γ fun a Γ2 => ∃ d1 d2, rslv Γ2 (.s i) = some d1 ∧ rslv Γ2 a = some d2 ∧ opIx d1 d2 fun o => Q o Γ2) : eIxS i τ Γ Q := by
  unfold eIxS oAlt
  rw [h1]
  show oAltT _ _ _ _ _
  unfold oAltT
  rw [h2]
  exact ⟨⟨o, he⟩, h⟩
theorem st_ixT (he : Γ[i]? = some (some (.fz (.tuple ds)))) (h : τ Γ fun a Γ2 => ∃ d1 d2, rslv Γ2 (.s i) = some d1 ∧ rslv Γ2 a = some d2 ∧ opIx d1 d2 fun o => Q o Γ2) : eIxS i τ Γ Q :=
  st_ixD he (by unfold isDic; rw [he]) (by unfold isTr; rw [he]) h
theorem st_ixF (he : Γ[i]? = some (some (.fz (.list ds)))) (h : τ Γ fun a Γ2 => ∃ d1 d2, rslv Γ2 (.s i) = some d1 ∧ rslv Γ2 a = some d2 ∧ opIx d1 d2 fun o => Q o Γ2) : eIxS i τ Γ Q :=
  st_ixD he (by unfold isDic; rw [he]) (by unfold isTr; rw [he]) h
theorem st_ixLs (he : Γ[i]? = some (some (.ls ds))) (h : τ Γ fun a Γ2 => ∃ d1 d2, rslv Γ2 (.s i) = some d1 ∧ rslv Γ2 a = some d2 ∧ opIx d1 d2 fun o => Q o Γ2) : eIxS i τ Γ Q :=
  st_ixD he (by unfold isDic; rw [he]) (by unfold isTr; rw [he]) h
theorem st_ixS' {z : Str} (he : Γ[i]? = some (some (.fz (.str z)))) (h : τ Γ fun a Γ2 => ∃ d1 d2, rslv Γ2 (.s i) = some d1 ∧ rslv Γ2 a = some d2 ∧ opIx d1 d2 fun o => Q o Γ2) : eIxS i τ Γ Q :=
  st_ixD he (by unfold isDic; rw [he]) (by unfold isTr; rw [he]) h
theorem st_el (he : Γ[i]? = some (some (.tr ts))) (h : τ Γ fun a Γ1 => ∃ ts z k, Γ1[i]? = some (some (.tr ts)) ∧ rslv Γ1 a = some (.int z) ∧ ixN ts.length z = some k ∧ QE i k Γ1) : eEl i τ Γ QE := ⟨⟨ts, he⟩, h⟩
theorem st_ixTr (he : Γ[i]? = some (some (.tr ts))) (h : τ Γ fun a Γ1 => ∃ ts z k, Γ1[i]? = some (some (.tr ts)) ∧ rslv Γ1 a = some (.int z) ∧ ixN ts.length z = some k ∧ ∃ ts o d Γ2, Γ1[i]? = some (some (.tr ts)) ∧ ts[k]? = some o ∧ o.frz = some d ∧ setG Γ1 i (some (.tr (ts.set k (.fz d)))) = some Γ2 ∧ Q (.fz d) Γ2) : eIxS i τ Γ Q := by
  have h1 : isDic Γ i = false := by unfold isDic; rw [he]
  have h2 : isTr Γ i = true := by unfold isTr; rw [he]
  unfold eIxS oAlt
  rw [h1]
  show oAltT _ _ _ _ _
  unfold oAltT
  rw [h2]
  show oX (xEl (eEl i τ)) Γ Q
  unfold oX xEl eEl
  refine ⟨⟨ts, he⟩, ?_⟩
  have mono : ∀ {R R' : Av → Ga → Prop}, R = R' → τ Γ R → τ Γ R' := fun e h => e ▸ h
  refine mono ?_ h
  funext a Γ1
  apply propext
  constructor
  · rintro ⟨ts, z, k, a1, a2, a3, ts', o, d, Γ2, b1, b2, b3, b4, q⟩
    exact ⟨ts, z, k, a1, a2, a3, ts', o, d, Γ2, b1, b2, b3, b4, d, rfl, q⟩
  · rintro ⟨ts, z, k, a1, a2, a3, ts', o, d, Γ2, b1, b2, b3, b4, d', e, q⟩
    cases e
    exact ⟨ts, z, k, a1, a2, a3, ts', o, d, Γ2, b1, b2, b3, b4, q⟩
theorem st_ixDic (he : dicG Γ i = some kk) (hd : isDic Γ i = true) (h : τ Γ fun a Γ1 => ∃ kk k d, dicG Γ1 i = some kk ∧ rslv Γ1 a = some (kD k) ∧ kGet kk k = some d ∧ Q (.fz d) Γ1) : eIxS i τ Γ Q := by
  unfold eIxS oAlt
  rw [hd]
  exact ⟨⟨kk, he⟩, h⟩
theorem st_lenT (he : Γ[i]? = some (some (.tr ts))) (h : Q (.fz (.int (ts.length : Nat))) Γ) : eLenS i Γ Q := by unfold eLenS; rw [he]; exact h
theorem st_lenD (d : PyData) (he : rslv Γ (.s i) = some d) (h : cdLen [d] fun o => Q o Γ) : eLenS i Γ Q := by
  unfold eLenS
  split
  · rename_i ts e
    simp [rslv, e] at he
  · exact ⟨d, he, h⟩
theorem st_cbe {cd : List PyData → (O → Prop) → Prop} (h : te Γ fun i k Γ1 => ∃ o d, elG Γ1 i k = some o ∧ elD o = some d ∧ cd [d] fun o => Q o Γ1) : eCBE cd te Γ Q := h
theorem st_true (h : te Γ fun i k Γ1 => ∃ o d c, elG Γ1 i k = some o ∧ elD o = some d ∧ truD d = some c ∧ QT c Γ1) : tTruE te Γ QT := h
theorem st_ixe {op : PyData → PyData → (O → Prop) → Prop} (h : te Γ fun i k Γ1 => ∃ o1 ts Γ2, o1 = .tr ts ∧ Γ1[i]? = some (some o1) ∧ setG Γ1 i none = some Γ2 ∧ τ Γ2 fun a Γ3 => ∃ el d1 d2 Γ4, rslv Γ3 a = some d2 ∧ ts[k]? = some el ∧ elD el = some d1 ∧ setG Γ3 i (some o1) = some Γ4 ∧ op d1 d2 fun o => Q o Γ4) : eIxE op te τ Γ Q := h
theorem st_app {tb : Bool} (hl : listG Γ i) (h : to Γ fun o Γ1 => appO tb i o Γ1 Q) : eApp tb i to Γ Q := ⟨hl, h⟩
theorem listG_ls (he : Γ[i]? = some (some (.ls ds))) : listG Γ i := .inl ⟨ds, he⟩
theorem listG_tr (he : Γ[i]? = some (some (.tr ts))) : listG Γ i := .inr ⟨ts, he⟩
theorem st_appL (he : Γ[i]? = some (some (.ls ds))) (hz : ds.length < sizeLine) (hd : o.frz = some d) (hs : setG Γ i (some (.ls (ds ++ [d]))) = some Γ') (h : Q (.fz .none) Γ') : appO false i o Γ Q := by
  unfold appO
  rw [he]
  exact ⟨hz, by rw [if_neg Bool.false_ne_true]; exact ⟨d, hd, Γ', hs, h⟩⟩
theorem st_appN (he : Γ[i]? = some (some (.ls ds))) (hz : ds.length < sizeLine) (hs : setG Γ i (some (.tr (ds.map .fz ++ [o]))) = some Γ') (h : Q (.fz .none) Γ') : appO true i o Γ Q := by
  unfold appO
  rw [he]
  exact ⟨hz, by rw [if_pos rfl]; exact ⟨Γ', hs, h⟩⟩
theorem st_appT {tb : Bool} (he : Γ[i]? = some (some (.tr ts))) (hz : ts.length < sizeLine) (hs : setG Γ i (some (.tr (ts ++ [o]))) = some Γ') (h : Q (.fz .none) Γ') : appO tb i o Γ Q := by
  unfold appO
  rw [he]
  exact ⟨hz, Γ', hs, h⟩
theorem st_popL (he : Γ[i]? = some (some (.ls ds))) (hx : ds[ds.length - 1]? = some d) (hs : setG Γ i (some (.ls ds.dropLast)) = some Γ') (h : Q (.fz d) Γ') : ePop i Γ Q := by
  unfold ePop; rw [he]; exact ⟨d, Γ', hx, hs, h⟩
theorem st_popT (he : Γ[i]? = some (some (.tr ts))) (hx : ts[ts.length - 1]? = some o) (hs : setG Γ i (some (.tr ts.dropLast)) = some Γ') (h : Q o Γ') : ePop i Γ Q := by
  unfold ePop; rw [he]; exact ⟨o, Γ', hx, hs, h⟩
theorem st_putS (hd : isDic Γ i = false) (h : sPut i τ to D Γ) : sPutS i τ τ' to D Γ := by
  unfold sPutS sAlt; rw [hd]; exact h
theorem st_putSD (hd : isDic Γ i = true) (h : sDPutS i τ τ' D Γ) : sPutS i τ τ' to D Γ := by
  unfold sPutS sAlt; rw [hd]; exact h
theorem st_put (h : to Γ fun o Γ1 => (∃ o1, Γ1[i]? = some (some o1) ∧ (∃ ts, o1 = .tr ts ∨ ∃ ds, o1 = .ls ds)) ∧ τ Γ1 fun a Γ2 => ∃ z k Γ3, rslv Γ2 a = some (.int z) ∧
  ((∃ ts, Γ2[i]? = some (some (.tr ts)) ∧ ixN ts.length z = some k ∧ setG Γ2 i (some (.tr (ts.set k o))) = some Γ3) ∨ (∃ ds d, Γ2[i]? = some (some (.ls ds)) ∧ o.frz = some d ∧ ixN ds.length z = some k ∧ setG Γ2 i (some (.ls (ds.set k d))) = some Γ3)) ∧ D.nx Γ3) : sPut i τ to D Γ := h
theorem st_dput (h : τ' Γ fun av Γ1 => (∃ kk, Γ1[i]? = some (some (.dk kk))) ∧ ∃ d, av = .d d ∧ τ Γ1 fun a Γ2 => ∃ kk k Γ3, Γ2[i]? = some (some (.dk kk)) ∧ rslv Γ2 a = some (kD k) ∧ kk.length < sizeLine ∧ setG Γ2 i (some (.dk (kPut kk k d))) = some Γ3 ∧ D.nx Γ3) : sDPutS i τ τ' D Γ := h
theorem st_in (hd : isDic Γ i = false) (h : τ Γ fun a Γ1 => xVar i Γ1 fun a2 Γ2 => ∃ d1 d2, rslv Γ2 a = some d1 ∧ rslv Γ2 a2 = some d2 ∧ opIn d1 d2 fun o => Q o Γ2) : eInS i τ Γ Q := by unfold eInS oAlt; rw [hd]; exact h
theorem st_notin (hd : isDic Γ i = false) (h : τ Γ fun a Γ1 => xVar i Γ1 fun a2 Γ2 => ∃ d1 d2, rslv Γ2 a = some d1 ∧ rslv Γ2 a2 = some d2 ∧ opNotIn d1 d2 fun o => Q o Γ2) : eNotInS i τ Γ Q := by unfold eNotInS oAlt; rw [hd]; exact h
theorem st_tin (hd : isDic Γ i = false) (h : τ Γ fun a Γ1 => xVar i Γ1 fun a2 Γ2 => ∃ d1 d2, rslv Γ2 a = some d1 ∧ rslv Γ2 a2 = some d2 ∧ opIn d1 d2 fun o => ∃ b, o = .fz (.bool b) ∧ QT b Γ2) : tInS i τ Γ QT := by unfold tInS tAlt; rw [hd]; exact h
theorem st_tnotin (hd : isDic Γ i = false) (h : τ Γ fun a Γ1 => xVar i Γ1 fun a2 Γ2 => ∃ d1 d2, rslv Γ2 a = some d1 ∧ rslv Γ2 a2 = some d2 ∧ opNotIn d1 d2 fun o => ∃ b, o = .fz (.bool b) ∧ QT b Γ2) : tNotInS i τ Γ QT := by unfold tNotInS tAlt; rw [hd]; exact h
theorem st_din (hd : isDic Γ i = true) (h : τ Γ fun a Γ1 => ∃ kk k, dicG Γ1 i = some kk ∧ rslv Γ1 a = some (kD k) ∧ Q (.fz (.bool (kGet kk k).isSome)) Γ1) : eInS i τ Γ Q := by unfold eInS oAlt; rw [hd]; exact h
theorem st_dnotin (hd : isDic Γ i = true) (h : τ Γ fun a Γ1 => ∃ kk k, dicG Γ1 i = some kk ∧ rslv Γ1 a = some (kD k) ∧ Q (.fz (.bool !(kGet kk k).isSome)) Γ1) : eNotInS i τ Γ Q := by unfold eNotInS oAlt; rw [hd]; exact h
theorem st_tdin (hd : isDic Γ i = true) (h : τ Γ fun a Γ1 => ∃ kk k, dicG Γ1 i = some kk ∧ rslv Γ1 a = some (kD k) ∧ ∃ b, O.fz (.bool (kGet kk k).isSome) = .fz (.bool b) ∧ QT b Γ1) : tInS i τ Γ QT := by unfold tInS tAlt; rw [hd]; exact h
theorem st_tdnotin (hd : isDic Γ i = true) (h : τ Γ fun a Γ1 => ∃ kk k, dicG Γ1 i = some kk ∧ rslv Γ1 a = some (kD k) ∧ ∃ b, O.fz (.bool !(kGet kk k).isSome) = .fz (.bool b) ∧ QT b Γ1) : tNotInS i τ Γ QT := by unfold tNotInS tAlt; rw [hd]; exact h
theorem st_dnew (h : Q (.dk []) Γ) : eDNew Γ Q := h
theorem st_ao0 (h : QOS [] Γ) : aoNil Γ QOS := h
theorem st_ao (h : to Γ fun o Γ1 => tos Γ1 fun os Γ2 => QOS (o :: os) Γ2) : aoCons to tos Γ QOS := h
theorem st_trl (h : tos Γ fun os Γ1 => os.length ≤ sizeLine ∧ Q (mkL os) Γ1) : eTrL tos Γ Q := h
theorem st_del (he : Γ[i]? = some (some (.ls ds))) (h : τ Γ fun a Γ1 => ∃ ds n Γ2, Γ1[i]? = some (some (.ls ds)) ∧ rslv Γ1 a = some (.int (n : Nat)) ∧ setG Γ1 i (some (.ls (ds.take n))) = some Γ2 ∧ D.nx Γ2) : sDel i τ D Γ := ⟨⟨ds, he⟩, h⟩
theorem st_callk {wp : W0} {np nk : Nat} {idx : List Nat} (h : τs Γ fun as Γ1 => τkw Γ1 fun bs Γ2 => ∃ ds es, unD as = some ds ∧ unD bs = some es ∧ wp (perm np nk idx ds es) fun o => Q o Γ2) : eCallK wp np nk idx τs τkw Γ Q := h
theorem cd_sortedL {QO : O → Prop} (hs : SortOk ds) (h : QO (.ls (ds.mergeSort (PySem.W.dataLe false id)))) : cdSorted [.list ds] QO := ⟨hs, h⟩
end
end VL
end
section
namespace VL
open PySem PySem.Spec L2

/-! ### a call that lends what slots own: the answer bears no reference -/
def flatD : PyData → Bool
  | .none => true
  | .bool _ => true
  | .int _ => true
  | .str _ => true
  | _ => false
theorem flat_rp {K : PySem.W.Frag} {F F' : Hp} {d : PyData} {v : V} (h : flatD d = true) (r : Rp K F v d) : Rp K F' v d := by
  cases r with
  | non => exact .non
  | bl b => exact .bl b
  | int b => exact .int b
  | str b => exact .str b
  | lst _ _ => cases h
  | tup _ _ => cases h
  | dct _ _ _ _ => cases h
  | scr _ => cases h
theorem rep_lent {K : PySem.W.Frag} {pn : List (Nat × V)} {Z F : Hp} {Γ : Ga} {σ : St} {h H : Hp} {a : Av} {v : V} {d : PyData} (A : At K pn Z F Γ σ h H) (r : ArgRel K F σ a v) (e : rslv Γ a = some d) : Rp K (jn h F) v d := by
  have sF : Same F (jn h F) := same_r A.hF
  cases a with
  | d x => cases e; exact Rp.mono sF r
  | s j =>
    cases e1 : Γ[j]? with
    | none => simp [rslv, e1] at e
    | some x =>
      cases x with
      | none => simp [rslv, e1] at e
      | some o =>
        obtain ⟨u, h1, h2, s1, eh, _, w, _⟩ := A.own.focus e1
        have r : σ[j]? = some (some v) := r
        rw [s1] at r; cases r
        cases o with
        | fz d' =>
          have e : some d' = some d := by simpa [rslv, e1] using e
          cases e
          exact Rp.mono sF (own_fz.mp w).2
        | ls ds =>
          have e : some (PyData.list ds) = some d := by simpa [rslv, e1] using e
          cases e
          obtain ⟨a, vs, rfl, rfl, q⟩ := own_ls.mp w
          refine .lst ?_ (RpAll.mono sF q)
          rw [eh]
          exact jn_l (jn_l one_at)
        | dk _ => simp [rslv, e1] at e
        | rs _ => simp [rslv, e1] at e
        | tr _ => simp [rslv, e1] at e
        | td _ _ => simp [rslv, e1] at e
theorem reps_lent {K : PySem.W.Frag} {pn : List (Nat × V)} {Z F : Hp} {Γ : Ga} {σ : St} {h H : Hp} (A : At K pn Z F Γ σ h H) : ∀ {as : List Av} {vs : List V} {ds : List PyData}, ArgsRel K F σ as vs → rsAll Γ as = some ds → RpAll K (jn h F) vs ds
  | [], _, ds, r, e => by cases e; cases r; exact .nil
  | a :: as, _, ds, ⟨v, vr, e0, r, t⟩, e => by
    unfold rsAll at e
    split at e
    · rename_i d ds' h1 h2
      cases e; cases e0
      exact .cons (rep_lent A r h1) (reps_lent A t h2)
    · cases e
/-- what was lent is taken back -/
def off (h F : Hp) : Hp := fun a => match h a with | none => F a | some _ => none
theorem off_of {h F : Hp} {a : Addr} (e : h a = none) : off h F a = F a := by unfold off; rw [e]
theorem off_in {h F : Hp} {a : Addr} {o : HO} (e : h a = some o) : off h F a = none := by unfold off; rw [e]
theorem At.back {K : PySem.W.Frag} {pn : List (Nat × V)} {Z F F' : Hp} {Γ : Ga} {σ : St} {h H H' : Hp} (A : At K pn Z F Γ σ h H) (g : Grow (jn h F) H F' H') : Same F (off h F') ∧ At K pn Z (off h F') Γ σ h H' := by
  have s1 : Same F (off h F') := fun a o e => by
    have : h a = none := by
      rcases A.hF a with z | z
      · exact z
      · rw [z] at e; cases e
    rw [off_of this]
    exact g.fs _ _ (same_r A.hF _ _ e)
  have s2 : Same (off h F') F' := fun a o e => by
    cases z : h a with
    | none => rw [off_of z] at e; exact e
    | some u => rw [off_in z] at e; cases e
  refine ⟨s1, A.own.mono s1, A.hH.trans g.hh, s2.trans g.fh, A.ZH.trans g.hh, ?_, fun a => ?_, A.hZ, A.pin⟩
  · exact fun a => by
      cases z : off h F' a with
      | none => exact .inl rfl
      | some u =>
        right
        have e := s2 _ _ z
        rcases g.nw a (by rw [e]; simp) with y | y
        · cases zh : h a with
          | some w => rw [off_in zh] at z; cases z
          | none =>
            rw [jn_r zh] at y
            rcases A.FZ a with x | x
            · exact absurd x y
            · exact x
        · exact A.ZH.free y
  · cases z : h a with
    | none => exact .inl rfl
    | some u => exact .inr (off_in z)
def eCallB (wp : W0) (dds : List PyData) (τs : EA) : EO := fun Γ Q => τs Γ fun as Γ1 => ∃ ds, rsAll Γ1 as = some ds ∧ wp (ds ++ dds) fun o => ∃ d, o = .fz d ∧ flatD d = true ∧ Q (.fz d) Γ1
section
variable {X : Cx} {k : Nat} {f : Addr} {fd : FuncData} {ps : List Str} {x : Str} {p pos : Pos} {e : Expr} {es : List Expr} {τs : EA} {dvs : List V} {ds : List Value} {dds : List PyData}
theorem callB_read {wp : W0} (hdd : ∀ F, RpAll X.K F dvs dds) {E : XK} {σ : St} {H : Hp} {QV : VK} (h : lO X.K (eCallB wp dds τs) σ H QV) : tCall (toSp0 X.K wp) dvs E (lA X.K τs) σ H QV := by
  obtain ⟨pn, Z, F, Γ, hh, Q, A, q, kk⟩ := h
  refine ⟨pn, Z, F, Γ, hh, _, A, q, fun F1 Γ1 h1 H1 as vs s1 A1 r1 ⟨ds', e1, q1⟩ => ?_⟩
  refine ⟨jn h1 F1, ds' ++ dds, _, same_jn A1.hH A1.FH, (reps_lent A1 r1 e1).append (hdd _), q1, fun F' hr H' o v g w sr d nw ⟨dd, eo, fl, q2⟩ => ?_⟩
  subst eo
  obtain ⟨sF, A'⟩ := A1.back g
  exact kk _ Γ1 h1 emp H' (.fz dd) v (s1.trans sF) A'.alone ⟨rfl, flat_rp fl (own_fz.mp w).2⟩ q2
theorem vo_callB {wp : W0} (G : FnOk X.prog X.w X.K X.mg X.base CX0 k f fd ps (toSp0 X.K wp)) (hr : Room k X.A) (hg : Gl X x) (hm : X.mg x = some (.ref f)) (hk : PySem.W.keepIn X.K (.ref f) = true) (hb : Binds X.K fd ps ds) (hd : Vals dvs ds) (hdd : ∀ F, RpAll X.K F dvs dds)
    (ha : PA X (e :: es) (lA X.K τs)) (hdb : (x == ("__debug__" : Str)) = false := by decide) (he : starEach (e :: es) X.env = (false, eval e X.env) :: starEach es X.env := by rfl) (hpl : (backTo pos (starEach es X.env)).any (·.1) = false := by rfl) :
    PE X (.Call (.Name x p) (e :: es) [] pos) (lO X.K (eCallB wp dds τs)) := pe_imp (pe_call G hr hg hm hk hb hd pass0 ha hdb he hpl) fun σ H QV h => callB_read hdd h
end
theorem st_callB {Γ : Ga} {Q : O → Ga → Prop} {τs : EA} {wp : W0} {dds : List PyData} (h : τs Γ fun as Γ1 => ∃ ds, rsAll Γ1 as = some ds ∧ wp (ds ++ dds) fun o => ∃ d, o = .fz d ∧ flatD d = true ∧ Q (.fz d) Γ1) : eCallB wp dds τs Γ Q := h
end VL
end
section
namespace VL
open PySem PySem.Spec L2
section
variable {α : Type} {Γ Γ1 : Ga} {vs : List Nat} {ti : EI} {g : EG} {tt : ET} {to : EO} {Q : O → Ga → Prop}
theorem lcO_inv (xs : List α) (enc : α → PyData) (I : Nat → List O → Ga → Prop) (hi : IPure ti Γ (xs.map enc) Γ1) (pl : Plain Γ1 vs) (h0 : I 0 [] Γ1)
    (turn : ∀ i x acc Γ', xs[i]? = some x → I i acc Γ' → (∀ j ∈ vs, Γ'[j]? = Γ1[j]?) → ∃ Γw, nrm (wipeG Γ' vs) = some Γw ∧ g (enc x) Γw fun Γ2 => tt Γ2 fun b Γ3 => Br b (to Γ3 fun o Γ4 => acc.length < sizeLine ∧ ∃ Γb, nrm (backG Γ1 Γ4 vs) = some Γb ∧ I (i + 1) (acc ++ [o]) Γb) (∃ Γb, nrm (backG Γ1 Γ3 vs) = some Γb ∧ I (i + 1) acc Γb))
    (h : ∀ acc Γ', I xs.length acc Γ' → Q (.tr acc) Γ') : eLcO ti g tt to vs Γ Q := by
  refine hi _ ⟨pl, I, h0, fun i d acc Γ' e w sl => ?_, fun acc Γ' w => h acc Γ' (by rw [List.length_map] at w; exact w)⟩
  rw [List.getElem?_map] at e
  cases ex : xs[i]? with
  | none => rw [ex] at e; cases e
  | some x => rw [ex] at e; cases e; exact turn i x acc Γ' ex w sl
end
section
variable {Γ : Ga} {Q : O → Ga → Prop} {te : EE} {τs : EA} {τj τv : EX} {sm : SM} {D : En}
theorem st_sme (h : te Γ fun i k Γ1 => ∃ o1 ts Γ2 ds, o1 = .tr ts ∧ Γ1[i]? = some (some o1) ∧ setG Γ1 i none = some Γ2 ∧ ts[k]? = some (.ls ds) ∧ τs Γ2 fun as Γ3 => ∃ ads Γ4, unD as = some ads ∧ setG Γ3 i (some o1) = some Γ4 ∧ sm ds ads fun ds' d => ∃ Γ5, setG Γ4 i (some (.tr (ts.set k (.ls ds')))) = some Γ5 ∧ Q (.fz d) Γ5) : eSME sm te τs Γ Q := h
theorem st_sme0 (h : te Γ fun i k Γ1 => ∃ ts ds, Γ1[i]? = some (some (.tr ts)) ∧ ts[k]? = some (.ls ds) ∧ sm ds [] fun ds' d => ∃ Γ5, setG Γ1 i (some (.tr (ts.set k (.ls ds')))) = some Γ5 ∧ Q (.fz d) Γ5) : eSME0 sm te Γ Q := h
theorem st_pute (h : τv Γ fun av Γ1 => ∃ d, av = .d d ∧ te Γ1 fun i k Γ2 => ∃ o1 ts ds Γ3, o1 = .tr ts ∧ Γ2[i]? = some (some o1) ∧ ts[k]? = some (.ls ds) ∧ setG Γ2 i none = some Γ3 ∧ τj Γ3 fun a Γ4 => ∃ z j Γ5, rslv Γ4 a = some (.int z) ∧ ixN ds.length z = some j ∧ setG Γ4 i (some o1) = some Γ5 ∧ ∃ Γ6, setG Γ5 i (some (.tr (ts.set k (.ls (ds.set j d))))) = some Γ6 ∧ D.nx Γ6) : sPutE te τj τv D Γ := h
end
/-! a comprehension, a for, where what is walked is known later -/
def lcB (g : EG) (tt : ET) (te : EX) (vs : List Nat) (ds : List PyData) (Γ1 : Ga) (Q : O → Ga → Prop) : Prop := Plain Γ1 vs ∧ ∃ I : Nat → List PyData → Ga → Prop, I 0 [] Γ1 ∧
  (∀ i d acc Γ', ds[i]? = some d → I i acc Γ' → (∀ j ∈ vs, Γ'[j]? = Γ1[j]?) → ∃ Γw, nrm (wipeG Γ' vs) = some Γw ∧ g d Γw fun Γ2 => tt Γ2 fun b Γ3 => Br b (te Γ3 fun a Γ4 => ∃ y, a = .d y ∧ acc.length < sizeLine ∧ ∃ Γb, nrm (backG Γ1 Γ4 vs) = some Γb ∧ I (i + 1) (acc ++ [y]) Γb) (∃ Γb, nrm (backG Γ1 Γ3 vs) = some Γb ∧ I (i + 1) acc Γb)) ∧
  ∀ acc Γ', I ds.length acc Γ' → Q (.ls acc) Γ'
def forB (g : EG) (t : ES) (D : En) (ds : List PyData) (Γ1 : Ga) : Prop := ∃ I : Nat → Ga → Prop, I 0 Γ1 ∧ (∀ i d Γ', ds[i]? = some d → I i Γ' → g d Γ' fun Γ2 => t { D with nx := I (i + 1), ct := I (i + 1), bk := D.nx } Γ2) ∧ ∀ Γ', I ds.length Γ' → D.nx Γ'
theorem st_lc {ti : EI} {g : EG} {tt : ET} {te : EX} {vs : List Nat} {Γ : Ga} {Q : O → Ga → Prop} (h : ti Γ fun ds Γ1 => lcB g tt te vs ds Γ1 Q) : eLc ti g tt te vs Γ Q := h
theorem st_for {ti : EI} {g : EG} {t : ES} {D : En} {Γ : Ga} (h : ti Γ fun ds Γ1 => forB g t D ds Γ1) : sFor ti g t D Γ := h
theorem lcB_inv {α : Type} {g : EG} {tt : ET} {te : EX} {vs : List Nat} {Γ1 : Ga} {Q : O → Ga → Prop} {ds : List PyData} (xs : List α) (enc : α → PyData) (I : Nat → List PyData → Ga → Prop) (he : ds = xs.map enc) (pl : Plain Γ1 vs) (h0 : I 0 [] Γ1)
    (turn : ∀ i x acc Γ', xs[i]? = some x → I i acc Γ' → (∀ j ∈ vs, Γ'[j]? = Γ1[j]?) → ∃ Γw, nrm (wipeG Γ' vs) = some Γw ∧ g (enc x) Γw fun Γ2 => tt Γ2 fun b Γ3 => Br b (te Γ3 fun a Γ4 => ∃ y, a = .d y ∧ acc.length < sizeLine ∧ ∃ Γb, nrm (backG Γ1 Γ4 vs) = some Γb ∧ I (i + 1) (acc ++ [y]) Γb) (∃ Γb, nrm (backG Γ1 Γ3 vs) = some Γb ∧ I (i + 1) acc Γb))
    (h : ∀ acc Γ', I xs.length acc Γ' → Q (.ls acc) Γ') : lcB g tt te vs ds Γ1 Q := by
  subst he
  exact lc_inv (ti := fun Γ QI => QI (xs.map enc) Γ) xs enc I (fun QI q => q) pl h0 turn h
theorem forB_inv {α : Type} {g : EG} {t : ES} {D : En} {Γ1 : Ga} {ds : List PyData} (xs : List α) (enc : α → PyData) (I : Nat → Ga → Prop) (he : ds = xs.map enc) (h0 : I 0 Γ1)
    (turn : ∀ i x Γ', xs[i]? = some x → I i Γ' → g (enc x) Γ' fun Γ2 => t { D with nx := I (i + 1), ct := I (i + 1), bk := D.nx } Γ2) (hd : ∀ Γ', I xs.length Γ' → D.nx Γ') : forB g t D ds Γ1 := by
  subst he
  exact for_inv (ti := fun Γ QI => QI (xs.map enc) Γ) xs enc I (fun QI q => q) h0 turn hd
theorem br_nt {A B : Prop} (h : B) : Br (!true) A B := br_f h
theorem br_nf {A B : Prop} (h : A) : Br (!false) A B := br_t h
theorem op_isBl {b : Bool} {Q : O → Prop} (h : Q (.fz (.bool false))) : opIsN (.bool b) .none Q := ⟨rfl, h⟩
theorem op_isSt {x : Str} {Q : O → Prop} (h : Q (.fz (.bool false))) : opIsN (.str x) .none Q := ⟨rfl, h⟩
theorem op_isLs {ds : List PyData} {Q : O → Prop} (h : Q (.fz (.bool false))) : opIsN (.list ds) .none Q := ⟨rfl, h⟩
theorem shaped_str {x : Str} (h : PyData.strOk x = true) : shaped (.str x) := by unfold shaped SeqAt.shaped; simp [PyData.canLay0, PyData.depth, h]
theorem ixN_nat {n k : Nat} (h : k < n) : ixN n (k : Int) = some k := by
  unfold ixN
  rw [if_pos (by omega), if_pos (by omega)]
  rfl
theorem ixN_of {n k : Nat} {z : Int} (e : z = (k : Int)) (h : k < n) : ixN n z = some k := by rw [e]; exact ixN_nat h
theorem szI {n : Int} (h0 : 0 ≤ n) (h : n ≤ 1000000000) : -(2 ^ 62) ≤ n ∧ n < 2 ^ 62 := by omega
end VL
end
section
/-! sets of tuples (tuples of whole numbers, truth values, texts, None, such tuples), by their keys -/
namespace VS
open PySem PySem.Spec PyProof.Rows L2
section
variable {P : Program} {w : World} {E : Value → Shared → Prop}
/-! ### small questions about keys -/
def NoCl (P : Program) (w : World) (n : Nat) (s : Shared) (v : Value) : Prop := ∀ (A : Around) (E : Value → Shared → Prop) (Q : Bool → Shared → Prop), Q false s → wpAny (model P w) A (ofAClassStatement n v) Q E s
theorem NoCl.tup {n m : Nat} {s : Shared} {a : Addr} {u : Obj} {xs : Array Value} (g1 : s.heap.get? a = some u) (g2 : u.cls = .type "tuple") (g3 : u.data = .seq xs m) (g4 : ∀ x ∈ xs.toList, NoCl P w n s x) : NoCl P w (n + 1) s (.ref a) := fun A E Q q => by
  unfold ofAClassStatement
  refine wpAny_bind (wpAny_typeOf (show s.TypeIs (.ref a) "tuple" from ⟨u, g1, g2⟩) ?_)
  dsimp only
  have tt : (("tuple" : String) == "tuple") = true := by decide
  simp only [tt, if_true, Bool.not_true, Bool.false_eq_true, if_false]
  try refine wpAny_bind (wpAny_pure ?_)
  try simp only [Bool.not_true, Bool.false_eq_true, if_false]
  show wpAny _ _ (seqItems? (Value.ref a) >>= _) Q E s
  refine wpAny_bind (wpAny_seqItems g1 g3 ?_)
  dsimp only
  refine wpAny_bind ?_
  show wpAny _ _ (forIn xs _ _) _ E s
  rw [← Array.forIn_toList]
  refine wpAny_forIn_list _ (fun more acc s2 => s2 = s ∧ acc.1 = none ∧ ∀ x ∈ more, NoCl P w n s x) _ ?_ ?_ _ _ ⟨rfl, rfl, g4⟩
  · rintro x more acc s2 ⟨rfl, z, ok⟩
    refine wpAny_bind (ok x List.mem_cons_self _ _ _ ?_)
    simp only [Bool.false_eq_true, if_false]
    exact wpAny_pure ⟨rfl, rfl, fun y hy => ok y (List.mem_cons_of_mem _ hy)⟩
  · rintro ⟨acc, acc2⟩ s2 ⟨rfl, z, _⟩
    simp only at z
    subst z
    exact wpAny_pure q
mutual
theorem noCl_key : ∀ (k : NestedKey) (v : Value) (n : Nat) (s : Shared), NestedIs s.heap k v → k.depth ≤ n → NoCl P w n s v
  | .none, _, n, s, x, _ => fun A E Q q => by cases x; cases n <;> exact wpAny_pure q
  | .num i, _, n, s, x, _ => fun A E Q q => by cases x <;> cases n <;> exact wpAny_pure q
  | .text y, _, n, s, x, _ => fun A E Q q => by cases x; cases n <;> exact wpAny_pure q
  | .tup ks, _, n, s, x, hn => by
    cases x with
    | tup g1 g2 g3 g4 =>
      simp only [NestedKey.depth] at hn
      cases n with
      | zero => omega
      | succ n => exact .tup g1 g2 g3 (noCl_keys ks _ n s g4 (by omega))
theorem noCl_keys : ∀ (ks : List NestedKey) (vs : List Value) (n : Nat) (s : Shared), NestedAll s.heap ks vs → NestedKey.depthAll ks ≤ n → ∀ v ∈ vs, NoCl P w n s v
  | [], _, n, s, x, _, v, hv => by cases x; cases hv
  | k :: ks, _, n, s, x, hn, v, hv => by
    cases x with
    | cons x1 x2 =>
      simp only [NestedKey.depthAll] at hn
      rcases List.mem_cons.mp hv with e | hv
      · subst e; exact noCl_key k _ n s x1 (by omega)
      · exact noCl_keys ks _ n s x2 (by omega) v hv
end
def HaBy (P : Program) (w : World) (n : Nat) (s : Shared) (v : Value) : Prop := ∀ (A : Around) (E : Value → Shared → Prop) (Q : Bool → Shared → Prop), (∀ b, Q b s) → wpAny (model P w) A (hashByValue n v) Q E s
theorem HaBy.tup {n m : Nat} {s : Shared} {a : Addr} {u : Obj} {xs : Array Value} (g1 : s.heap.get? a = some u) (g2 : u.cls = .type "tuple") (g3 : u.data = .seq xs m) (g4 : ∀ x ∈ xs.toList, HaBy P w n s x) : HaBy P w (n + 1) s (.ref a) := fun A E Q q => by
  unfold hashByValue
  refine wpAny_bind (wpAny_specialOf (show s.TypeIs (.ref a) "tuple" from ⟨u, g1, g2⟩) PySem.F.slot_tuple_hash.lookup ?_)
  show wpAny _ _ (seqItems? (Value.ref a) >>= _) Q E s
  refine wpAny_bind (wpAny_seqItems g1 g3 ?_)
  refine wpAny_bind ?_
  show wpAny _ _ (forIn xs _ _) _ E s
  rw [← Array.forIn_toList]
  refine wpAny_forIn_list _ (fun more acc s2 => s2 = s ∧ acc.1 = none ∧ ∀ x ∈ more, HaBy P w n s x) _ ?_ ?_ _ _ ⟨rfl, rfl, g4⟩
  · rintro x more acc s2 ⟨rfl, z, ok⟩
    refine wpAny_bind (ok x List.mem_cons_self _ _ _ fun b => ?_)
    cases b
    · simp only [Bool.not_false, if_true]
      exact wpAny_pure (wpAny_pure (q _))
    · simp only [Bool.not_true, Bool.false_eq_true, if_false]
      exact wpAny_pure ⟨rfl, rfl, fun y hy => ok y (List.mem_cons_of_mem _ hy)⟩
  · rintro ⟨acc, acc2⟩ s2 ⟨rfl, z, _⟩
    simp only at z
    subst z
    exact wpAny_pure (q _)
mutual
theorem haBy_key : ∀ (k : NestedKey) (v : Value) (n : Nat) (s : Shared), NestedIs s.heap k v → k.depth ≤ n → HaBy P w n s v
  | .none, _, n, s, x, _ => fun A E Q q => by cases x; cases n <;> exact wpAny_pure (q _)
  | .num i, _, n, s, x, _ => fun A E Q q => by cases x <;> cases n <;> exact wpAny_pure (q _)
  | .text y, _, n, s, x, _ => fun A E Q q => by cases x; cases n <;> exact wpAny_pure (q _)
  | .tup ks, _, n, s, x, hn => by
    cases x with
    | tup g1 g2 g3 g4 =>
      simp only [NestedKey.depth] at hn
      cases n with
      | zero => omega
      | succ n => exact .tup g1 g2 g3 (haBy_keys ks _ n s g4 (by omega))
theorem haBy_keys : ∀ (ks : List NestedKey) (vs : List Value) (n : Nat) (s : Shared), NestedAll s.heap ks vs → NestedKey.depthAll ks ≤ n → ∀ v ∈ vs, HaBy P w n s v
  | [], _, n, s, x, _, v, hv => by cases x; cases hv
  | k :: ks, _, n, s, x, hn, v, hv => by
    cases x with
    | cons x1 x2 =>
      simp only [NestedKey.depthAll] at hn
      rcases List.mem_cons.mp hv with e | hv
      · subst e; exact haBy_key k _ n s x1 (by omega)
      · exact haBy_keys ks _ n s x2 (by omega) v hv
end
end
/-! ### the set -/
abbrev Elt := Addr × NestedKey
/-- the tuple at the address has the key -/
def IsK (h : Heap) (e : Elt) : Prop := NestedIs h e.2 (.ref e.1) ∧ e.2.depth ≤ 8
def rws (w : World) (L : List Elt) : List (Int × Value) := L.map fun e => (e.2.hash w, Value.ref e.1)
abbrev hss (w : World) (L : List Elt) : List Int := L.map fun e => e.2.hash w
structure SR (w : World) (h : Heap) (a : Addr) (L : List Elt) (es : Array (Int × Value)) (ep : Nat) (t : SetTable) : Prop where
  at' : ∃ u, h.get? a = some u ∧ u.ExactSet ∧ u.data = .set es ep t
  rw' : es.toList = rws w L
  tb : TabOk t (hss w L)
  nd : (L.map (·.2)).Nodup
  ks : ∀ e ∈ L, IsK h e
  ld : w.params.followText "set-order" = true ∨ t.led = true
  rm : L.length * 5 < t.mask * 3
  fw : L.length < 64
theorem IsK.tup {h : Heap} {a : Addr} {k : NestedKey} (x : IsK h (a, k)) : ∃ u xs n, h.get? a = some u ∧ u.data = .seq xs n := by
  obtain ⟨x, _⟩ := x
  cases x with
  | tup g1 g2 g3 g4 => exact ⟨_, _, _, g1, g3⟩
theorem IsK.keep {h h' : Heap} {e : Elt} (x : IsK h e) (g : ∀ b u xs n, h.get? b = some u → u.data = .seq xs n → h'.get? b = some u) : IsK h' e := ⟨NestedIs.at (fun b u xs n z1 z2 => g b u xs n z1 z2) _ _ x.1, x.2⟩
theorem IsK.but {h h' : Heap} {e : Elt} {a : Addr} {u : Obj} {es : Array (Int × Value)} {ep : Nat} {t : SetTable} (x : IsK h e) (g : h.get? a = some u) (d : u.data = .set es ep t) (sb : Heap.SameBut a h h') : IsK h' e :=
  x.keep fun b v xs n z1 z2 => (sb.2 b fun z => by subst z; rw [g] at z1; cases z1; rw [d] at z2; cases z2).trans z1
theorem eqK {P : Program} {w : World} {A : Around} {E : Value → Shared → Prop} {s : Shared} {x y : Elt} {Q : Bool → Shared → Prop} (hu : A.units + 8 < cLine) (hx : IsK s.heap x) (hy : IsK s.heap y) (q : Q (decide (x.2 = y.2)) s) : wpAny (model P w) A (eqBool (.ref x.1) (.ref y.1)) Q E s :=
  eqAt_key x.2 y.2 A s _ _ hx.1 hy.1 (by have := hx.2; omega) _ _ _ _ (by rw [← NestedKey.decide_eq]; exact q)
section
variable {P : Program} {w : World} {A : Around} {E : Value → Shared → Prop} {s : Shared} {a : Addr} {L : List Elt} {es : Array (Int × Value)} {ep : Nat} {t : SetTable}
theorem rws_len (R : es.toList = rws w L) : es.size = L.length := by
  rw [← Array.length_toList, R, rws, List.length_map]
theorem SR.sz (R : SR w s.heap a L es ep t) : es.size = L.length := rws_len R.rw'
theorem SR.pl (R : SR w s.heap a L es ep t) : t.place.size = L.length := by rw [R.tb.sz, List.length_map]
theorem fits_of (h1 : t.place.size = es.size) (h2 : t.dummies = #[]) (h3 : es.size ≤ t.mask) : t.fits es.size = true := by
  unfold SetTable.fits SetTable.fill
  rw [h2, Bool.and_eq_true, beq_iff_eq, decide_eq_true_eq]
  exact ⟨h1, by show t.place.size + 0 ≤ t.mask; omega⟩
theorem SR.ft (R : SR w s.heap a L es ep t) : t.fits es.size = true := fits_of (by rw [R.pl, R.sz]) R.tb.dm (by have := R.sz; have := R.rm; omega)
theorem SR.row (R : SR w s.heap a L es ep t) {i : Nat} {e : Elt} (g : L[i]? = some e) : es[i]? = some (e.2.hash w, Value.ref e.1) := by
  rw [← Array.getElem?_toList, R.rw', rws, List.getElem?_map, g]; rfl
theorem nodum (m : Nat) : ∀ (n : Nat) (p : SetTable.Probe), p.dummy = none → (nth m p n).dummy = none
  | 0, _, h => h
  | n + 1, p, h => nodum m n (adv m p) (by unfold adv; split <;> exact h)
/-- the way of a hash through a table -/
abbrev pth (t : SetTable) (h : Int) : Nat → SetTable.Probe := nth t.mask (runAt t.mask (SetTable.bits h % (t.mask + 1)) (SetTable.bits h))
theorem seen_no {x : Elt} (hx : IsK s.heap x) {ys : List Value} (hy : ∀ y ∈ ys, ∃ e, y = Value.ref e.1 ∧ IsK s.heap e) {Q : Bool → Shared → Prop} (q : Q false s) : wpAny (model P w) A (searchCouldBeSeen (.ref x.1) ys) Q E s := by
  unfold searchCouldBeSeen
  refine wpAny_bind ?_
  refine wpAny_forIn_list _ (fun more acc s2 => s2 = s ∧ acc.1 = none ∧ ∀ y ∈ more, ∃ e : Elt, y = Value.ref e.1 ∧ IsK s.heap e) _ ?_ ?_ _ _ ⟨rfl, rfl, hy⟩
  · rintro v more acc s2 ⟨rfl, z, ok⟩
    obtain ⟨e, rfl, he⟩ := ok v List.mem_cons_self
    have ok2 : ∀ y ∈ more, ∃ e : Elt, y = Value.ref e.1 ∧ IsK s2.heap e := fun y hy => ok y (List.mem_cons_of_mem _ hy)
    dsimp only
    by_cases c : (x.1 == e.1 || (carriedByValue (.ref x.1) && carriedByValue (.ref e.1))) = true
    · exact wp_if_pos c (wpAny_pure ⟨rfl, rfl, ok2⟩)
    · refine wp_if_neg c ?_
      refine wpAny_bind (quiet_key _ _ 8 _ hx.1 hx.2 _ _ _ ?_)
      simp only [Bool.not_true, Bool.false_eq_true, if_false]
      refine wpAny_bind (quiet_key _ _ 8 _ he.1 he.2 _ _ _ ?_)
      simp only [Bool.not_true, Bool.false_eq_true, if_false]
      refine wpAny_bind (noCl_key _ _ 8 _ hx.1 hx.2 _ _ _ ?_)
      simp only [Bool.false_eq_true, if_false]
      refine wpAny_bind (noCl_key _ _ 8 _ he.1 he.2 _ _ _ ?_)
      simp only [Bool.false_eq_true, if_false]
      exact wpAny_pure ⟨rfl, rfl, ok2⟩
  · rintro ⟨acc, acc2⟩ s2 ⟨rfl, z, _⟩
    simp only at z
    subst z
    exact wpAny_pure q
/-- behind a candidate -/
def onCand (a : Addr) (x : Value) (h : Int) (fuel : Nat) (es : Array (Int × Value)) (t : SetTable) (j i : Nat) (nxt : SetTable.Probe) : Sem SetFound := searchRest a x h true fuel es t j i nxt
theorem find (R : SR w s.heap a L es ep t) {x : Elt} (hx : IsK s.heap x) (hu : A.units + 8 < cLine) {M : Nat} (hM : M < 10 * SetTable.turns t.mask)
    (free : (pth t (x.2.hash w) M).j ∉ t.place.toList) (full : ∀ c, c < M → (pth t (x.2.hash w) c).j ∈ t.place.toList) {Q : SetFound → Shared → Prop}
    (yes : x.2 ∈ L.map (·.2) → Q (.there none) s) (no : x.2 ∉ L.map (·.2) → Q (.free (pth t (x.2.hash w) M).j false) s) :
    ∀ (fuel c : Nat) (st : Option SetTable.Probe), st.getD (t.probeStart (x.2.hash w)) = pth t (x.2.hash w) c → c ≤ M → M - c < fuel →
      (∀ (i : Nat) (e : Elt), L[i]? = some e → e.2 = x.2 → ∃ c2, c ≤ c2 ∧ c2 < M ∧ t.place.toList[i]? = some (pth t (x.2.hash w) c2).j) →
      wpAny (model P w) A (setSearchFrom a (.ref x.1) (x.2.hash w) true fuel st) Q E s
  | 0, _, _, _, _, z, _ => absurd z (Nat.not_lt_zero _)
  | fuel + 1, c, st, est, hc, hf, ahead => by
    obtain ⟨u, gu, ex, du⟩ := R.at'
    have shift : ∀ d, nth t.mask (pth t (x.2.hash w) c) d = pth t (x.2.hash w) (c + d) := fun d => (nth_add t.mask c _ d).symm
    have hashes : ∀ (i : Nat) (e : Elt), L[i]? = some e → (fun i => (es[i]?.map (·.1)).getD 0) i = e.2.hash w := fun i e g => by show (es[i]?.map (·.1)).getD 0 = _; rw [R.row g]; rfl
    rw [setSearchFrom_succ]
    refine wpAny_bind (wpAny_setState_of gu du R.ft ?_)
    dsimp only
    refine wp_if_neg (by unfold SetTable.gaveWay; rw [mask_odd R.tb.mok]; decide) ?_
    try refine wpAny_bind (wpAny_pure ?_)
    have sp := go_spec t R.tb.ris R.tb.dm (fun i => (es[i]?.map (·.1)).getD 0) (x.2.hash w) (10 * SetTable.turns t.mask) (M - c) (pth t (x.2.hash w) c) (nodum _ c _ rfl) (by omega)
      (fun d hd => by rw [shift]; exact full _ (by omega)) (by rw [shift, show c + (M - c) = M by omega]; exact free)
    rw [est]
    rcases sp with ⟨d, i, hd, pi, -, before, ans⟩ | ⟨before, ans⟩
    · rw [shift] at pi
      rw [shift, shift] at ans
      rw [show t.probe (fun i => (es[i]?.map (·.1)).getD 0) (x.2.hash w) (pth t (x.2.hash w) c) = _ from ans]
      dsimp only
      have il : i < L.length := by
        have := (List.getElem?_eq_some_iff.mp pi).1
        rw [Array.length_toList, R.pl] at this
        exact this
      obtain ⟨e, ge⟩ : ∃ e, L[i]? = some e := ⟨_, List.getElem?_eq_getElem il⟩
      have em := List.mem_of_getElem? ge
      have go : wpAny (model P w) A (onCand a (.ref x.1) (x.2.hash w) fuel es t (pth t (x.2.hash w) (c + d)).j i (pth t (x.2.hash w) (c + (d + 1)))) Q E s := by
        unfold onCand searchRest
        rw [R.row ge]
        dsimp only
        refine wpAny_bind (wpAny_holding (eqK hu (R.ks e em) hx ?_))
        refine wpAny_bind (wpAny_setState_of gu du R.ft ?_)
        dsimp only
        by_cases ke : e.2 = x.2
        · exact wp_if_pos (by simp [ke]) (wpAny_pure (yes (List.mem_map.mpr ⟨e, em, ke⟩)))
        · refine wp_if_neg (by simp [ke]) ?_
          try refine wpAny_bind (wpAny_pure ?_)
          rw [sameMem]
          dsimp only
          have live := slot_live R.tb.ris pi
          simp only [if_true, live, R.row ge]
          refine wpAny_bind (wpAny_isSame_ref_self (wpAny_bind (wpAny_pure ?_)))
          simp only [if_true]
          refine wp_if_neg (by simp [ke]) ?_
          refine find R hx hu hM free full yes no fuel (c + (d + 1)) _ rfl (by omega) (by omega) fun i2 e2 g2 k2 => ?_
          obtain ⟨c2, b1, b2, b3⟩ := ahead i2 e2 g2 k2
          refine ⟨c2, ?_, b2, b3⟩
          rcases Nat.lt_trichotomy c2 (c + d) with z | z | z
          · exact absurd ((hashes i2 e2 g2).trans (by rw [k2])) (before (c2 - c) i2 (by omega) (by rw [shift, show c + (c2 - c) = c2 by omega]; exact b3))
          · subst z
            have l2 := slot_live R.tb.ris b3
            rw [live] at l2
            injection l2 with l2
            rw [← l2, ge] at g2
            exact absurd ((congrArg Prod.snd (Option.some.inj g2)).trans k2) ke
          · omega
      by_cases led : t.led = true
      · refine wp_if_neg (by simp [led]) ?_
        try refine wpAny_bind (wpAny_pure ?_)
        exact go
      · refine wp_if_pos (by simp [led]) ?_
        refine wpAny_bind (seen_no hx (fun y hy => ?_) ?_)
        · obtain ⟨r, hr, re⟩ := List.mem_map.mp hy
          have r1 : r ∈ es ∧ r.1 = x.2.hash w := by simpa using hr
          have r2 : r ∈ rws w L := by rw [← R.rw']; simpa using r1.1
          obtain ⟨e2, m2, ee⟩ := List.mem_map.mp r2
          exact ⟨e2, by rw [← re, ← ee], R.ks e2 m2⟩
        · refine wp_if_neg (by decide) ?_
          try refine wpAny_bind (wpAny_pure ?_)
          exact go
    · rw [shift, show c + (M - c) = M by omega] at ans
      rw [show t.probe (fun i => (es[i]?.map (·.1)).getD 0) (x.2.hash w) (pth t (x.2.hash w) c) = _ from ans]
      dsimp only
      refine wpAny_pure (no fun hm => ?_)
      obtain ⟨e, he, ke⟩ := List.mem_map.mp hm
      obtain ⟨i, g⟩ := List.getElem?_of_mem he
      obtain ⟨c2, b1, b2, b3⟩ := ahead i e g ke
      exact before (c2 - c) i (by omega) (by rw [shift, show c + (c2 - c) = c2 by omega]; exact b3) ((hashes i e g).trans (by rw [ke]))
theorem search (R : SR w s.heap a L es ep t) {x : Elt} (hx : IsK s.heap x) (hu : A.units + 8 < cLine) {Q : SetFound → Shared → Prop} (yes : x.2 ∈ L.map (·.2) → Q (.there none) s)
    (no : ∀ M, x.2 ∉ L.map (·.2) → way t.mask (x.2.hash w) M ∉ t.place.toList → (∀ c, c < M → way t.mask (x.2.hash w) c ∈ t.place.toList) → Q (.free (way t.mask (x.2.hash w) M) false) s) :
    wpAny (model P w) A (setSearch a (.ref x.1) (x.2.hash w) true) Q E s := by
  have rm := R.rm
  obtain ⟨M, m1, m2, m3⟩ := R.tb.first (by rw [List.length_map]; omega) (x.2.hash w)
  have m4 : M < 100000 := by
    unfold SetTable.turns at m1
    rcases R.tb.mok with e | e | e <;> omega
  unfold setSearch
  refine find R hx hu m1 m2 m3 yes (fun z => no M z m2 m3) 100000 0 none rfl (by omega) (by omega) fun i e g k => ?_
  have hi : (hss w L)[i]? = some (x.2.hash w) := by rw [List.getElem?_map, g, ← k]; rfl
  have il : i < t.place.toList.length := by
    rw [Array.length_toList, R.pl]
    exact (List.getElem?_eq_some_iff.mp g).1
  obtain ⟨c, c1, c2⟩ := R.tb.before m2 hi (List.getElem?_eq_getElem il)
  exact ⟨c, by omega, c1, by rw [List.getElem?_eq_getElem il, ← c2]⟩
theorem pick {α : Type} (l : List α) : (List.range l.length).filterMap (fun i => l[i]?) = l := by
  have go : ∀ n, n ≤ l.length → (List.range n).filterMap (fun i => l[i]?) = l.take n := fun n => by
    induction n with
    | zero => intro _; rfl
    | succ n ih =>
      intro hn
      rw [List.range_succ, List.filterMap_append, ih (by omega), List.take_succ, List.getElem?_eq_getElem hn]
      simp [List.getElem?_eq_getElem (show n < l.length from hn)]
  rw [go _ (Nat.le_refl _), List.take_length]
theorem laid_rows {ord : Array Nat} (R : es.toList = rws w L) (pm : ord.toList.Perm (List.range L.length)) :
    ∃ L2, (ord.filterMap (es[·]?)).toList = rws w L2 ∧ L2.Perm L ∧ hss w L2 = ord.toList.map fun i => (es.map (·.1)).getD i 0 := by
  have row : ∀ i (e : Elt), L[i]? = some e → es[i]? = some (e.2.hash w, Value.ref e.1) := fun i e g => by rw [← Array.getElem?_toList, R, rws, List.getElem?_map, g]; rfl
  have part : ∀ js : List Nat, (∀ j ∈ js, j < L.length) → js.filterMap (fun i => es[i]?) = rws w (js.filterMap fun i => L[i]?) ∧ hss w (js.filterMap fun i => L[i]?) = js.map fun i => (es.map (·.1)).getD i 0 := fun js => by
    induction js with
    | nil => intro _; exact ⟨rfl, rfl⟩
    | cons j js ih =>
      intro hj
      have h1 := List.getElem?_eq_getElem (hj j List.mem_cons_self)
      obtain ⟨p1, p2⟩ := ih fun i hi => hj i (List.mem_cons_of_mem _ hi)
      have h2 := row j _ h1
      have h3 : (es.map (·.1)).getD j 0 = (L[j]'(hj j List.mem_cons_self)).2.hash w := by
        rw [Array.getD_eq_getD_getElem?, Array.getElem?_map, h2]; rfl
      constructor
      · rw [List.filterMap_cons_some h2, List.filterMap_cons_some h1, p1]; rfl
      · rw [List.filterMap_cons_some h1, List.map_cons, h3, ← p2]; rfl
  obtain ⟨p1, p2⟩ := part ord.toList fun i hi => List.mem_range.mp (pm.mem_iff.mp hi)
  refine ⟨_, by rw [Array.toList_filterMap]; exact p1, ?_, p2⟩
  have := pm.filterMap (fun i => L[i]?)
  rwa [pick] at this
/-- the table laid anew, larger -/
theorem relay {u : Obj} (gu : s.heap.get? a = some u) (ex : u.ExactSet) (du : u.data = .set es ep t) (er : es.toList = rws w L) (pl : t.place.size = es.size) (dm : t.dummies = #[]) (mk : es.size ≤ t.mask)
    (nd : (L.map (·.2)).Nodup) (ks : ∀ e ∈ L, IsK s.heap e) (ld : w.params.followText "set-order" = true ∨ t.led = true) (fw : L.length < 64) {wt M : Nat} (eM : SetTable.sizeAbove wt - 1 = M) (oM : MaskOk M) (sM : SetTable.sizeAbove wt ≤ 128) (rm : L.length * 5 < M * 3)
    {Q : Unit → Shared → Prop} (q : ∀ h' L' es' ep' t', Heap.SameBut a s.heap h' → SR w h' a L' es' ep' t' → L'.Perm L → Q () { s with heap := h' }) : wpAny (model P w) A (setRelay a wt) Q E s := by
  have sz := rws_len er
  obtain ⟨t2, ord, e1, e2, T2, e4, e5, e6, e7⟩ := relaid_ok t (hs := es.map (·.1)) (wanted := wt) eM oM (by rw [Array.size_map]; omega)
  rw [Array.size_map, sz] at e2
  obtain ⟨L2, r1, r2, r3⟩ := laid_rows er e2
  rw [← r3] at T2
  have sz2 : (ord.filterMap (es[·]?)).size = es.size := by rw [rws_len r1, r2.length_eq, sz]
  rw [setRelay_eq]
  refine wpAny_bind (wpAny_setState_of gu du (fits_of pl dm mk) ?_)
  dsimp only
  refine wp_if_neg (by rw [sizeLine_eq]; omega) ?_
  try refine wpAny_bind (wpAny_pure ?_)
  rw [e1]
  dsimp only
  refine wpAny_bind ?_
  refine wp_if_neg (by rw [sz2]; simp) ?_
  try refine wpAny_bind (wpAny_pure ?_)
  refine wpAny_pure ?_
  dsimp only
  refine wpAny_storeSet_of gu du ?_ (by rw [sz2, sz, sizeLine_eq]; omega)
  have sb : Heap.SameBut a s.heap (s.heap.update a (Obj.putSet (ord.filterMap (es[·]?)) t2)) := Heap.SameBut.update ..
  exact q _ L2 (ord.filterMap (es[·]?)) (ep + 1) t2 sb ⟨⟨_, store_at gu du, ⟨ex.1, ex.2.1, ex.2.2⟩, rfl⟩, r1, T2, (r2.map (·.2)).nodup_iff.mpr nd, fun e he => (ks e (r2.mem_iff.mp he)).but gu du sb, by rw [e5]; exact ld, by rw [r2.length_eq, e4]; exact rm, by rw [r2.length_eq]; exact fw⟩ r2
theorem put_perm' {α : Type} (l : List α) (p : Nat) (x : α) : (l.take p ++ x :: l.drop p).Perm (x :: l) := by
  have := (List.perm_middle (a := x) (l₁ := l.take p) (l₂ := l.drop p))
  rwa [List.take_append_drop] at this
/-- adding -/
theorem add (R : SR w s.heap a L es ep t) {x : Elt} (hx : IsK s.heap x) (hu : A.units + 8 < cLine) (fw : L.length + 1 < 64) {Q : Bool → Shared → Prop}
    (q : ∀ b h' L' es' ep' t', Heap.SameBut a s.heap h' → SR w h' a L' es' ep' t' → (x.2 ∈ L.map (·.2) → L' = L) → (x.2 ∉ L.map (·.2) → L'.Perm (x :: L)) → Q b { s with heap := h' }) :
    wpAny (model P w) A (setAddHashed a (.ref x.1) (x.2.hash w)) Q E s := by
  obtain ⟨u, gu, ex, du⟩ := R.at'
  have sz := R.sz
  have rm := R.rm
  unfold setAddHashed
  refine wpAny_holding ?_
  rw [show (100000 : Nat) = 99999 + 1 from rfl, setAddHashedIn_succ]
  refine wpAny_bind (wpAny_setState_of gu du R.ft ?_)
  dsimp only
  refine wp_if_neg (by simp [byScan, Value.scannable]) ?_
  try refine wpAny_bind (wpAny_pure ?_)
  refine wpAny_bind (search R hx hu (fun m => ?_) fun M m m1 m2 => ?_)
  · dsimp only
    exact wpAny_pure (q false s.heap L es ep t (Heap.SameBut.refl a s.heap) R (fun _ => rfl) fun z => absurd m z)
  · dsimp only
    refine wpAny_bind (wpAny_setState_of gu du R.ft ?_)
    dsimp only
    obtain ⟨p1, p2, p3, p4, p5, p6, p7, p8, p9⟩ := R.tb.put m1 m2
    generalize eP : t.put (way t.mask (x.2.hash w) M) = pq at p1 p3 p4 p5 p6 p7 p8 p9 ⊢
    obtain ⟨t1, p⟩ := pq
    dsimp only at p1 p3 p4 p5 p6 p7 p8 p9 ⊢
    subst p1
    -- what is stored, whatever hashByValue says
    have store : ∀ t3 : SetTable, TabOk t3 ((hss w L).take (SetTable.below t.place (way t.mask (x.2.hash w) M)) ++ x.2.hash w :: (hss w L).drop (SetTable.below t.place (way t.mask (x.2.hash w) M))) → t3.mask = t.mask → t3.led = t.led → t3.fill = L.length + 1 →
        wpAny (model P w) A (do
          storeSet a (SetTable.insertAt es (SetTable.below t.place (way t.mask (x.2.hash w) M)) (x.2.hash w, Value.ref x.1)) t3
          if !false && t3.tooFull then setRelay a (SetTable.grown (es.size + 1))
          return true) Q E s := fun t3 T3 f1 f2 f3 => by
      have ein : (SetTable.insertAt es (SetTable.below t.place (way t.mask (x.2.hash w) M)) (x.2.hash w, Value.ref x.1)).toList = rws w (L.take (SetTable.below t.place (way t.mask (x.2.hash w) M)) ++ x :: L.drop (SetTable.below t.place (way t.mask (x.2.hash w) M))) := by
        rw [SetTable.toList_insertAt, R.rw']
        unfold rws
        rw [List.map_append, List.map_cons, List.map_take, List.map_drop]
      have ehs : hss w (L.take (SetTable.below t.place (way t.mask (x.2.hash w) M)) ++ x :: L.drop (SetTable.below t.place (way t.mask (x.2.hash w) M))) = (hss w L).take (SetTable.below t.place (way t.mask (x.2.hash w) M)) ++ x.2.hash w :: (hss w L).drop (SetTable.below t.place (way t.mask (x.2.hash w) M)) := by
        unfold hss
        rw [List.map_append, List.map_cons, List.map_take, List.map_drop]
      rw [← ehs] at T3
      have pm := put_perm' L (SetTable.below t.place (way t.mask (x.2.hash w) M)) x
      generalize SetTable.insertAt es (SetTable.below t.place (way t.mask (x.2.hash w) M)) (x.2.hash w, Value.ref x.1) = es1 at ein ⊢
      generalize L.take (SetTable.below t.place (way t.mask (x.2.hash w) M)) ++ x :: L.drop (SetTable.below t.place (way t.mask (x.2.hash w) M)) = L1 at ein T3 pm
      have len1 : L1.length = L.length + 1 := pm.length_eq
      have sz1 : es1.size = L.length + 1 := by rw [rws_len ein, len1]
      have nd1 : (L1.map (·.2)).Nodup := (pm.map (·.2)).nodup_iff.mpr (by rw [List.map_cons]; exact List.nodup_cons.mpr ⟨m, R.nd⟩)
      refine wpAny_bind (wpAny_storeSet_of gu du ?_ (by rw [sz1, sizeLine_eq]; omega))
      have sb : Heap.SameBut a s.heap (s.heap.update a (Obj.putSet es1 t3)) := Heap.SameBut.update ..
      have gu1 := store_at (es' := es1) (t' := t3) gu du
      generalize s.heap.update a (Obj.putSet es1 t3) = h1 at sb gu1 ⊢
      have ks1 : ∀ e ∈ L1, IsK h1 e := fun e he => by
        rcases List.mem_cons.mp (pm.mem_iff.mp he) with z | z
        · subst z; exact hx.but gu du sb
        · exact (R.ks e z).but gu du sb
      have ld1 : w.params.followText "set-order" = true ∨ t3.led = true := by rw [f2]; exact R.ld
      have isFull : t3.tooFull = decide ((L.length + 1) * 5 ≥ t.mask * 3) := by unfold SetTable.tooFull; rw [f3, f1]
      by_cases full : (L.length + 1) * 5 ≥ t.mask * 3
      · have tf : (!false && t3.tooFull) = true := by rw [isFull, decide_eq_true full]; rfl
        have two : (t.mask = 7 ∧ L.length = 4) ∨ (t.mask = 31 ∧ L.length = 18) := by
          rcases R.tb.mok with e | e | e <;> rw [e] at full rm
          · exact .inl ⟨e, by omega⟩
          · exact .inr ⟨e, by omega⟩
          · omega
        have big : ∀ M2, SetTable.sizeAbove (SetTable.grown (L.length + 1)) - 1 = M2 → MaskOk M2 → SetTable.sizeAbove (SetTable.grown (L.length + 1)) ≤ 128 → (L.length + 1) * 5 < M2 * 3 →
            wpAny (model P w) A (setRelay a (SetTable.grown (es.size + 1))) (fun _ s2 => wpAny (model P w) A (pure true) Q E s2) E { s with heap := h1 } := fun M2 d1 d2 d3 d4 => by
          rw [sz]
          refine relay (s := { s with heap := h1 }) (L := L1) gu1 ⟨ex.1, ex.2.1, ex.2.2⟩ rfl ein (by rw [T3.sz, List.length_map, len1, sz1]) T3.dm (by rw [sz1, f1]; rcases two with ⟨e, e2⟩ | ⟨e, e2⟩ <;> omega) nd1 ks1 ld1 (by rw [len1]; exact fw) d1 d2 d3 (by rw [len1]; exact d4) ?_
          intro h2 L2 es2 ep2 t2 sb2 R2 pm2
          exact wpAny_pure (q true h2 L2 es2 ep2 t2 (sb.trans sb2) R2 (fun z => absurd z m) fun _ => pm2.trans pm)
        first
          | (refine wpAny_bind ?_; refine wp_if_pos tf ?_)
          | (refine wp_if_pos tf ?_; refine wpAny_bind ?_)
        rcases two with ⟨_, e2⟩ | ⟨_, e2⟩
        · exact big 31 (by rw [e2, size_20]) (.inr (.inl rfl)) (by rw [e2, size_20]; decide) (by omega)
        · exact big 127 (by rw [e2, size_76]) (.inr (.inr rfl)) (by rw [e2, size_76]; decide) (by omega)
      · have tf : ¬ (!false && t3.tooFull) = true := by rw [isFull, decide_eq_false full]; decide
        first
          | refine wp_if_neg tf ?_
          | (refine wpAny_bind ?_; refine wp_if_neg tf ?_; refine wpAny_pure ?_)
        exact wpAny_pure (q true h1 L1 es1 (ep + 1) t3 sb ⟨⟨_, gu1, ⟨ex.1, ex.2.1, ex.2.2⟩, rfl⟩, ein, T3, nd1, ks1, ld1, by rw [len1, f1]; omega, by rw [len1]; exact fw⟩ (fun z => absurd z m) fun _ => pm)
    have fin : ∀ b : Bool, wpAny (model P w) A (do
          let t3 := if b = true then t1 else { t1 with plain := false }
          storeSet a (SetTable.insertAt es (SetTable.below t.place (way t.mask (x.2.hash w) M)) (x.2.hash w, Value.ref x.1)) t3
          if !false && t3.tooFull then setRelay a (SetTable.grown (es.size + 1))
          return true) Q E s := fun b => by
      cases b
      · exact store _ ⟨p3.ris, p3.dm, p3.sz, p3.mok, p3.bd, p3.reach⟩ p4 p5 (by rw [List.length_map] at p9; exact p9)
      · exact store _ p3 p4 p5 (by rw [List.length_map] at p9; exact p9)
    by_cases pl : t1.plain = true
    · first
        | (refine wpAny_bind ?_; refine wp_if_pos pl ?_; exact haBy_key _ _ 8 _ hx.1 hx.2 _ _ _ fin)
        | exact wp_if_pos pl (wpAny_bind (haBy_key _ _ 8 _ hx.1 hx.2 _ _ _ fin))
    · first
        | (refine wpAny_bind ?_; refine wp_if_neg pl ?_; exact wpAny_pure (fin true))
        | exact wp_if_neg pl (fin true)
        | exact wp_if_neg pl (wpAny_bind (wpAny_pure (fin true)))
/-- what the set has got from the first i items -/
structure Has (ks : List Elt) (i : Nat) (L : List Elt) : Prop where
  sub : ∀ e ∈ L, e ∈ ks.take i
  all : ∀ e ∈ ks.take i, e.2 ∈ L.map (·.2)
  len : L.length ≤ i
theorem Has.same {ks L : List Elt} {i : Nat} {x : Elt} (g : Has ks i L) (h : ks[i]? = some x) (m : x.2 ∈ L.map (·.2)) : Has ks (i + 1) L where
  sub := fun e he => by rw [take_next h]; exact List.mem_append_left _ (g.sub e he)
  all := fun e he => by
    rw [take_next h] at he
    rcases List.mem_append.mp he with z | z
    · exact g.all e z
    · rw [List.mem_singleton.mp z]; exact m
  len := by have := g.len; omega
theorem Has.more {ks L L2 : List Elt} {i : Nat} {x : Elt} (g : Has ks i L) (h : ks[i]? = some x) (pm : L2.Perm (x :: L)) : Has ks (i + 1) L2 where
  sub := fun e he => by
    rw [take_next h]
    rcases List.mem_cons.mp (pm.mem_iff.mp he) with z | z
    · rw [z]; exact List.mem_append_right _ (List.mem_singleton.mpr rfl)
    · exact List.mem_append_left _ (g.sub e z)
  all := fun e he => by
    rw [(pm.map (·.2)).mem_iff, List.map_cons]
    rw [take_next h] at he
    rcases List.mem_append.mp he with z | z
    · exact List.mem_cons_of_mem _ (g.all e z)
    · rw [List.mem_singleton.mp z]; exact List.mem_cons_self
  len := by rw [pm.length_eq, List.length_cons]; have := g.len; omega
theorem SR.later {h h' : Heap} (R : SR w h a L es ep t) (ga : ∀ u, h.get? a = some u → h'.get? a = some u) (k : ∀ e ∈ L, IsK h' e) : SR w h' a L es ep t := by
  obtain ⟨u, gu, r⟩ := R.at'
  exact ⟨⟨u, ga u gu, r⟩, R.rw', R.tb, R.nd, k, R.ld, R.rm, R.fw⟩
theorem IsK.older {h h' : Heap} {e : Elt} (x : IsK h e) (g : ∀ b u, h.get? b = some u → h'.get? b = some u) : IsK h' e := x.keep fun b u _ _ z _ => g b u z
/-- a new set's object -/
abbrev set0 (w : World) : Obj := { cls := .type "set", dict := none, data := .set #[] 0 (.fresh 0 0 (!w.params.followText "set-order")) }
theorem sr_fresh {h : Heap} (g : h.get? a = some (set0 w)) : SR w h a [] #[] 0 (.fresh 0 0 (!w.params.followText "set-order")) where
  at' := ⟨_, g, ⟨rfl, rfl, rfl⟩, rfl⟩
  rw' := rfl
  tb := ⟨List.Pairwise.nil, rfl, rfl, .inl rfl, fun x z => (by cases z), fun i k j z => (by simp at z)⟩
  nd := List.nodup_nil
  ks := fun e z => (by cases z)
  ld := by
    show _ ∨ (!w.params.followText "set-order") = true
    cases w.params.followText "set-order" <;> simp
  rm := by show 0 * 5 < 7 * 3; decide
  fw := by show 0 < 64; decide
theorem fill {I S : Addr} {fp wr : List Addr} {G : Array GenState → Array GenState → Prop} {n : Nat} {Pv : Nat → Value → Prop} {St : Nat → Shared → Prop} {R : Result → Shared → Prop} (W : WalksS P w A.in1 I fp wr G n Pv St) (nS : S ∉ fp) (ks : List Elt) (en : n = ks.length) (few : ks.length < 64)
    (val : ∀ i v, Pv i v → ∃ e, ks[i]? = some e ∧ v = .ref e.1) (h0 : Heap) (k0 : ∀ e ∈ ks, IsK h0 e) (S0 : h0.get? S = none) (w0 : ∀ b ∈ wr, h0.get? b = none) (hu : A.in1.units + 9 < cLine) :
    ∀ (d i : Nat) (s : Shared), n - i = d → i ≤ n → St i s → (∀ b u, h0.get? b = some u → s.heap.get? b = some u) → (∃ L es ep t, SR w s.heap S L es ep t ∧ Has ks i L) →
      (∀ s' L es ep t, Moved (S :: wr) G s s' → SR w s'.heap S L es ep t → Has ks n L → (∀ b u, h0.get? b = some u → s'.heap.get? b = some u) → R (.ok (.ret .none)) s') →
      codeAny (model P w) A (.builtin "set.update.loop" ⟨[.ref S, .ref I], []⟩) R s := by
  have nw : S ∉ wr := fun z => nS (W.sub _ z)
  have up : ∀ b ∈ wr, b ∈ S :: wr := fun b z => List.mem_cons_of_mem _ z
  have old : ∀ {s s' : Shared}, Moved wr G s s' → (∀ b u, h0.get? b = some u → s.heap.get? b = some u) → ∀ b u, h0.get? b = some u → s'.heap.get? b = some u := fun m k b u z => m.heap b u (fun c => by rw [w0 b c] at z; cases z) (k b u z)
  intro d
  induction d with
  | zero =>
    intro i s ed hi st kp ⟨L, es, ep, t, r, g⟩ fin
    obtain rfl : i = n := by omega
    refine codeAny_builtin PyProof.Rows.F.entry_set_update_loop ?_
    rw [Around.under_plainId PyProof.Rows.F.plain_set_update_loop _]
    show wpAny _ A.in1 (pyNext (Value.ref I) >>= _) _ _ s
    refine wpAny_bind (W.done s _ _ st fun s2 m => ?_)
    show wpAny _ A.in1 (ret Value.none) _ _ s2
    have kp2 := old m kp
    exact wpAny_pure (fin s2 L es ep t (m.mono up) (r.later (fun u z => m.heap S u nw z) fun e he => (k0 e (List.mem_of_mem_take (g.sub e he))).older kp2) g kp2)
  | succ d ih =>
    intro i s ed hi st kp ⟨L, es, ep, t, r, g⟩ fin
    refine codeAny_builtin PyProof.Rows.F.entry_set_update_loop ?_
    rw [Around.under_plainId PyProof.Rows.F.plain_set_update_loop _]
    show wpAny _ A.in1 (pyNext (Value.ref I) >>= _) _ _ s
    refine wpAny_bind (W.item i s _ _ (by omega) st fun v s2 pv st2 m => ?_)
    obtain ⟨e, ge, rfl⟩ := val i v pv
    have kp2 := old m kp
    have r2 : SR w s2.heap S L es ep t := r.later (fun u z => m.heap S u nw z) fun e he => (k0 e (List.mem_of_mem_take (g.sub e he))).older kp2
    have he : IsK s2.heap e := (k0 e (List.mem_of_getElem? ge)).older kp2
    show wpAny _ A.in1 (holding [Value.ref e.1] (setAdd S (.ref e.1)) >>= _) _ _ s2
    refine wpAny_bind (wpAny_holding ?_)
    unfold setAdd
    refine wpAny_holding ?_
    refine wpAny_bind (pyHash_key _ _ _ _ _ he.1 (by have := he.2; omega) ?_)
    refine add (s := { s2 with toks := s2.toks + e.2.draws }) r2 he (by omega) (by have := g.len; omega) fun b h' L2 es2 ep2 t2 sb r3 c1 c2 => ?_
    have g2 : Has ks (i + 1) L2 := by
      rcases Classical.em (e.2 ∈ L.map (·.2)) with c | c
      · rw [c1 c]; exact g.same ge c
      · exact g.more ge (c2 c)
    have kp3 : ∀ b u, h0.get? b = some u → h'.get? b = some u := fun b u z => (sb.2 b (fun c => by rw [c, S0] at z; cases z)).trans (kp2 b u z)
    refine wpAny_pure ⟨plainId_quiet PyProof.Rows.F.plain_set_update_loop _, ih (i + 1) _ (by omega) (by omega) (W.frame _ s2 _ _ st2 (Nat.le_add_right _ _) fun b hb o z => ?_) kp3 ⟨L2, es2, ep2, t2, r3, g2⟩ fun s3 L3 es3 ep3 t3 m3 r4 g4 kp4 => ?_⟩
    · rw [sb.2 b fun c => nS (by rw [← c]; exact hb)]; exact z
    · refine fin s3 L3 es3 ep3 t3 (Moved.trans W.gtrans ((m.mono up).then_heap (Nat.le_add_right _ _) fun b o hb z => ?_) m3) r4 g4 kp4
      rw [sb.2 b fun c => hb (by rw [c]; exact List.mem_cons_self)]; exact z
set_option maxHeartbeats 8000000 in
/-- set(xs) -/
theorem call_set {l : Addr} {xs : Array Value} (ks : List Elt) {Q : Value → Shared → Prop} (hh : A.handled = none) (hl : s.heap.IsList l xs) (ex : xs.toList = ks.map fun e => Value.ref e.1) (k0 : ∀ e ∈ ks, IsK s.heap e) (few : ks.length < 64) (hu : A.units + 24 < cLine)
    (q : ∀ (h' : Heap) (tk : Nat) L es ep t, SR w h' s.heap.objs.size L es ep t → Has ks ks.length L → (∀ b u, s.heap.get? b = some u → h'.get? b = some u) → Q (.ref s.heap.objs.size) { s with heap := h', toks := tk }) :
    wpAny (model P w) A (call (.type "set") [.ref l]) Q E s := by
  have sz : xs.size = ks.length := by rw [← Array.length_toList, ex, List.length_map]
  obtain ⟨c, tl, mro'⟩ := PySem.F.called_set.mro
  have made' := PySem.F.called_set.made
  have sub' := PySem.F.called_set.sub
  refine wpAny_call (codeAny_of_tree ?_)
  show wpAny _ _ (callAny (Value.type "set") _) _ _ _
  refine wpAny_pure ⟨Code.quiet_builtin _ (by decide +kernel), codeAny_builtin PySem.F.entry_type_call ?_⟩
  rw [Around.under_plain (weight_type_call_type "set" [.ref l] []) rfl]
  have not' := PySem.F.called_set.notType
  have can' := PySem.F.called_set.canCreate
  have tc' := PySem.F.typeCall_set_1 (.ref l)
  repeat (any_goals (first | assumption | wp_step))
  refine codeAny_mono (code_set_led1 (.ref l) (E := E) (Q₁ := fun v s1 => v = .ref s.heap.objs.size ∧ s1 = { s with heap := s.heap.push (set0 w) }) ⟨rfl, rfl⟩) fun r s1 hr => ?_
  cases r with
  | error e => exact hr
  | ok fl =>
    cases fl with
    | ret v =>
      obtain ⟨rfl, rfl⟩ := hr
      have gS : (s.heap.push (set0 w)).get? s.heap.objs.size = some (set0 w) := Heap.get?_push_size _ rfl
      have tS : Shared.TypeIs { s with heap := s.heap.push (set0 w) } (.ref s.heap.objs.size) "set" := ⟨_, gS, rfl⟩
      have look' := PySem.F.called_set.init.lookup
      have bind' := PySem.F.called_set.init.bind (.ref s.heap.objs.size)
      repeat (any_goals (first | assumption | wp_step))
      refine codeAny_mono (codeAny_call_builtin (R := wants (fun v s2 => v = .none ∧ ∃ h' tk L es ep t, s2 = { s with heap := h', toks := tk } ∧ SR w h' s.heap.objs.size L es ep t ∧ Has ks ks.length L ∧ (∀ b u, s.heap.get? b = some u → h'.get? b = some u)) E) PySem.F.called_set.init.plain PySem.F.entry_set_init (check_set_init_1 tS ?_)) fun r2 s2 hr2 => ?_
      · obtain ⟨ol, gl, cl, nl, dl⟩ := hl
        obtain ⟨ocls, odict, odata, oslots⟩ := ol
        simp only at cl dl
        subst cl; subst dl
        have gl1 : (s.heap.push (set0 w)).get? l = some { cls := .type "list", dict := odict, data := .seq xs nl, slots := oslots } := Heap.get?_push_of_some _ gl
        have s1' := PySem.F.sub_list_set
        have s2' := PySem.F.sub_list_frozenset
        have nd' : (Value.type "list" == Value.type "dict") = false := by decide
        have il : (s.heap.push (set0 w)).IsList l xs := ⟨_, gl1, rfl, nl, rfl⟩
        unfold Builtin.«set.__init__» noKeywords Builtin.Frozenset.updateFrom
        generalize ePI : pyIter = PI
        wp_walk
        subst ePI
        refine wpAny_pyIter_list il ?_
        refine wpAny_bind (wpAny_runValue ?_)
        have lS : l < s.heap.objs.size := Heap.lt_size gl
        have h3 : A.in1.in1.in1.handled = none := by simp [hh]
        have ne1 : l ≠ (s.heap.push (set0 w)).objs.size := by rw [Heap.size_push]; exact Nat.ne_of_lt (Nat.lt_succ_of_lt lS)
        have nS : s.heap.objs.size ∉ [(s.heap.push (set0 w)).objs.size, l] := by
          rw [Heap.size_push]
          intro z
          simp only [List.mem_cons, List.not_mem_nil, or_false] at z
          rcases z with z | z
          · exact absurd z (Nat.ne_of_lt (Nat.lt_succ_self _))
          · exact absurd z (Nat.ne_of_gt lS)
        have val : ∀ (i : Nat) (v : Value), xs[i]? = some v → ∃ e, ks[i]? = some e ∧ v = .ref e.1 := fun i v z => by
          rw [← Array.getElem?_toList, ex, List.getElem?_map] at z
          cases z2 : ks[i]? with
          | none => rw [z2] at z; cases z
          | some e => rw [z2] at z; cases z; exact ⟨e, rfl, rfl⟩
        have none' : ∀ b, s.heap.objs.size ≤ b → s.heap.get? b = none := fun b hb => by
          cases z : s.heap.get? b with
          | none => rfl
          | some o => exact absurd (Heap.lt_size z) (Nat.not_lt.mpr hb)
        refine fill ((Walks.list h3 _ l ne1 xs).toS) nS ks sz few val s.heap k0 (none' _ (Nat.le_refl _)) (fun b hb => none' b (by
            rw [List.mem_singleton.mp hb, Heap.size_push]; exact Nat.le_succ _)) (by show A.units + 12 < cLine; omega) (xs.size - 0) 0 _ (by omega) (Nat.zero_le _)
          ⟨⟨_, Heap.get?_push_size _ rfl, rfl, rfl⟩, il.push _⟩ (fun b o z => Heap.get?_push_of_some _ (Heap.get?_push_of_some _ z)) ?start ?stop
        case start =>
          exact ⟨[], #[], 0, _, sr_fresh (Heap.get?_push_of_some _ gS), ⟨fun e z => (by cases z), fun e z => (by simp at z), Nat.le_refl _⟩⟩
        case stop =>
          intro s2 L es ep t m r g kp
          obtain ⟨h', gs, dr, tk, os⟩ := s2
          have e1 : gs = s.gens := m.gens
          have e2 : dr = s.drawn := m.drawn
          have e3 : os = s.os := m.os
          subst e1; subst e2; subst e3
          show wpAny _ _ _ _ _ _
          refine wpAny_pure ?_
          show wpAny _ _ (ret Value.none) _ _ _
          rw [sz] at g
          exact wpAny_pure ⟨rfl, h', tk, L, es, ep, t, rfl, r, g, kp⟩
      · cases r2 with
        | error e => exact hr2
        | ok fl2 =>
          cases fl2 with
          | ret r =>
            obtain ⟨rfl, h', tk, L, es, ep, t, rfl, z1, z2, z3⟩ := hr2
            repeat (any_goals (first | assumption | wp_step))
            exact q _ _ _ _ _ _ z1 z2 z3
          | _ => exact hr2.elim
    | _ => exact hr.elim
set_option maxHeartbeats 8000000 in
/-- set(t), t a tuple -/
theorem call_setT {l : Addr} {xs : Array Value} (ks : List Elt) {Q : Value → Shared → Prop} (hh : A.handled = none) (hl : s.heap.IsTuple l xs) (ex : xs.toList = ks.map fun e => Value.ref e.1) (k0 : ∀ e ∈ ks, IsK s.heap e) (few : ks.length < 64) (hu : A.units + 24 < cLine)
    (q : ∀ (h' : Heap) (tk : Nat) L es ep t, SR w h' s.heap.objs.size L es ep t → Has ks ks.length L → (∀ b u, s.heap.get? b = some u → h'.get? b = some u) → Q (.ref s.heap.objs.size) { s with heap := h', toks := tk }) :
    wpAny (model P w) A (call (.type "set") [.ref l]) Q E s := by
  have sz : xs.size = ks.length := by rw [← Array.length_toList, ex, List.length_map]
  obtain ⟨c, tl, mro'⟩ := PySem.F.called_set.mro
  have made' := PySem.F.called_set.made
  have sub' := PySem.F.called_set.sub
  refine wpAny_call (codeAny_of_tree ?_)
  show wpAny _ _ (callAny (Value.type "set") _) _ _ _
  refine wpAny_pure ⟨Code.quiet_builtin _ (by decide +kernel), codeAny_builtin PySem.F.entry_type_call ?_⟩
  rw [Around.under_plain (weight_type_call_type "set" [.ref l] []) rfl]
  have not' := PySem.F.called_set.notType
  have can' := PySem.F.called_set.canCreate
  have tc' := PySem.F.typeCall_set_1 (.ref l)
  repeat (any_goals (first | assumption | wp_step))
  refine codeAny_mono (code_set_led1 (.ref l) (E := E) (Q₁ := fun v s1 => v = .ref s.heap.objs.size ∧ s1 = { s with heap := s.heap.push (set0 w) }) ⟨rfl, rfl⟩) fun r s1 hr => ?_
  cases r with
  | error e => exact hr
  | ok fl =>
    cases fl with
    | ret v =>
      obtain ⟨rfl, rfl⟩ := hr
      have gS : (s.heap.push (set0 w)).get? s.heap.objs.size = some (set0 w) := Heap.get?_push_size _ rfl
      have tS : Shared.TypeIs { s with heap := s.heap.push (set0 w) } (.ref s.heap.objs.size) "set" := ⟨_, gS, rfl⟩
      have look' := PySem.F.called_set.init.lookup
      have bind' := PySem.F.called_set.init.bind (.ref s.heap.objs.size)
      repeat (any_goals (first | assumption | wp_step))
      refine codeAny_mono (codeAny_call_builtin (R := wants (fun v s2 => v = .none ∧ ∃ h' tk L es ep t, s2 = { s with heap := h', toks := tk } ∧ SR w h' s.heap.objs.size L es ep t ∧ Has ks ks.length L ∧ (∀ b u, s.heap.get? b = some u → h'.get? b = some u)) E) PySem.F.called_set.init.plain PySem.F.entry_set_init (check_set_init_1 tS ?_)) fun r2 s2 hr2 => ?_
      · obtain ⟨ol, gl, cl, nl, dl⟩ := hl
        obtain ⟨ocls, odict, odata, oslots⟩ := ol
        simp only at cl dl
        subst cl; subst dl
        have gl1 : (s.heap.push (set0 w)).get? l = some { cls := .type "tuple", dict := odict, data := .seq xs nl, slots := oslots } := Heap.get?_push_of_some _ gl
        have s1' := PySem.F.sub_tuple_set
        have s2' := PySem.F.sub_tuple_frozenset
        have nd' : (Value.type "tuple" == Value.type "dict") = false := by decide
        have il : (s.heap.push (set0 w)).IsTuple l xs := ⟨_, gl1, rfl, nl, rfl⟩
        unfold Builtin.«set.__init__» noKeywords Builtin.Frozenset.updateFrom
        generalize ePI : pyIter = PI
        wp_walk
        subst ePI
        refine wpAny_pyIter_tuple il ?_
        refine wpAny_bind (wpAny_runValue ?_)
        have lS : l < s.heap.objs.size := Heap.lt_size gl
        have h3 : A.in1.in1.in1.handled = none := by simp [hh]
        have ne1 : l ≠ (s.heap.push (set0 w)).objs.size := by rw [Heap.size_push]; exact Nat.ne_of_lt (Nat.lt_succ_of_lt lS)
        have nS : s.heap.objs.size ∉ [(s.heap.push (set0 w)).objs.size, l] := by
          rw [Heap.size_push]
          intro z
          simp only [List.mem_cons, List.not_mem_nil, or_false] at z
          rcases z with z | z
          · exact absurd z (Nat.ne_of_lt (Nat.lt_succ_self _))
          · exact absurd z (Nat.ne_of_gt lS)
        have val : ∀ (i : Nat) (v : Value), xs[i]? = some v → ∃ e, ks[i]? = some e ∧ v = .ref e.1 := fun i v z => by
          rw [← Array.getElem?_toList, ex, List.getElem?_map] at z
          cases z2 : ks[i]? with
          | none => rw [z2] at z; cases z
          | some e => rw [z2] at z; cases z; exact ⟨e, rfl, rfl⟩
        have none' : ∀ b, s.heap.objs.size ≤ b → s.heap.get? b = none := fun b hb => by
          cases z : s.heap.get? b with
          | none => rfl
          | some o => exact absurd (Heap.lt_size z) (Nat.not_lt.mpr hb)
        refine fill ((Walks.tuple h3 _ l ne1 xs).toS) nS ks sz few val s.heap k0 (none' _ (Nat.le_refl _)) (fun b hb => none' b (by
            rw [List.mem_singleton.mp hb, Heap.size_push]; exact Nat.le_succ _)) (by show A.units + 12 < cLine; omega) (xs.size - 0) 0 _ (by omega) (Nat.zero_le _)
          ⟨⟨_, Heap.get?_push_size _ rfl, rfl, rfl⟩, il.push _⟩ (fun b o z => Heap.get?_push_of_some _ (Heap.get?_push_of_some _ z)) ?start ?stop
        case start =>
          exact ⟨[], #[], 0, _, sr_fresh (Heap.get?_push_of_some _ gS), ⟨fun e z => (by cases z), fun e z => (by simp at z), Nat.le_refl _⟩⟩
        case stop =>
          intro s2 L es ep t m r g kp
          obtain ⟨h', gs, dr, tk, os⟩ := s2
          have e1 : gs = s.gens := m.gens
          have e2 : dr = s.drawn := m.drawn
          have e3 : os = s.os := m.os
          subst e1; subst e2; subst e3
          show wpAny _ _ _ _ _ _
          refine wpAny_pure ?_
          show wpAny _ _ (ret Value.none) _ _ _
          rw [sz] at g
          exact wpAny_pure ⟨rfl, h', tk, L, es, ep, t, rfl, r, g, kp⟩
      · cases r2 with
        | error e => exact hr2
        | ok fl2 =>
          cases fl2 with
          | ret r =>
            obtain ⟨rfl, h', tk, L, es, ep, t, rfl, z1, z2, z3⟩ := hr2
            repeat (any_goals (first | assumption | wp_step))
            exact q _ _ _ _ _ _ z1 z2 z3
          | _ => exact hr2.elim
    | _ => exact hr.elim
end
end VS
end
section
namespace VL
open PySem PySem.Spec L2 VS
/-! ### data as keys -/
mutual
def keyD : PyData → Option NestedKey
  | .none => some .none
  | .bool b => some (.num (if b = true then 1 else 0))
  | .int i => some (.num i)
  | .str x => some (.text x)
  | .tuple ds => (keysD ds).map .tup
  | _ => none
def keysD : List PyData → Option (List NestedKey)
  | [] => some []
  | d :: ds => match keyD d, keysD ds with
    | some k, some ks => some (k :: ks)
    | _, _ => none
end
def TupKey (d : PyData) : Prop := ∃ ks, keyD d = some (.tup ks) ∧ (NestedKey.tup ks).depth ≤ 8
structure KeysOk (ds : List PyData) : Prop where
  all : ∀ d ∈ ds, TupKey d
  inj : ∀ d ∈ ds, ∀ e ∈ ds, keyD d = keyD e → d = e
  few : ds.length < 64
section
variable {X : Cx}
mutual
theorem key_of {pins : List (Addr × Obj)} {σ : St} {H F : Hp} {s : Shared} (I : Inv X pins σ H s) (sF : Same F H) : ∀ (d : PyData) (v : V) (u : Value) (k : NestedKey), Rp X.K F v d → keyD d = some k → RelV v u → NestedIs s.heap k u
  | .none, _, _, _, .non, e, r => by cases e; cases r; exact .none
  | .bool b, _, _, _, .bl _, e, r => by cases e; cases r; exact .bool rfl
  | .int i, _, _, _, .int _, e, r => by cases e; obtain ⟨t, rfl⟩ := r; exact .int _ _
  | .str x, _, _, _, .str _, e, r => by cases e; obtain ⟨t, rfl⟩ := r; exact .text _ _
  | .tuple ds, _, _, k, .tup hT ra, e, r => by
    cases r
    cases e1 : keysD ds with
    | none => simp [keyD, e1] at e
    | some ks =>
      have e : NestedKey.tup ks = k := by simpa [keyD, e1] using e
      subst e
      obtain ⟨its, rv, ⟨o, ho, hc, n, hd⟩, _⟩ := I.tuple (sameN sF hT).sq
      exact .tup ho hc hd (by simpa using keys_of I sF ds _ its ks ra e1 rv)
  | .list _, _, _, _, _, e, _ => by simp [keyD] at e
  | .dict _, _, _, _, _, e, _ => by simp [keyD] at e
theorem keys_of {pins : List (Addr × Obj)} {σ : St} {H F : Hp} {s : Shared} (I : Inv X pins σ H s) (sF : Same F H) : ∀ (ds : List PyData) (vs : List V) (us : List Value) (ks : List NestedKey), RpAll X.K F vs ds → keysD ds = some ks → Vals vs us → NestedAll s.heap ks us
  | [], _, _, _, .nil, e, r => by cases e; cases r; exact .nil
  | d :: ds, _, _, ks, .cons rd ra, e, r => by
    cases e1 : keyD d with
    | none => simp [keysD, e1] at e
    | some k =>
      cases e2 : keysD ds with
      | none => simp [keysD, e1, e2] at e
      | some ks' =>
        have e : k :: ks' = ks := by simpa [keysD, e1, e2] using e
        subst e
        cases r with
        | cons r1 r2 => exact .cons (key_of I sF d _ _ _ rd e1 r1) (keys_of I sF ds _ _ _ ra e2 r2)
end
end
/-! ### set(xs), then sorted, len -/
structure S0 (w : World) (h : Heap) (a : Addr) (L : List Elt) : Prop where
  ex : ∃ (es : Array (Int × Value)) (ep : Nat) (t : SetTable), (∃ u, h.get? a = some u ∧ u.ExactSet ∧ u.data = .set es ep t) ∧ es.toList = rws w L ∧ TabOk t (hss w L) ∧ (L.map (·.2)).Nodup ∧ (w.params.followText "set-order" = true ∨ t.led = true) ∧ L.length * 5 < t.mask * 3 ∧ L.length < 64
def SetOb (w : World) (a : Addr) (L : List Elt) : HO := .ext fun h => S0 w h a L
theorem sr_s0 {w : World} {h : Heap} {a : Addr} {L : List Elt} {es : Array (Int × Value)} {ep : Nat} {t : SetTable} (R : SR w h a L es ep t) : S0 w h a L := ⟨es, ep, t, R.at', R.rw', R.tb, R.nd, R.ld, R.rm, R.fw⟩
theorem S0.full {w : World} {h : Heap} {a : Addr} {L : List Elt} (R : S0 w h a L) (k : ∀ e ∈ L, IsK h e) : ∃ es ep t, SR w h a L es ep t := by
  obtain ⟨es, ep, t, h1, h2, h3, h4, h5, h6, h7⟩ := R.ex
  exact ⟨es, ep, t, h1, h2, h3, h4, k, h5, h6, h7⟩
theorem setOb_new {P : Program} {w : World} {H : Hp} {h : Heap} {a : Addr} {L : List Elt} (R : S0 w h a L) : ObjOk P w H h a (SetOb w a L) := by
  have ⟨_, _, _, ⟨u, gu, _⟩, _⟩ := R.ex
  refine ⟨R, ⟨u, gu⟩, fun h1 h2 p k => ?_⟩
  have ⟨es', ep', t', ⟨o', g', r'⟩, q'⟩ := S0.ex p
  exact ⟨es', ep', t', ⟨o', k o' g', r'⟩, q'⟩
/-- the elements as data -/
structure EltsAre (K : PySem.W.Frag) (F : Hp) (L : List Elt) (ds : List PyData) : Prop where
  rp : RpAll K F (L.map fun e => V.ref e.1) ds
  ky : ds.map keyD = L.map fun e => some e.2
theorem elts_of {K : PySem.W.Frag} {F : Hp} : ∀ {vs : List V} {ds : List PyData}, RpAll K F vs ds → (∀ d ∈ ds, TupKey d) → ∃ L : List Elt, vs = L.map (fun e => V.ref e.1) ∧ EltsAre K F L ds ∧ ∀ e ∈ L, e.2.depth ≤ 8
  | _, _, .nil, _ => ⟨[], rfl, ⟨.nil, rfl⟩, fun e z => (by cases z)⟩
  | _, _, .cons (v := v) (d := d) r t, h => by
    obtain ⟨L, e1, e2, e3⟩ := elts_of t fun d hd => h d (List.mem_cons_of_mem _ hd)
    obtain ⟨ks, k1, k2⟩ := h d List.mem_cons_self
    cases r with
    | @tup a xs ds' hT ra =>
      refine ⟨(a, .tup ks) :: L, by rw [List.map_cons, e1], ⟨.cons (.tup hT ra) (by rw [← e1]; exact t), by rw [List.map_cons, List.map_cons, e2.ky, k1]⟩, fun e he => ?_⟩
      rcases List.mem_cons.mp he with z | z
      · subst z; exact k2
      · exact e3 e z
    | scr _ => simp [scD, keyD] at k1
    | non => simp [keyD] at k1
    | bl _ => simp [keyD] at k1
    | int _ => simp [keyD] at k1
    | str _ => simp [keyD] at k1
    | lst _ _ => simp [keyD] at k1
    | dct _ _ _ _ => simp [keyD] at k1
theorem elts_sub {K : PySem.W.Frag} {F : Hp} {L : List Elt} {ds : List PyData} (x : EltsAre K F L ds) : ∀ (M : List Elt), (∀ e ∈ M, e ∈ L) → ∃ es, EltsAre K F M es ∧ ∀ d ∈ es, d ∈ ds := by
  have one : ∀ {L : List Elt} {ds : List PyData}, EltsAre K F L ds → ∀ e ∈ L, ∃ d ∈ ds, Rp K F (.ref e.1) d ∧ keyD d = some e.2 := fun {L} => by
    induction L with
    | nil => intro ds _ e he; cases he
    | cons e0 L ih =>
      intro ds ⟨rp, ky⟩ e he
      cases ds with
      | nil => cases ky
      | cons d ds =>
        cases rp with
        | cons r t =>
          have ky' : keyD d = some e0.2 ∧ ds.map keyD = L.map fun e => some e.2 := by simpa using ky
          rcases List.mem_cons.mp he with z | z
          · subst z; exact ⟨d, List.mem_cons_self, r, ky'.1⟩
          · obtain ⟨d2, h1, h2⟩ := ih ⟨t, ky'.2⟩ e z
            exact ⟨d2, List.mem_cons_of_mem _ h1, h2⟩
  intro M
  induction M with
  | nil => intro _; exact ⟨[], ⟨.nil, rfl⟩, fun d z => (by cases z)⟩
  | cons e M ih =>
    intro h
    obtain ⟨es, h1, h2⟩ := ih fun x hx => h x (List.mem_cons_of_mem _ hx)
    obtain ⟨d, h3, h4, h5⟩ := one x e (h e List.mem_cons_self)
    refine ⟨d :: es, ⟨.cons h4 h1.rp, by rw [List.map_cons, List.map_cons, h1.ky, h5]⟩, fun y hy => ?_⟩
    rcases List.mem_cons.mp hy with z | z
    · subst z; exact h3
    · exact h2 y z
/-- what a set is told of the data it was made of -/
structure SetOf (K : PySem.W.Frag) (F : Hp) (L : List Elt) (ds : List PyData) : Prop where
  ex : ∃ es, EltsAre K F L es ∧ es.Nodup ∧ ∀ d, d ∈ es ↔ d ∈ ds
  dp : ∀ e ∈ L, e.2.depth ≤ 8
theorem setOf_has {K : PySem.W.Frag} {F : Hp} {ks L : List Elt} {ds : List PyData} (x : EltsAre K F ks ds) (ok : KeysOk ds) (dp : ∀ e ∈ ks, e.2.depth ≤ 8) (g : Has ks ks.length L) (nd : (L.map (·.2)).Nodup) : SetOf K F L ds := by
  have sub : ∀ e ∈ L, e ∈ ks := fun e he => by have := g.sub e he; rwa [List.take_length] at this
  obtain ⟨es, h1, h2⟩ := elts_sub x L sub
  refine ⟨⟨es, h1, ?_, fun d => ⟨h2 d, fun hd => ?_⟩⟩, fun e he => dp e (sub e he)⟩
  · have : (es.map keyD).Nodup := by
      rw [h1.ky]
      exact List.pairwise_map.mpr ((List.pairwise_map.mp nd).imp fun hne e => hne (Option.some.inj e))
    exact (List.pairwise_map.mp this).imp fun hne e => hne (congrArg keyD e)
  · have k1 : keyD d ∈ ks.map fun e => some e.2 := by rw [← x.ky]; exact List.mem_map.mpr ⟨d, hd, rfl⟩
    obtain ⟨e, he, ee⟩ := List.mem_map.mp k1
    have k2 := g.all e (by rw [List.take_length]; exact he)
    obtain ⟨e2, he2, ee2⟩ := List.mem_map.mp k2
    have k3 : keyD d ∈ es.map keyD := by rw [h1.ky, ← ee, ← ee2]; exact List.mem_map.mpr ⟨e2, he2, rfl⟩
    obtain ⟨d2, hd2, e3⟩ := List.mem_map.mp k3
    rw [← ok.inj d2 (h2 d2 hd2) d hd e3]
    exact hd2
section
variable {X : Cx}
theorem isK_of {pins : List (Addr × Obj)} {σ : St} {H F : Hp} {s : Shared} (I : Inv X pins σ H s) (sF : Same F H) {L : List Elt} {ds : List PyData} (x : EltsAre X.K F L ds) (dp : ∀ e ∈ L, e.2.depth ≤ 8) : ∀ e ∈ L, IsK s.heap e := by
  obtain ⟨rp, ky⟩ := x
  revert dp
  induction L generalizing ds with
  | nil => intro _ e he; cases he
  | cons e0 L ih =>
    intro dp e he
    cases ds with
    | nil => cases ky
    | cons d ds =>
      cases rp with
      | cons r t =>
        have ky' : keyD d = some e0.2 ∧ ds.map keyD = L.map fun e => some e.2 := by simpa using ky
        rcases List.mem_cons.mp he with z | z
        · subst z; exact ⟨key_of I sF d _ _ _ r ky'.1 rfl, dp _ List.mem_cons_self⟩
        · exact ih t ky'.2 (fun x hx => dp x (List.mem_cons_of_mem _ hx)) e z
def rSet (K : PySem.W.Frag) (w : World) : List V → Hp → VK → Prop := fun vs H QV => ∃ F ds, Same F H ∧ (RepL K F H [.list ds] vs ∨ RepL K F H [.tuple ds] vs) ∧ KeysOk ds ∧ ∀ a L, H a = none → SetOf K F L ds → QV (.ref a) (upd H a (SetOb w a L))
theorem cr_set (hc : X.calm = true) (hu : X.A.units + 64 < cLine) : CallR X (.type "set") (rSet X.K X.w) := by
  intro pins s σ H xs us QV I rx ⟨F, ds, sF, rl, ok, q⟩
  have vals : ∀ (L : List Elt) (us : List Value), Vals (L.map fun e => V.ref e.1) us → us = L.map fun e => Value.ref e.1 := fun L => by
    induction L with
    | nil => intro us z; cases z; rfl
    | cons e L ih => intro us z; cases z with
      | cons z1 z2 => cases z1; rw [List.map_cons, ih _ z2]
  have lk : ∀ ks : List Elt, EltsAre X.K F ks ds → ks.length < 64 := fun ks ek => by
    have := congrArg List.length ek.ky
    rw [List.length_map, List.length_map] at this
    rw [← this]; exact ok.few
  rcases rl with rl | rl
  · obtain ⟨v, rfl, r⟩ := rl.one'
    obtain ⟨a, vs, rfl, ha, ra⟩ := r.list sF
    obtain ⟨ks, rfl, ek, dp⟩ := elts_of ra ok.all
    obtain ⟨its, rv, hl, hz⟩ := I.list (SqL.of ha)
    rw [Vals.ref1 rx]
    refine VS.call_set (P := X.prog) (w := X.w) ks (I.ok.hd hc) hl.isList (by simpa using vals ks its rv) (isK_of I sF ek dp) (lk ks ek) (by omega) fun h' tk L es ep t R g k => ?_
    exact ⟨.ref s.heap.objs.size, upd H s.heap.objs.size (SetOb X.w s.heap.objs.size L), I.laid (t' := tk) k (Nat.le_refl _) (setOb_new (sr_s0 R)), rfl, q _ L (I.hok.fresh (Nat.le_refl _)) (setOf_has ek ok dp g R.nd)⟩
  · obtain ⟨v, rfl, r⟩ := rl.one'
    obtain ⟨a, vs, rfl, ha, ra⟩ := r.tup sF
    obtain ⟨ks, rfl, ek, dp⟩ := elts_of ra ok.all
    obtain ⟨its, rv, hl, hz⟩ := I.tuple ha
    rw [Vals.ref1 rx]
    refine VS.call_setT (P := X.prog) (w := X.w) ks (I.ok.hd hc) (show s.heap.IsTuple a its.toArray from hl) (by simpa using vals ks its rv) (isK_of I sF ek dp) (lk ks ek) (by omega) fun h' tk L es ep t R g k => ?_
    exact ⟨.ref s.heap.objs.size, upd H s.heap.objs.size (SetOb X.w s.heap.objs.size L), I.laid (t' := tk) k (Nat.le_refl _) (setOb_new (sr_s0 R)), rfl, q _ L (I.hok.fresh (Nat.le_refl _)) (setOf_has ek ok dp g R.nd)⟩
def rLenS (w : World) : List V → Hp → VK → Prop := fun vs H QV => ∃ a L, vs = [.ref a] ∧ H a = some (SetOb w a L) ∧ QV (.int L.length) H
theorem cr_lenS : CallR X (.builtin "len") (rLenS X.w) := by
  intro pins s σ H xs us QV I rx ⟨a, L, e, ha, q⟩
  subst e
  rw [Vals.ref1 rx]
  have R0 : S0 X.w s.heap a L := (I.hok a _ ha).1
  obtain ⟨es, ep, t, ⟨u, gu, ex, du⟩, h2, h3, _, _, h6, h7⟩ := R0.ex
  have sz := rws_len h2
  refine call_len_set gu ex du (fits_of (by rw [h3.sz, List.length_map, sz]) h3.dm (by omega)) (by omega) ⟨.int L.length, H, I.tok _, ⟨_, by rw [sz]⟩, q⟩
def rSrtS (K : PySem.W.Frag) (w : World) : List V → Hp → VK → Prop := fun vs H QV => ∃ F a L es, vs = [.ref a] ∧ H a = some (SetOb w a L) ∧ Same F H ∧ EltsAre K F L es ∧ (∀ e ∈ L, e.2.depth ≤ 8) ∧
  ∀ es', es'.Perm es → SortOk es' ∧ ∀ p ws, H p = none → RpAll K F ws (es'.mergeSort (PySem.W.dataLe false id)) → QV (.ref p) (upd H p (.lst ws))
theorem perm_refs {L : List Elt} : ∀ {vs : List Value}, vs.Perm (L.map fun e => Value.ref e.1) → ∃ M : List Elt, vs = M.map (fun e => Value.ref e.1) ∧ M.Perm L := by
  have key : ∀ {us vs : List Value}, vs.Perm us → ∀ L : List Elt, us = L.map (fun e => Value.ref e.1) → ∃ M : List Elt, vs = M.map (fun e => Value.ref e.1) ∧ M.Perm L := fun p => by
    induction p with
    | nil => intro L e; exact ⟨[], rfl, by cases L with
      | nil => exact .nil
      | cons _ _ => cases e⟩
    | cons x p ih =>
      intro L e
      cases L with
      | nil => cases e
      | cons y L =>
        obtain ⟨h1, h2⟩ := List.cons.inj e
        obtain ⟨M, m1, m2⟩ := ih L h2
        exact ⟨y :: M, by rw [List.map_cons, m1, h1], m2.cons y⟩
    | swap x y l =>
      intro L e
      match L, e with
      | a :: b :: L, e =>
        obtain ⟨h1, h2⟩ := List.cons.inj e
        obtain ⟨h3, h4⟩ := List.cons.inj h2
        exact ⟨b :: a :: L, by subst h1; subst h3; subst h4; rfl, .swap a b L⟩
    | trans p1 p2 ih1 ih2 =>
      intro L e
      obtain ⟨M, m1, m2⟩ := ih2 L e
      obtain ⟨N, n1, n2⟩ := ih1 M m1
      exact ⟨N, n1, n2.trans m2⟩
  exact fun {vs} p => key p L rfl
theorem elts_perm {K : PySem.W.Frag} {F : Hp} {L M : List Elt} (p : M.Perm L) : ∀ {es : List PyData}, EltsAre K F L es → ∃ es', EltsAre K F M es' ∧ es'.Perm es := by
  induction p with
  | nil => exact fun {es} x => ⟨es, x, .refl _⟩
  | cons e p ih =>
    intro es ⟨rp, ky⟩
    cases es with
    | nil => cases ky
    | cons d ds =>
      cases rp with
      | cons r t =>
        have k1 : keyD d = some e.2 := (List.cons.inj ky).1
        obtain ⟨es', h1, h2⟩ := ih ⟨t, (List.cons.inj ky).2⟩
        exact ⟨d :: es', ⟨.cons r h1.rp, by rw [List.map_cons, List.map_cons, k1, h1.ky]⟩, h2.cons d⟩
  | swap a b L =>
    intro es ⟨rp, ky⟩
    match es, rp, ky with
    | d1 :: d2 :: ds, .cons r1 (.cons r2 t), ky =>
      have ky' : keyD d1 = some a.2 ∧ keyD d2 = some b.2 ∧ ds.map keyD = L.map fun e => some e.2 := by simpa using ky
      exact ⟨d2 :: d1 :: ds, ⟨.cons r2 (.cons r1 t), by rw [List.map_cons, List.map_cons, List.map_cons, List.map_cons, ky'.1, ky'.2.1, ky'.2.2]⟩, .swap d1 d2 ds⟩
  | trans p1 p2 ih1 ih2 =>
    intro es x
    obtain ⟨e1, h1, h2⟩ := ih2 x
    obtain ⟨e2, h3, h4⟩ := ih1 h1
    exact ⟨e2, h3, h4.trans h2⟩
theorem vals_refs : ∀ (L : List Elt), Vals (L.map fun e => V.ref e.1) (L.map fun e => Value.ref e.1)
  | [] => .nil
  | e :: L => .cons rfl (vals_refs L)
mutual
theorem reads_flat {h : Heap} : ∀ (d : PyData) (v : Value) (as : List Addr) (k : NestedKey), Reads h v d as → keyD d = some k → as = []
  | .none, _, _, _, .none, _ => rfl
  | .bool _, _, _, _, .bool _, _ => rfl
  | .int _, _, _, _, .int _ _, _ => rfl
  | .str _, _, _, _, .str _ _, _ => rfl
  | .tuple ds, _, _, _, .tuple _ _ _ r, e => by
    cases e1 : keysD ds with
    | none => simp [keyD, e1] at e
    | some ks => exact reads_flats ds _ _ ks r e1
  | .list _, _, _, _, _, e => by simp [keyD] at e
  | .dict _, _, _, _, _, e => by simp [keyD] at e
theorem reads_flats {h : Heap} : ∀ (ds : List PyData) (vs : List Value) (as : List Addr) (ks : List NestedKey), ReadsAll h vs ds as → keysD ds = some ks → as = []
  | [], _, _, _, .nil, _ => rfl
  | d :: ds, _, _, _, .cons r1 r2, e => by
    cases e1 : keyD d with
    | none => simp [keysD, e1] at e
    | some k =>
      cases e2 : keysD ds with
      | none => simp [keysD, e1, e2] at e
      | some ks' => rw [reads_flat d _ _ _ r1 e1, reads_flats ds _ _ _ r2 e2]; rfl
end
theorem each_flat {h h' : Heap} {a : Addr} (k : ∀ b o, h.get? b = some o → h'.get? b = some o) : ∀ {us : List Value} {ds : List PyData}, PySem.W.EachIs (fun u d => ∃ as, Reads h u (id d) as) us ds → (∀ d ∈ ds, ∃ k, keyD d = some k) → PySem.W.EachIs (fun u d => ∃ as, Reads h' u (id d) as ∧ a ∉ as) us ds
  | _, _, .nil, _ => .nil
  | _, _, .cons ⟨as, r⟩ t, c => by
    obtain ⟨kk, ek⟩ := c _ List.mem_cons_self
    have := reads_flat _ _ _ _ r ek
    subst this
    exact .cons ⟨[], PyProof.Rows.Reads.keeps k r, by simp⟩ (each_flat k t fun d hd => c d (List.mem_cons_of_mem _ hd))
theorem cr_srtS (hc : X.calm = true) (hu : X.A.units + 64 < cLine) : CallR X (.builtin "sorted") (rSrtS X.K X.w) := by
  intro pins s σ H xs us QV I rx ⟨F, a, L, es, e, ha, sF, x, dp, q⟩
  subst e
  rw [Vals.ref1 rx]
  have R0 : S0 X.w s.heap a L := (I.hok a _ ha).1
  obtain ⟨rs, ep, t, R⟩ := R0.full (isK_of I sF x dp)
  obtain ⟨u, gu, ex, du⟩ := R.at'
  have sz := R.sz
  have fw := R.fw
  refine Calls.call_function_entry PyProof.Rows.kind_sorted PyProof.Rows.plain_sorted PyProof.Rows.entry_sorted (PyProof.Rows.args_sorted1 _) ?_
  unfold Builtin.«sorted»
  refine wpAny_bind (m := checkCount "sorted" 1 1 _) (wpAny_pure ?_)
  refine wpAny_bind (collect_set (A := X.A.in1) (I.ok.hd hc) ⟨u, gu, ex.1, du⟩ R.ft (by unfold scanBound; omega) R.tb.ris R.ld fun s1 vs k1 z1 g1 o1 pm => ?_)
  have er : rs.toList.map (·.2) = L.map fun e => Value.ref e.1 := by rw [R.rw', rws, List.map_map]; rfl
  rw [er] at pm
  obtain ⟨M, rfl, pM⟩ := perm_refs pm
  obtain ⟨es', x', pe⟩ := elts_perm pM x
  obtain ⟨⟨q1, q2, q3, q4⟩, q5⟩ := q es' pe
  have lM : M.length < 64 := by rw [pM.length_eq]; exact fw
  have rv : Vals (M.map fun e => V.ref e.1) (M.map fun e => Value.ref e.1) := vals_refs M
  refine wpAny_bind (wpAny_newList ?_ (by rw [List.length_map, sizeLine_eq]; omega))
  have gL : (s1.heap.push (PyProof.Rows.seqObj "list" (M.map fun e => Value.ref e.1).toArray 0)).get? s1.heap.objs.size = some (PyProof.Rows.seqObj "list" (M.map fun e => Value.ref e.1).toArray 0) := Heap.get?_push_size _ rfl
  have reads : PySem.W.EachIs (fun u d => ∃ as, Reads (s1.heap.push (PyProof.Rows.seqObj "list" (M.map fun e => Value.ref e.1).toArray 0)) u (id d) as ∧ s1.heap.objs.size ∉ as) (M.map fun e => Value.ref e.1) es' := by
    refine each_flat (fun b o z => Heap.get?_push_of_some _ (k1 b o z)) (each_reads I sF rv x'.rp fun d hd => (q4 d hd).1) fun d hd => ?_
    have : keyD d ∈ M.map fun e => some e.2 := by rw [← x'.ky]; exact List.mem_map.mpr ⟨d, hd, rfl⟩
    obtain ⟨e, _, ee⟩ := List.mem_map.mp this
    exact ⟨_, ee.symm⟩
  refine wpAny_bind (wpAny_holding (PySem.W.list_sort_data (enc := id) (R := fun u d => ∃ x, RelV x u ∧ Rp X.K F x d) (bs := es') (s := { s1 with heap := s1.heap.push (PyProof.Rows.seqObj "list" (M.map fun e => Value.ref e.1).toArray 0) }) gL (each_rp rv x'.rp) reads (by rw [List.map_id]; exact q1) (by rw [List.map_id]; exact q2) q3 (fun d hd => ?_) fun out ho e => ?_))
  · have := (q4 d hd).2
    show X.A.units + 1 + 1 + d.depth < cLine
    omega
  · obtain ⟨ws, w1, w2⟩ := rp_each e
    obtain ⟨c, hcc⟩ := PyProof.Rows.sortedHeap_at (vs := M.map fun e => Value.ref e.1) (out := out.toArray) gL
    have hlen : ws.length ≤ sizeLine := by rw [w2.length, List.length_mergeSort]; exact q3
    have old : ∀ b o, s.heap.get? b = some o → (PyProof.Rows.sortedHeap (s1.heap.push (PyProof.Rows.seqObj "list" (M.map fun e => Value.ref e.1).toArray 0)) s1.heap.objs.size (M.map fun e => Value.ref e.1) out.toArray).get? b = some o := fun b o z => by
      have z1 := k1 b o z
      have lt := Heap.lt_size z1
      rw [PyProof.Rows.sortedHeap_old (Nat.ne_of_lt lt) (by rw [PyProof.Rows.size_push']; exact Nat.lt_succ_of_lt lt)]
      exact Heap.get?_push_of_some _ z1
    refine wpAny_pure ⟨_, rfl, ?_⟩
    have hn : H s1.heap.objs.size = none := I.hok.fresh z1
    refine ⟨.ref s1.heap.objs.size, _, I.call' (ch := []) o1 (Un.laid old z1 hn) (I.hok.laid old z1 (o := .lst ws) ⟨hlen, out, c, w1, hcc⟩) (by rw [g1]; exact I.bare) (fun _ z => nomatch z), rfl, q5 _ ws hn w2⟩
def cdSrtSet : List PyData → (O → Prop) → Prop
  | [.list ds], Q => KeysOk ds ∧ ∀ L : List PyData, L.Nodup → (∀ d, d ∈ L ↔ d ∈ ds) → SortOk L ∧ Q (.ls (L.mergeSort (PySem.W.dataLe false id)))
  | [.tuple ds], Q => KeysOk ds ∧ ∀ L : List PyData, L.Nodup → (∀ d, d ∈ L ↔ d ∈ ds) → SortOk L ∧ Q (.ls (L.mergeSort (PySem.W.dataLe false id)))
  | _, _ => False
def cdLenSet : List PyData → (O → Prop) → Prop
  | [.list ds], Q => KeysOk ds ∧ ∀ L : List PyData, L.Nodup → (∀ d, d ∈ L ↔ d ∈ ds) → Q (.fz (.int L.length))
  | [.tuple ds], Q => KeysOk ds ∧ ∀ L : List PyData, L.Nodup → (∀ d, d ∈ L ↔ d ∈ ds) → Q (.fz (.int L.length))
  | _, _ => False
theorem OpPost.newL2 {K : PySem.W.Frag} {F H : Hp} {Q : O → Prop} {QV : VK} (p : OpPost K F H Q QV) (s : Same F H) {ds : List PyData} {vs : List V} {a b : Addr} {u : HO} (n1 : H a = none) (n2 : upd H a u b = none) (r : RpAll K F vs ds) (q : Q (.ls ds)) : QV (.ref b) (upd (upd H a u) b (.lst vs)) := by
  have nb : H b = none := (same_new n1).free n2
  exact p F (VL.one b (.lst vs)) _ _ _ (Grow.stay s ((same_new n1).trans (same_new n2))) (own_ls.mpr ⟨b, vs, rfl, rfl, r⟩) (same_one upd_same) (dis_one (s.free nb)) (fun x z => by
    by_cases e : x = b
    · subst e; exact nb
    · rw [one_ne e] at z; exact absurd rfl z) q
theorem OpPost.val2 {K : PySem.W.Frag} {F H : Hp} {Q : O → Prop} {QV : VK} (p : OpPost K F H Q QV) (s : Same F H) {d : PyData} {v : V} {a : Addr} {u : HO} (n1 : H a = none) (r : Rp K F v d) (q : Q (.fz d)) : QV v (upd H a u) :=
  p F emp _ _ _ (Grow.stay s (same_new n1)) (own_fz.mpr ⟨rfl, r⟩) same_emp Dis.emp (fun x z => absurd rfl z) q
variable {x y : Str} {p p2 q2 pos : Pos} {e : Expr} {τs : EA}
theorem srtSet_read {σ : St} {H : Hp} {QV : VK} (h : lO X.K (eCB cdSrtSet τs) σ H QV) : tCB (rSet X.K X.w) (lA X.K τs) σ H fun v H1 => rSrtS X.K X.w [v] H1 QV := by
  obtain ⟨pn, Z, F, Γ, hh, Q, A, q, k⟩ := h
  refine ⟨pn, Z, F, Γ, hh, _, A, q, fun F1 Γ1 h1 H1 as vs s1 A1 r1 ⟨ds, e1, q1⟩ => ?_⟩
  unfold cdSrtSet at q1
  split at q1
  · rename_i ds
    refine ⟨F1, ds, A1.FH, .inl (reps_of A1 r1 e1), q1.1, fun a L n so => ?_⟩
    obtain ⟨es, h1, h2, h3⟩ := so.ex
    refine ⟨F1, a, L, es, rfl, upd_same, A1.FH.trans (same_new n), h1, so.dp, fun es' pe => ?_⟩
    obtain ⟨o1, o2⟩ := q1.2 es' (pe.nodup_iff.mpr h2) fun d => (pe.mem_iff).trans (h3 d)
    exact ⟨o1, fun pp ws n2 w => (A1.post s1 k).newL2 A1.FH n n2 w o2⟩
  · rename_i ds
    refine ⟨F1, ds, A1.FH, .inr (reps_of A1 r1 e1), q1.1, fun a L n so => ?_⟩
    obtain ⟨es, h1, h2, h3⟩ := so.ex
    refine ⟨F1, a, L, es, rfl, upd_same, A1.FH.trans (same_new n), h1, so.dp, fun es' pe => ?_⟩
    obtain ⟨o1, o2⟩ := q1.2 es' (pe.nodup_iff.mpr h2) fun d => (pe.mem_iff).trans (h3 d)
    exact ⟨o1, fun pp ws n2 w => (A1.post s1 k).newL2 A1.FH n n2 w o2⟩
  · exact q1.elim
theorem vo_srtSet (hc : X.calm = true) (hu : X.A.units + 64 < cLine) (hg : Gl X "sorted") (hm : X.mg "sorted" = none) (hg2 : Gl X "set") (hm2 : X.mg "set" = none) (ha : PA X [e] (lA X.K τs)) (he : starEach [e] X.env = (false, eval e X.env) :: starEach [] X.env := by rfl) :
    PE X (.Call (.Name "sorted" p) [.Call (.Name "set" p2) [e] [] q2] [] pos) (lO X.K (eCB cdSrtSet τs)) :=
  pe_imp (pe_callB (cr_srtS hc hu) hg hm PyProof.Rows.boot_sorted (pa_cons (pe_callTy (cr_set hc hu) hg2 hm2 PyProof.Rows.boot_set ha (by decide) (by decide) he rfl) pa_nil rfl)) fun σ H QV h => srtSet_read h
theorem lenSet_read {σ : St} {H : Hp} {QV : VK} (h : lO X.K (eCB cdLenSet τs) σ H QV) : tCB (rSet X.K X.w) (lA X.K τs) σ H fun v H1 => rLenS X.w [v] H1 QV := by
  obtain ⟨pn, Z, F, Γ, hh, Q, A, q, k⟩ := h
  refine ⟨pn, Z, F, Γ, hh, _, A, q, fun F1 Γ1 h1 H1 as vs s1 A1 r1 ⟨ds, e1, q1⟩ => ?_⟩
  unfold cdLenSet at q1
  split at q1
  · rename_i ds
    refine ⟨F1, ds, A1.FH, .inl (reps_of A1 r1 e1), q1.1, fun a L n so => ?_⟩
    obtain ⟨es, h1, h2, h3⟩ := so.ex
    have el : es.length = L.length := by have := congrArg List.length h1.ky; rwa [List.length_map, List.length_map] at this
    refine ⟨a, L, rfl, upd_same, (A1.post s1 k).val2 A1.FH n (.int _) ?_⟩
    rw [← el]
    exact q1.2 es h2 h3
  · rename_i ds
    refine ⟨F1, ds, A1.FH, .inr (reps_of A1 r1 e1), q1.1, fun a L n so => ?_⟩
    obtain ⟨es, h1, h2, h3⟩ := so.ex
    have el : es.length = L.length := by have := congrArg List.length h1.ky; rwa [List.length_map, List.length_map] at this
    refine ⟨a, L, rfl, upd_same, (A1.post s1 k).val2 A1.FH n (.int _) ?_⟩
    rw [← el]
    exact q1.2 es h2 h3
  · exact q1.elim
theorem vo_lenSet (hc : X.calm = true) (hu : X.A.units + 64 < cLine) (hg : Gl X "len") (hm : X.mg "len" = none) (hg2 : Gl X "set") (hm2 : X.mg "set" = none) (ha : PA X [e] (lA X.K τs)) (he : starEach [e] X.env = (false, eval e X.env) :: starEach [] X.env := by rfl) :
    PE X (.Call (.Name "len" p) [.Call (.Name "set" p2) [e] [] q2] [] pos) (lO X.K (eCB cdLenSet τs)) :=
  pe_imp (pe_callB cr_lenS hg hm PySem.boot_len (pa_cons (pe_callTy (cr_set hc hu) hg2 hm2 PyProof.Rows.boot_set ha (by decide) (by decide) he rfl) pa_nil rfl)) fun σ H QV h => lenSet_read h
end
end VL
end
section
namespace VL
open PySem PySem.Spec L2
/-! a, b, c = x, y, z -/
def sPar3 (i j l : Nat) (τs : EA) : ES := fun D Γ => τs Γ fun as Γ1 => ∃ a b c Γ2 Γ3 Γ4, as = [.d a, .d b, .d c] ∧ setG Γ1 i (some (.fz a)) = some Γ2 ∧ setG Γ2 j (some (.fz b)) = some Γ3 ∧ setG Γ3 l (some (.fz c)) = some Γ4 ∧ D.nx Γ4
section
variable {X : Cx} {io : Bool} {pos : Pos} {τs : EA}
theorem vs_par3 {i j l : Nat} {x y z : Str} {a b c : Expr} {px py pz pt : Pos} {kt k2 pt2} (hc : X.calm = true) (hN : X.N.Nodup) (hi : X.N[i]? = some x) (hj : X.N[j]? = some y) (hl : X.N[l]? = some z) (hij : i ≠ j) (hil : i ≠ l) (hjl : j ≠ l)
    (hx : X.env.scope.names.lookup x = some .local) (hy : X.env.scope.names.lookup y = some .local) (hz : X.env.scope.names.lookup z = some .local) (h0 : io = true → i ≠ 0 ∧ j ≠ 0 ∧ l ≠ 0) (ha : PA X [a, b, c] (lA X.K τs))
    (hw : swappedStores [.Tuple [.Name x px, .Name y py, .Name z pz] kt pt] (.Tuple [a, b, c] k2 pt2) X.env = pure (some [x, y, z]))
    (hs : swapsWithSole [.Tuple [.Name x px, .Name y py, .Name z pz] kt pt] (.Tuple [a, b, c] k2 pt2) pos.line X.env = pure false := by rfl) :
    PS X (.Assign [.Tuple [.Name x px, .Name y py, .Name z pz] kt pt] (.Tuple [a, b, c] k2 pt2) pos) (lS X.K io (sPar3 i j l τs)) :=
  ps_imp (ps_par3 hc hN hi hj hl hij hil hjl hx hy hz ha hw hs) fun D σ H ⟨v0, Z, F, Γ, h, DD, A, q, k⟩ => ⟨_, Z, F, Γ, h, _, A, q, fun F1 Γ1 h1 H1 as vs s1 A1 r1 ⟨d1, d2, d3, Γ2, Γ3, Γ4, e0, e1, e2, e3, q1⟩ => by
    subst e0
    obtain ⟨v1, _, rfl, w1, v2, _, rfl, w2, v3, _, rfl, w3, rfl⟩ := r1
    obtain ⟨i1, l1⟩ := setG_eq e1
    obtain ⟨i2, l2⟩ := setG_eq e2
    obtain ⟨i3, l3⟩ := setG_eq e3
    subst i1; subst i2; subst i3
    obtain ⟨h2, A2⟩ := A1.put (show Rp X.K F1 v1 d1 from w1) l1 (pns_ne fun z => (h0 z).1)
    obtain ⟨h3, A3⟩ := A2.put (show Rp X.K F1 v2 d2 from w2) l2 (pns_ne fun z => (h0 z).2.1)
    obtain ⟨h4, A4⟩ := A3.put (show Rp X.K F1 v3 d3 from w3) l3 (pns_ne fun z => (h0 z).2.2)
    exact ⟨v1, v2, v3, rfl, k.nx F1 _ _ h4 H1 s1 A4 q1⟩⟩
end
section
variable {D : En} {Γ : Ga} {τs : EA} {i j l : Nat}
theorem st_par3 (h : τs Γ fun as Γ1 => ∃ a b c Γ2 Γ3 Γ4, as = [.d a, .d b, .d c] ∧ setG Γ1 i (some (.fz a)) = some Γ2 ∧ setG Γ2 j (some (.fz b)) = some Γ3 ∧ setG Γ3 l (some (.fz c)) = some Γ4 ∧ D.nx Γ4) : sPar3 i j l τs D Γ := h
end
end VL
end
section
namespace VL
open PySem PySem.Spec L2
/-! [e for a in xs for b in ys] -/
/-- a grown list at D, in all that does not hold D -/
theorem AtR.grown {K : PySem.W.Frag} {pn : List (Nat × V)} {Z F : Hp} {Γ : Ga} {σ : St} {h H : Hp} {D : Addr} {xs : List V} (A : AtR K pn Z F Γ σ h (VL.one D (.lst xs)) H) (v : V) :
    AtR K pn Z F Γ σ h (VL.one D (.lst (xs ++ [v]))) (upd H D (.lst (xs ++ [v]))) := by
  have nD : ∀ (G : Hp), Dis (VL.one D (.lst xs)) G → Same G H → Same G (upd H D (.lst (xs ++ [v]))) := fun G dG sG a o e => by
    by_cases z : a = D
    · subst z; rw [of_dis_one dG] at e; cases e
    · rw [upd_ne z]; exact sG _ _ e
  exact ⟨⟨A.at_.own, nD _ A.rh A.at_.hH, nD _ A.rF A.at_.FH, nD _ A.rZ A.at_.ZH, A.at_.FZ, A.at_.hF, A.at_.hZ, A.at_.pin⟩, same_one upd_same, dis_one (of_dis_one A.rh), dis_one (of_dis_one A.rF), dis_one (of_dis_one A.rZ)⟩
/-- the block's slots put back, D beside -/
theorem At.backed {K : PySem.W.Frag} {pn : List (Nat × V)} {Z F2 F5 : Hp} {Γ1 Γ2 Γ5 : Ga} {σ σ4 : St} {h2 h5 H5 : Hp} {D : Addr} {xs : List V} {vs : List Nat} (dZ : Dis Z (VL.one D (.lst xs))) (l1 : Γ1.length = σ.length) (pin : ∀ p ∈ pn, σ[p.1]? = some (some p.2))
    (w2 : OwnS K F2 Γ2 σ h2) (sF : Same F2 F5) (pl : Plain Γ1 vs) (sl : ∀ j ∈ vs, Γ2[j]? = Γ1[j]?) (wσ : L2.wipe σ4 vs = L2.wipe σ vs) (A5 : At K (pns false .non) (jn Z (VL.one D (.lst xs))) F5 Γ5 σ4 h5 H5) :
    ∃ h6, AtR K pn Z F5 (backG Γ1 Γ5 vs) σ h6 (VL.one D (.lst xs)) H5 ∧ ∀ j ∈ vs, (backG Γ1 Γ5 vs)[j]? = Γ1[j]? := by
  have lσ : σ.length = σ4.length := (len_wipe wσ).symm
  have l5 : Γ1.length = Γ5.length := by rw [A5.own.len, ← lσ, ← l1]
  obtain ⟨h6, σ6, s6, w6, n6, in6, out6⟩ := A5.own.back (Γ0 := Γ1) (σ0 := σ) vs (fun j hj => by
    rcases pl j hj with e | ⟨d, e⟩
    · exact .inl e
    · obtain ⟨u, e2, r⟩ := w2.get (show Γ2[j]? = some (some (.fz d)) by rw [sl j hj]; exact e)
      exact .inr ⟨d, u, e, e2, Rp.mono sF r⟩) lσ l5
  have eσ : σ6 = σ := by
    apply List.ext_getElem?
    intro j
    by_cases hj : j ∈ vs
    · exact in6 j hj
    · rw [out6 j hj, out_wipe wσ hj]
  subst eσ
  exact ⟨h6, At.unkeep dZ ⟨w6, s6.trans A5.hH, A5.FH, A5.ZH, A5.FZ, Dis.sub s6 A5.hF, Dis.sub s6 A5.hZ, pin⟩, fun j hj => backG_get l5 hj⟩
theorem wipe_wipe (σ : St) (vs : List Nat) : L2.wipe (L2.wipe σ vs) vs = L2.wipe σ vs := lc_read.wipe_wipe σ vs
theorem loop_in {K : PySem.W.Frag} {g : EG} {te : EX} {ws vs : List Nat} (hw : ∀ i ∈ ws, i ∈ vs) {pn : List (Nat × V)} {Z F1 : Hp} {Γ1 : Ga} {σ : St} {h1 H1 : Hp} {D : Addr} {xs0 : List V} {acc0 ds : List PyData} {J : It}
    (A1 : AtR K pn Z F1 Γ1 σ h1 (VL.one D (.lst xs0)) H1) (ra0 : RpAll K F1 xs0 acc0) (ok : ItOk K J F1 ds) (pl : Plain Γ1 vs) (I : Nat → List PyData → Ga → Prop) (i0 : I 0 acc0 Γ1)
    (turn : ∀ i d acc Γ', ds[i]? = some d → I i acc Γ' → (∀ j ∈ vs, Γ'[j]? = Γ1[j]?) → ∃ Γw, nrm (wipeG Γ' vs) = some Γw ∧ g d Γw fun Γ2 => te Γ2 fun a Γ4 => ∃ y, a = .d y ∧ acc.length < sizeLine ∧ ∃ Γb, nrm (backG Γ1 Γ4 vs) = some Γb ∧ I (i + 1) (acc ++ [y]) Γb)
    (Nx : Hp → Prop) (fin : ∀ F' Γ' h' acc xs H', Same F1 F' → AtR K pn Z F' Γ' σ h' (VL.one D (.lst xs)) H' → RpAll K F' xs acc → (∀ j ∈ vs, Γ'[j]? = Γ1[j]?) → I ds.length acc Γ' → Nx H') :
    ∃ W1 : Nat → Nat → Hp → Prop, (∃ m, W1 0 m H1) ∧ ∀ j k H, W1 j k H → (J.stop j H ∧ Nx H) ∨ (J.go j H ∧ ∃ Nx1 : Hp → Prop, (∀ H', Nx1 H' → ∃ k', k' < k ∧ W1 (j + 1) k' H') ∧ ∀ x H', J.yld j H x H' → lG K false ws g x (L2.wipe σ vs) H' fun σ3 H5 => L2.wipe σ3 vs = L2.wipe σ vs ∧ L2.tYes σ3 H5 fun b H6 =>
      if b = true then lX K te σ3 H6 fun y H7 => ∃ acc, H7 D = some (.lst acc) ∧ acc.length < sizeLine ∧ Nx1 (upd H7 D (.lst (acc ++ [y]))) else Nx1 H6) := by
  have l1 := A1.at_.own.len
  refine ⟨fun i m H' => m = ds.length - i ∧ i ≤ ds.length ∧ ∃ F' Γ' h' acc xs, Same F1 F' ∧ AtR K pn Z F' Γ' σ h' (VL.one D (.lst xs)) H' ∧ RpAll K F' xs acc ∧ (∀ j ∈ vs, Γ'[j]? = Γ1[j]?) ∧ I i acc Γ',
    ⟨ds.length, by simp, Nat.zero_le _, F1, Γ1, h1, acc0, xs0, Same.refl _, A1, ra0, fun _ _ => rfl, i0⟩, ?_⟩
  rintro i m H2 ⟨rfl, hi, F2, Γ2, h2, acc, xs, s2, A2, ra, sl, w2⟩
  by_cases hlt : i < ds.length
  · refine .inr ⟨ok.go F2 H2 i s2 A2.at_.FH hlt, fun H' => ∃ F' Γ' h' acc xs, Same F1 F' ∧ AtR K pn Z F' Γ' σ h' (VL.one D (.lst xs)) H' ∧ RpAll K F' xs acc ∧ (∀ j ∈ vs, Γ'[j]? = Γ1[j]?) ∧ I (i + 1) acc Γ',
      fun H' ⟨F', Γ', h', acc', xs', s', A', r', sl', w'⟩ => ⟨ds.length - (i + 1), by omega, rfl, hlt, F', Γ', h', acc', xs', s', A', r', sl', w'⟩, fun x H' y => ?_⟩
    obtain ⟨F3, d, g3, e3, r3⟩ := ok.yld F2 H2 i x H' s2 A2.at_.FH hlt y
    have B : At K pn (jn Z (VL.one D (.lst xs))) F3 Γ2 σ h2 H' := (AtR.keep A2).grow g3
    obtain ⟨h2', sw, ow⟩ := B.own.wipe vs
    have C : At K (pns false .non) (jn Z (VL.one D (.lst xs))) F3 (wipeG Γ2 vs) (L2.wipe σ vs) h2' H' := ⟨ow, sw.trans B.hH, B.FH, B.ZH, B.FZ, Dis.sub sw B.hF, Dis.sub sw B.hZ, fun p hp => nomatch hp⟩
    have dZ : Dis Z (VL.one D (.lst xs)) := A2.rZ.symm
    obtain ⟨Γw, eΓw, tq⟩ := turn i d acc Γ2 e3 w2 sl
    rw [nrm_eq eΓw] at C
    refine ⟨.non, _, F3, _, h2', d, _, C, r3, tq, fun F4 Γ4 σ4 h4 H4 s4 o4 A4 q4 => ?_⟩
    have wσ : L2.wipe σ4 vs = L2.wipe σ vs := by rw [o4 vs hw]; exact wipe_wipe σ vs
    refine ⟨wσ, ?_⟩
    unfold L2.tYes
    dsimp only
    rw [if_pos rfl]
    refine ⟨_, _, F4, Γ4, h4, _, A4, q4, fun F6 Γ6 h6 H6 a v s6 A6 r6 ⟨y, e6, z6, Γb, eb, q6⟩ => ?_⟩
    subst e6
    have sF : Same F2 F6 := (g3.fs.trans s4).trans s6
    obtain ⟨h7, A7, sl7⟩ := At.backed dZ (by rw [← l1]) A2.at_.pin A2.at_.own sF pl sl wσ A6
    rw [nrm_eq eb] at A7 sl7
    exact ⟨xs, A7.rH _ _ one_at, by rw [ra.length]; exact z6, F6, _, h7, acc ++ [y], xs ++ [v], s2.trans sF, A7.grown v, (RpAll.mono sF ra).append (.one r6), sl7, q6⟩
  · have e : i = ds.length := by omega
    subst e
    exact .inl ⟨ok.stop F2 H2 _ s2 A2.at_.FH (Nat.le_refl _), fin F2 Γ2 h2 acc xs H2 s2 A2 ra sl w2⟩
def eLc2 (τi : EI) (g : EG) (τj : EI) (g1 : EG) (te : EX) (vs vs1 : List Nat) : EO := fun Γ Q => τi Γ fun ds Γ1 => Plain Γ1 vs ∧ ∃ I : Nat → List PyData → Ga → Prop, I 0 [] Γ1 ∧
  (∀ i d acc Γ', ds[i]? = some d → I i acc Γ' → (∀ j ∈ vs, Γ'[j]? = Γ1[j]?) → ∃ Γw, nrm (wipeG Γ' vs) = some Γw ∧ g d Γw fun Γ2 => τj Γ2 fun es Γ3 => Plain Γ3 vs1 ∧ ∃ I1 : Nat → List PyData → Ga → Prop, I1 0 acc Γ3 ∧
    (∀ j e acc Γ', es[j]? = some e → I1 j acc Γ' → (∀ x ∈ vs1, Γ'[x]? = Γ3[x]?) → ∃ Γw, nrm (wipeG Γ' vs1) = some Γw ∧ g1 e Γw fun Γ2 => te Γ2 fun a Γ4 => ∃ y, a = .d y ∧ acc.length < sizeLine ∧ ∃ Γb, nrm (backG Γ3 Γ4 vs1) = some Γb ∧ I1 (j + 1) (acc ++ [y]) Γb) ∧
    ∀ acc Γ', I1 es.length acc Γ' → ∃ Γb, nrm (backG Γ1 Γ' vs) = some Γb ∧ I (i + 1) acc Γb) ∧
  ∀ acc Γ', I ds.length acc Γ' → Q (.ls acc) Γ'
theorem lc2_read {K : PySem.W.Frag} {τi τj : EI} {g g1 : EG} {te : EX} {ws ws1 vs vs1 : List Nat} (hw : ∀ i ∈ ws, i ∈ vs) (hw1 : ∀ i ∈ ws1, i ∈ vs1) {σ : St} {H : Hp} {QV : VK} (hh : lO K (eLc2 τi g τj g1 te vs vs1) σ H QV) :
    tLc2 (lI K τi) (lG K false ws g) L2.tYes (lI K τj) (lG K false ws1 g1) L2.tYes (lX K te) vs vs1 σ H QV := by
  obtain ⟨pn, Z, F, Γ, h, Q, A, q, k⟩ := hh
  refine ⟨pn, Z, F, Γ, h, _, A, q, fun F1 Γ1 h1 H1 J ds s1 A1 ok ⟨pl, I, i0, turn, fin⟩ D hD => ?_⟩
  have l1 := A1.own.len
  refine ⟨fun i m H' => m = ds.length - i ∧ i ≤ ds.length ∧ ∃ F' Γ' h' acc xs, Same F1 F' ∧ AtR K pn Z F' Γ' σ h' (VL.one D (.lst xs)) H' ∧ RpAll K F' xs acc ∧ (∀ j ∈ vs, Γ'[j]? = Γ1[j]?) ∧ I i acc Γ',
    ⟨ds.length, by simp, Nat.zero_le _, F1, Γ1, h1, [], [], Same.refl _, A1.beside (Grow.stay A1.FH (same_new hD)) (same_one upd_same) (dis_one (A1.FH.free hD)) (fun a z => ?_), .nil, fun _ _ => rfl, i0⟩, ?_⟩
  · by_cases e : a = D
    · subst e; exact hD
    · rw [one_ne e] at z; exact absurd rfl z
  rintro i m H2 ⟨rfl, hi, F2, Γ2, h2, acc, xs, s2, A2, ra, sl, w2⟩
  by_cases hlt : i < ds.length
  · refine .inr ⟨ok.go F2 H2 i s2 A2.at_.FH hlt, fun H' => ∃ F' Γ' h' acc xs, Same F1 F' ∧ AtR K pn Z F' Γ' σ h' (VL.one D (.lst xs)) H' ∧ RpAll K F' xs acc ∧ (∀ j ∈ vs, Γ'[j]? = Γ1[j]?) ∧ I (i + 1) acc Γ',
      fun H' ⟨F', Γ', h', acc', xs', s', A', r', sl', w'⟩ => ⟨ds.length - (i + 1), by omega, rfl, hlt, F', Γ', h', acc', xs', s', A', r', sl', w'⟩, fun x H' y => ?_⟩
    obtain ⟨F3, d, g3, e3, r3⟩ := ok.yld F2 H2 i x H' s2 A2.at_.FH hlt y
    have B : At K pn (jn Z (VL.one D (.lst xs))) F3 Γ2 σ h2 H' := (AtR.keep A2).grow g3
    obtain ⟨h2', sw, ow⟩ := B.own.wipe vs
    have C : At K (pns false .non) (jn Z (VL.one D (.lst xs))) F3 (wipeG Γ2 vs) (L2.wipe σ vs) h2' H' := ⟨ow, sw.trans B.hH, B.FH, B.ZH, B.FZ, Dis.sub sw B.hF, Dis.sub sw B.hZ, fun p hp => nomatch hp⟩
    have dZ : Dis Z (VL.one D (.lst xs)) := A2.rZ.symm
    obtain ⟨Γw, eΓw, tq⟩ := turn i d acc Γ2 e3 w2 sl
    rw [nrm_eq eΓw] at C
    refine ⟨.non, _, F3, _, h2', d, _, C, r3, tq, fun F4 Γ4 σ4 h4 H4 s4 o4 A4 q4 => ?_⟩
    have wσ : L2.wipe σ4 vs = L2.wipe σ vs := by rw [o4 vs hw]; exact wipe_wipe σ vs
    refine ⟨wσ, ?_⟩
    unfold L2.tYes
    dsimp only
    rw [if_pos rfl]
    refine ⟨_, _, F4, Γ4, h4, _, A4, q4, fun F5 Γ5 h5 H5 J1 es s5 A5 ok1 ⟨pl1, I1, i1, turn1, fin1⟩ => ?_⟩
    have A5' := At.unkeep dZ A5
    have ra5 : RpAll K F5 xs acc := RpAll.mono ((g3.fs.trans s4).trans s5) ra
    refine loop_in hw1 A5' ra5 ok1 pl1 I1 i1 turn1 _ fun F6 Γ6 h6 acc6 xs6 H6 s6 A6 ra6 sl6 w6 => ?_
    obtain ⟨Γb, eb, qb⟩ := fin1 acc6 Γ6 w6
    have sF : Same F2 F6 := ((g3.fs.trans s4).trans s5).trans s6
    have dZ6 : Dis Z (VL.one D (.lst xs6)) := A6.rZ.symm
    obtain ⟨h7, A7, sl7⟩ := At.backed dZ6 (by rw [← l1]) A2.at_.pin A2.at_.own sF pl sl wσ (AtR.keep A6)
    rw [nrm_eq eb] at A7 sl7
    exact ⟨F6, _, h7, acc6, xs6, s2.trans sF, A7, ra6, sl7, qb⟩
  · have e : i = ds.length := by omega
    subst e
    refine .inl ⟨ok.stop F2 H2 _ s2 A2.at_.FH (Nat.le_refl _), ?_⟩
    exact k F2 Γ2 h2 _ H2 (.ls acc) (.ref D) (s1.trans s2) A2 ⟨D, xs, rfl, rfl, ra⟩ (fin acc Γ2 w2)
section
variable {X : Cx}
theorem vo_lc2 {elt tg iter tg1 iter1 : Expr} {scope : Scope} {own : List (Str × Nat)} {vs1 ws ws1 : List Nat} {pos : Pos} {τi τj : EI} {g g1 : EG} {te : EX} (hc : X.calm = true) (hN : X.N.Nodup) (hi : PI X tg iter (lI X.K τi)) (ok : BlkOk X.N X.env.scope scope own) (hv : ∀ i ∈ vs1, i ∈ own.map (·.2))
    (hg : ∀ (s : Shared) (H : Hp) (C : Addr) (cl : List (Str × Addr)) (fp : List Addr), PG (X.blk s H scope (compEnvC scope cl C X.env) fp) tg (lG X.K false ws g)) (hw : ∀ i ∈ ws, i ∈ own.map (·.2))
    (hi1 : ∀ (s : Shared) (H : Hp) (C : Addr) (cl : List (Str × Addr)) (fp : List Addr), PI (X.blk s H scope (compEnvC scope cl C X.env) fp) tg1 iter1 (lI X.K τj))
    (hg1 : ∀ (s : Shared) (H : Hp) (C : Addr) (cl : List (Str × Addr)) (fp : List Addr), PG (X.blk s H scope (compEnvC scope cl C X.env) fp) tg1 (lG X.K false ws1 g1)) (hw1 : ∀ i ∈ ws1, i ∈ vs1)
    (he : ∀ (s : Shared) (H : Hp) (C : Addr) (cl : List (Str × Addr)) (fp : List Addr), PE (X.blk s H scope (compEnvC scope cl C X.env) fp) elt (lX X.K te)) (hs : ∀ x, foldedSetIterable iter X.env x = pure x := by intro _; rfl) (hs1 : ∀ env x, foldedSetIterable iter1 env x = pure x := by intro _ _; rfl) :
    PE X (.ListComp elt [⟨tg, iter, [], 0⟩, ⟨tg1, iter1, [], 0⟩] scope pos) (lO X.K (eLc2 τi g τj g1 te (own.map (·.2)) vs1)) :=
  pe_imp (pe_lc2 hc hN hi ok hv hg (fun _ _ _ _ _ => pts_nil) hi1 hg1 (fun _ _ _ _ _ => pts_nil) he hs hs1) fun σ H QV h => lc2_read hw hw1 h
end
end VL
end
section
namespace VL
open PySem PySem.Spec L2 VS
/-! ### sorted(xs), xs a list or a tuple -/
def cdSortedA : List PyData → (O → Prop) → Prop
  | [.list ds], Q => SortOk ds ∧ Q (.ls (ds.mergeSort (PySem.W.dataLe false id)))
  | [.tuple ds], Q => SortOk ds ∧ Q (.ls (ds.mergeSort (PySem.W.dataLe false id)))
  | _, _ => False
mutual
theorem reads_there {h : Heap} : ∀ (d : PyData) (v : Value) (as : List Addr), Reads h v d as → d.canLay0 = true → ∀ a ∈ as, ∃ o, h.get? a = some o
  | .none, _, _, .none, _, _, z => nomatch z
  | .bool _, _, _, .bool _, _, _, z => nomatch z
  | .int _, _, _, .int _ _, _, _, z => nomatch z
  | .str _, _, _, .str _ _, _, _, z => nomatch z
  | .tuple ds, _, _, .tuple _ _ _ r, c, a, z => reads_theres ds _ _ r (by simpa [PyData.canLay0] using c) a z
  | .list ds, _, _, .list g _ _ r, c, a, z => by
    rcases List.mem_cons.mp z with e | e
    · subst e; exact ⟨_, g⟩
    · exact reads_theres ds _ _ r (by simpa [PyData.canLay0] using c) a e
  | .dict kvs, _, _, _, c, _, _ => by simp [PyData.canLay0] at c
theorem reads_theres {h : Heap} : ∀ (ds : List PyData) (vs : List Value) (as : List Addr), ReadsAll h vs ds as → PyData.canLayAll0 ds = true → ∀ a ∈ as, ∃ o, h.get? a = some o
  | [], _, _, .nil, _, _, z => nomatch z
  | d :: ds, _, _, .cons r1 r2, c, a, z => by
    have c : d.canLay0 = true ∧ PyData.canLayAll0 ds = true := by simpa [PyData.canLayAll0] using c
    rcases List.mem_append.mp z with e | e
    · exact reads_there d _ _ r1 c.1 a e
    · exact reads_theres ds _ _ r2 c.2 a e
end
theorem obj_there {P : Program} {w : World} {H : Hp} {h : Heap} {a : Addr} {o : HO} (x : ObjOk P w H h a o) : ∃ u, h.get? a = some u := by
  cases o with
  | lst _ => obtain ⟨_, _, _, _, e⟩ := x; exact ⟨_, e⟩
  | tup _ => obtain ⟨_, _, _, u, e, _⟩ := x; exact ⟨u, e⟩
  | dK _ => obtain ⟨_, _, _, _, u, _, _, e, _⟩ := x; exact ⟨u, e⟩
  | dT _ => obtain ⟨_, _, _, _, u, _, _, e, _⟩ := x; exact ⟨u, e⟩
  | set _ _ => obtain ⟨u, _, _, _, e, _⟩ := x; exact ⟨u, e⟩
  | ins _ _ _ => obtain ⟨_, _, _, e, _⟩ := x; exact ⟨_, e⟩
  | own _ => exact x
  | xd _ => obtain ⟨_, ⟨u, _, _, e, _⟩, _⟩ := x; exact ⟨u, e⟩
  | rng _ _ => obtain ⟨_, _, _, e⟩ := x; exact ⟨_, e⟩
  | frz u _ => obtain ⟨e, _⟩ := x; exact ⟨_, e⟩
  | tbl _ => exact ⟨_, show h.get? a = some _ from x⟩
  | met _ _ => exact ⟨_, show h.get? a = some _ from x⟩
  | ext _ => obtain ⟨_, e, _⟩ := x; exact e
theorem each_there {h h' : Heap} {a : Addr} (k : ∀ b o, h.get? b = some o → h'.get? b = some o) (na : h.get? a = none) : ∀ {us : List Value} {ds : List PyData}, PySem.W.EachIs (fun u d => ∃ as, Reads h u (id d) as) us ds → (∀ d ∈ ds, d.canLay0 = true) → PySem.W.EachIs (fun u d => ∃ as, Reads h' u (id d) as ∧ a ∉ as) us ds
  | _, _, .nil, _ => .nil
  | _, _, .cons ⟨as, r⟩ t, c => .cons ⟨as, PyProof.Rows.Reads.keeps k r, fun z => by
      obtain ⟨o, e⟩ := reads_there _ _ _ r (c _ List.mem_cons_self) a z
      rw [na] at e; cases e⟩ (each_there k na t fun d hd => c d (List.mem_cons_of_mem _ hd))
section
variable {X : Cx}
theorem cd_sortedA (hu : X.A.units + 64 < cLine) : CallD X (.builtin "sorted") cdSortedA := by
  intro pins s σ H xs us QV I rx ⟨F, ds, Q, sF, rl, h, post⟩
  unfold cdSortedA at h
  split at h
  · exact cd_sorted hu pins s σ H xs us QV I rx ⟨F, _, Q, sF, rl, h, post⟩
  · rename_i ds
    obtain ⟨v, rfl, r⟩ := rl.one'
    obtain ⟨a, vs, rfl, ha, ra⟩ := r.tup sF
    obtain ⟨⟨k1, k2, k3, k4⟩, q⟩ := h
    obtain ⟨its, rv, ⟨o, go, co, n, do'⟩, hz⟩ := I.tuple ha
    rw [Vals.ref1 rx]
    have lz : its.length = vs.length := rv.length.symm
    refine Calls.call_function_entry PyProof.Rows.kind_sorted PyProof.Rows.plain_sorted PyProof.Rows.entry_sorted (PyProof.Rows.args_sorted1 _) ?_
    unfold Builtin.«sorted»
    refine wpAny_bind (m := checkCount "sorted" 1 1 _) (wpAny_pure ?_)
    refine wpAny_bind (wpAny_collect_seq a (.inr rfl) go co do' (fun h1 kp => ?_) (by rw [List.size_toArray, lz]; exact hz))
    refine wpAny_bind (wpAny_newList ?_ (by show its.length ≤ sizeLine; rw [lz]; exact hz))
    have gL : (h1.push (PyProof.Rows.seqObj "list" its.toArray 0)).get? h1.objs.size = some (PyProof.Rows.seqObj "list" its.toArray 0) := Heap.get?_push_size _ rfl
    have old : s.heap.get? h1.objs.size = none := by
      cases e : s.heap.get? h1.objs.size with
      | none => rfl
      | some u => exact absurd (Heap.lt_size (kp _ _ e)) (Nat.lt_irrefl _)
    have hn : H h1.objs.size = none := by
      cases e : H h1.objs.size with
      | none => rfl
      | some u =>
        obtain ⟨w, z⟩ := obj_there (I.hok _ _ e)
        rw [old] at z; cases z
    refine wpAny_bind (wpAny_holding (PySem.W.list_sort_data (enc := id) (R := fun u d => ∃ x, RelV x u ∧ Rp X.K F x d) (bs := ds) (s := { s with heap := h1.push (PyProof.Rows.seqObj "list" its.toArray 0) }) gL (each_rp rv ra) (each_there (fun b u z => Heap.get?_push_of_some _ (kp b u z)) old (each_reads I sF rv ra fun d hd => (k4 d hd).1) fun d hd => (k4 d hd).1) (by rw [List.map_id]; exact k1) (by rw [List.map_id]; exact k2) k3 (fun d hd => ?_) fun out ho e => ?_))
    · have := (k4 d hd).2
      show X.A.units + 1 + 1 + d.depth < cLine
      omega
    · obtain ⟨ws, w1, w2⟩ := rp_each e
      obtain ⟨c, hcc⟩ := PyProof.Rows.sortedHeap_at (vs := its) (out := out.toArray) gL
      have hlen : ws.length ≤ sizeLine := by rw [w2.length, List.length_mergeSort]; exact k3
      have kept : ∀ b u, s.heap.get? b = some u → (PyProof.Rows.sortedHeap (h1.push (PyProof.Rows.seqObj "list" its.toArray 0)) h1.objs.size its out.toArray).get? b = some u := fun b u z => by
        have z1 := kp b u z
        have lt := Heap.lt_size z1
        rw [PyProof.Rows.sortedHeap_old (Nat.ne_of_lt lt) (by rw [PyProof.Rows.size_push']; exact Nat.lt_succ_of_lt lt)]
        exact Heap.get?_push_of_some _ z1
      refine wpAny_pure ⟨_, rfl, ?_⟩
      exact ⟨.ref h1.objs.size, _, I.laidN (t' := s.toks) kept old hn (o := .lst ws) ⟨hlen, out, c, w1, hcc⟩, rfl, post.newL sF hn w2 q⟩
  · exact h.elim
end
theorem cd_sortedAL {ds : List PyData} {QO : O → Prop} (hs : SortOk ds) (h : QO (.ls (ds.mergeSort (PySem.W.dataLe false id)))) : cdSortedA [.list ds] QO := ⟨hs, h⟩
theorem cd_sortedAT {ds : List PyData} {QO : O → Prop} (hs : SortOk ds) (h : QO (.ls (ds.mergeSort (PySem.W.dataLe false id)))) : cdSortedA [.tuple ds] QO := ⟨hs, h⟩
end VL
end
section
namespace VL
open PySem PySem.Spec L2
/-- [e for x in xs for y in ys], by a function of the items -/
theorem lc2_map {α β : Type} {ti tj : EI} {g g1 : EG} {te : EX} {vs vs1 : List Nat} {Γ Γ1 : Ga} {Q : O → Ga → Prop} (xs : List α) (enc : α → PyData) (ys : List β) (enc1 : β → PyData) (f : α → β → PyData) (hi : IPure ti Γ (xs.map enc) Γ1) (hl : xs.length * ys.length < sizeLine) (pl : Plain Γ1 vs)
    (turn : ∀ x ∈ xs, ∃ Γw Γ2, nrm (wipeG Γ1 vs) = some Γw ∧ (∀ QG : Ga → Prop, QG Γ2 → g (enc x) Γw QG) ∧ IPure tj Γ2 (ys.map enc1) Γ2 ∧ Plain Γ2 vs1 ∧ nrm (backG Γ1 Γ2 vs) = some Γ1 ∧
      ∀ y ∈ ys, ∃ Γv Γ3, nrm (wipeG Γ2 vs1) = some Γv ∧ (∀ QG : Ga → Prop, QG Γ3 → g1 (enc1 y) Γv QG) ∧ XPure te Γ3 (f x y) ∧ nrm (backG Γ2 Γ3 vs1) = some Γ2)
    (h : Q (.ls (xs.flatMap fun x => ys.map (f x))) Γ1) : eLc2 ti g tj g1 te vs vs1 Γ Q := by
  refine hi _ ⟨pl, fun i acc Γ' => Γ' = Γ1 ∧ acc = (xs.take i).flatMap fun x => ys.map (f x), ⟨rfl, by simp⟩, fun i d acc Γ' e ⟨e1, e2⟩ _ => ?_, fun acc Γ' ⟨e1, e2⟩ => ?_⟩
  · subst e1; subst e2
    rw [List.getElem?_map] at e
    cases ex : xs[i]? with
    | none => rw [ex] at e; cases e
    | some x =>
      rw [ex] at e; cases e
      obtain ⟨Γw, Γ2, w1, hg, hj, pl2, w2, tn⟩ := turn x (List.mem_of_getElem? ex)
      have il : i < xs.length := (List.getElem?_eq_some_iff.mp ex).1
      have tk : xs.take (i + 1) = xs.take i ++ [x] := by rw [List.take_add_one, ex]; rfl
      have len : ∀ zs : List α, (zs.flatMap fun x => ys.map (f x)).length = zs.length * ys.length := fun zs => by
        induction zs with
        | nil => simp
        | cons z zs ih => rw [List.flatMap_cons, List.length_append, ih, List.length_map, List.length_cons, Nat.succ_mul]; omega
      refine ⟨Γw, w1, hg _ (hj _ ⟨pl2, fun j acc' Γ'' => Γ'' = Γ2 ∧ acc' = ((xs.take i).flatMap fun x => ys.map (f x)) ++ (ys.take j).map (f x), ⟨rfl, by simp⟩, fun j d acc' Γ'' e2 ⟨a1, a2⟩ _ => ?_, fun acc' Γ'' ⟨a1, a2⟩ => ?_⟩)⟩
      · subst a1; subst a2
        rw [List.getElem?_map] at e2
        cases ey : ys[j]? with
        | none => rw [ey] at e2; cases e2
        | some y =>
          rw [ey] at e2; cases e2
          obtain ⟨Γv, Γ3, v1, hg1, he, v2⟩ := tn y (List.mem_of_getElem? ey)
          have jl : j < ys.length := (List.getElem?_eq_some_iff.mp ey).1
          have tj' : ys.take (j + 1) = ys.take j ++ [y] := by rw [List.take_add_one, ey]; rfl
          refine ⟨Γv, v1, hg1 _ (he _ ⟨f x y, rfl, ?_, _, v2, rfl, by rw [tj', List.map_append, ← List.append_assoc]; rfl⟩)⟩
          rw [List.length_append, len, List.length_map, List.length_take, List.length_take, Nat.min_eq_left (by omega), Nat.min_eq_left (by omega)]
          have : i * ys.length + j < xs.length * ys.length := by
            have h1 : (i + 1) * ys.length ≤ xs.length * ys.length := Nat.mul_le_mul_right _ il
            rw [Nat.succ_mul] at h1
            omega
          omega
      · subst a1; subst a2
        refine ⟨_, w2, rfl, ?_⟩
        rw [tk, List.flatMap_append, List.length_map, List.take_length]
        simp
  · subst e1; subst e2
    rw [List.length_map, List.take_length]
    exact h
theorem op1_negI {i : Int} {Q : O → Prop} (h : Q (.fz (.int (-i)))) : op1Neg (.int i) Q := h
/-- two statements, cut by what holds between them -/
theorem seq_cut {s t : ES} {D : En} {Γ : Ga} (I : Ga → Prop) (h1 : ∀ nx : Ga → Prop, (∀ Γ', I Γ' → nx Γ') → s { D with nx := nx } Γ) (h2 : ∀ Γ', I Γ' → t D Γ') : sSeq s t D Γ := h1 (t D) h2
end VL
end
section
namespace VL
open PySem PySem.Spec L2
/-! ### a dict of owned parts, keyed by texts -/
section
variable {K : PySem.W.Frag} {pn : List (Nat × V)} {Z F F' : Hp} {Γ Γ1 : Ga} {σ : St} {h hr H H' : Hp} {v : V} {o : O} {d : PyData} {ks : List Key} {ts : List O} {i k : Nat}
/-- the tree of a slot: its root, its elements -/
structure TdAt (K : PySem.W.Frag) (ks : List Key) (pn : List (Nat × V)) (Z F : Hp) (Γ : Ga) (σ : St) (h H : Hp) (i : Nat) (ts : List O) (a : Addr) (vs : List V) (hT g : Hp) : Prop where
  sl : σ[i]? = some (some (.ref a))
  at_ : H a = some (.dK (ks.zip vs))
  own : OwnT K F ts vs hT
  TH : Same hT H
  Ta : hT a = none
  TF : Dis hT F
  TZ : Dis hT Z
  Tg : Dis hT g
  gH : Same g H
  ga : g a = none
  gF : Dis g F
  gZ : Dis g Z
  Fa : F a = none
  Za : Z a = none
  ph : ∀ k, Dis h k → Dis hT k ∧ Dis g k ∧ k a = none
  put : ∀ F' ts' vs' hT' H', Same F F' → OwnT K F' ts' vs' hT' → H' a = some (.dK (ks.zip vs')) → Same hT' H' → Same F' H' → Same Z H' → Same g H' → Dis F' Z → hT' a = none → Dis hT' g → Dis hT' F' → Dis hT' Z → Dis g F' → F' a = none →
    At K pn Z F' (Γ.set i (some (.td ks ts'))) σ (jn (jn (one a (.dK (ks.zip vs'))) hT') g) H'
theorem At.changeTd (A : At K pn Z F Γ σ h H) (e : Γ[i]? = some (some (.td ks ts))) : ∃ a vs hT g, TdAt K ks pn Z F Γ σ h H i ts a vs hT g := by
  obtain ⟨v, h1, h2, a1, rfl, d12, a4, a5⟩ := A.own.focus e
  obtain ⟨a, vs, hT, rfl, rfl, dT, w⟩ := own_td.mp a4
  have s1 : Same (one a (.dK (ks.zip vs))) (jn (jn (one a (.dK (ks.zip vs))) hT) h2) := fun x u z => same_l _ _ (same_l _ _ z)
  have sT : Same hT (jn (jn (one a (.dK (ks.zip vs))) hT) h2) := fun x u z => same_l _ _ (same_r dT _ _ z)
  have s2 : Same h2 (jn (jn (one a (.dK (ks.zip vs))) hT) h2) := same_r d12
  have da2 : Dis (one a (.dK (ks.zip vs))) h2 := Dis.sub same_l d12
  have dT2 : Dis hT h2 := Dis.sub (same_r dT) d12
  refine ⟨a, vs, hT, h2, ⟨a1, A.hH _ _ (s1 _ _ one_at), w, sT.trans A.hH, of_dis_one dT, Dis.sub sT A.hF, Dis.sub sT A.hZ, dT2, s2.trans A.hH, of_dis_one da2, Dis.sub s2 A.hF, Dis.sub s2 A.hZ, of_dis_one (Dis.sub s1 A.hF), of_dis_one (Dis.sub s1 A.hZ),
    fun k dk => ⟨Dis.sub sT dk, Dis.sub s2 dk, of_dis_one (Dis.sub s1 dk)⟩, fun F' ts' vs' hT' H' sF w' hA sT' sF' sZ' sg' dFZ ta tg tF tZ gF fa => ?_⟩⟩
  have dT' : Dis (one a (.dK (ks.zip vs'))) hT' := dis_one ta
  have q := a5 F' (.td ks ts') (.ref a) (jn (one a (.dK (ks.zip vs'))) hT') sF (own_td.mpr ⟨a, vs', hT', rfl, rfl, dT', w'⟩) (Dis.jn (dis_one (of_dis_one da2)) tg)
  rw [set_self a1] at q
  have zA : Z a = none := of_dis_one (Dis.sub s1 A.hZ)
  exact ⟨q, same_jn (same_jn (same_one hA) sT') sg', sF', sZ', dFZ, Dis.jn (Dis.jn (dis_one fa) tF) gF, Dis.jn (Dis.jn (dis_one zA) tZ) (Dis.sub s2 A.hZ), A.pin⟩
/-- nothing changed but one element's form: o' stands where o stood -/
theorem TdAt.elem {a : Addr} {vs : List V} {hT g : Hp} (T : TdAt K ks pn Z F Γ σ h H i ts a vs hT g) (A : At K pn Z F Γ σ h H) (e : ts[k]? = some o) :
    ∃ v h1, vs[k]? = some v ∧ Own K F o v h1 ∧ Same h1 H ∧ Dis h1 F ∧ Dis h1 Z ∧ h1 a = none ∧
    (∀ F' o' h1' H', Same F F' → Own K F' o' v h1' → H' a = some (.dK (ks.zip vs)) → Same h1' H' → Same F' H' → Same Z H' → (∀ G, Same G H → Dis h1 G → Same G H') → Dis F' Z → h1' a = none → (∀ G, Dis h1 G → Dis h1' G) → Dis h1' F' → Dis h1' Z → (∀ G, Same G H → Dis G F → Dis h1 G → Dis G F') → F' a = none →
      ∃ h', At K pn Z F' (Γ.set i (some (.td ks (ts.set k o')))) σ h' H') := by
  obtain ⟨v, h1, h2, a1, rfl, d12, w1, put, _⟩ := T.own.focus e
  have s1 : Same h1 (jn h1 h2) := same_l
  have s2 : Same h2 (jn h1 h2) := same_r d12
  refine ⟨v, h1, a1, w1, s1.trans T.TH, Dis.sub s1 T.TF, Dis.sub s1 T.TZ, s1.free T.Ta, fun F' o' h1' H' sF w' hA sh sF' sZ' keep dFZ ha kd dF' dZ' kF fa => ?_⟩
  have q := put F' o' v h1' sF w' (kd h2 d12)
  rw [set_self a1] at q
  have d1g : Dis h1 g := Dis.sub s1 T.Tg
  have k2 : Same h2 H' := keep h2 (s2.trans T.TH) d12
  have kg : Same g H' := keep g T.gH d1g
  have ja : ∀ x : Addr, h1' x = none → h2 x = none → jn h1' h2 x = none := fun x e1 e2 => by rw [jn_r e1]; exact e2
  exact ⟨_, T.put F' (ts.set k o') vs (jn h1' h2) H' sF q hA (same_jn sh k2) sF' sZ' kg dFZ (ja a ha (s2.free T.Ta)) (Dis.jn (kd g d1g) (Dis.sub s2 T.Tg)) (Dis.jn dF' (kF h2 (s2.trans T.TH) (Dis.sub s2 T.TF) d12)) (Dis.jn dZ' (Dis.sub s2 T.TZ)) (kF g T.gH T.gF d1g) fa⟩
/-- an element frozen where it stands -/
theorem At.frzTd (A : At K pn Z F Γ σ h H) (e : Γ[i]? = some (some (.td ks ts))) (e1 : ts[k]? = some o) (e2 : o.frz = some d) : ∃ F' h' a vs v, Same F F' ∧ σ[i]? = some (some (.ref a)) ∧ H a = some (.dK (ks.zip vs)) ∧ vs[k]? = some v ∧ At K pn Z F' (Γ.set i (some (.td ks (ts.set k (.fz d))))) σ h' H ∧ Rp K F' v d := by
  obtain ⟨a, vs, hT, g, T⟩ := A.changeTd e
  obtain ⟨v, h1, a1, w1, sh, dF, dZ, ha, put⟩ := T.elem A e1
  obtain ⟨F', s, rfl, q⟩ := w1.frz e2 dF
  have kF : ∀ G, Same G H → Dis G F → Dis h1 G → Dis G (jn h1 F) := fun G _ d1 d2 => (Dis.jn d2 d1.symm).symm
  have sFH : Same (jn h1 F) H := same_jn sh A.FH
  obtain ⟨h', A'⟩ := put (jn h1 F) (.fz d) emp H s (own_fz.mpr ⟨rfl, q⟩) T.at_ same_emp sFH A.ZH (fun G sG _ => sG) (Dis.jn dZ A.FZ) rfl (fun _ _ => Dis.emp) Dis.emp Dis.emp kF (by rw [jn_r ha]; exact T.Fa)
  exact ⟨_, h', a, vs, v, s, T.sl, T.at_, a1, A', q⟩
/-- an element's own list changed -/
theorem At.changeEd {ds : List PyData} (A : At K pn Z F Γ σ h H) (e : Γ[i]? = some (some (.td ks ts))) (e1 : ts[k]? = some (.ls ds)) : ∃ a vs b ws, σ[i]? = some (some (.ref a)) ∧ H a = some (.dK (ks.zip vs)) ∧ vs[k]? = some (.ref b) ∧ H b = some (.lst ws) ∧ RpAll K F ws ds ∧
    ∀ ws' ds', RpAll K F ws' ds' → ∃ h', At K pn Z F (Γ.set i (some (.td ks (ts.set k (.ls ds'))))) σ h' (upd H b (.lst ws')) := by
  obtain ⟨a, vs, hT, g, T⟩ := A.changeTd e
  obtain ⟨v, h1, a1, w1, sh, dF, dZ, ha, put⟩ := T.elem A e1
  obtain ⟨b, ws, rfl, rfl, r⟩ := own_ls.mp w1
  have hab : a ≠ b := fun z => by subst z; rw [one_at] at ha; cases ha
  refine ⟨a, vs, b, ws, T.sl, T.at_, a1, sh _ _ one_at, r, fun ws' ds' r' => ?_⟩
  exact put F (.ls ds') (VL.one b (.lst ws')) (upd H b (.lst ws')) (Same.refl _) (own_ls.mpr ⟨b, ws', rfl, rfl, r'⟩) (by rw [upd_ne hab]; exact T.at_) (same_one upd_same) (keepU (of_dis_one dF) A.FH) (keepU (of_dis_one dZ) A.ZH) (fun G sG dG => keepU (of_dis_one dG) sG) A.FZ (one_ne hab) (fun G dG => dis_at dG) (dis_at dF) (dis_at dZ) (fun G _ d1 _ => d1) T.Fa
/-- an element put anew (what stood there is dropped) -/
theorem AtR.putTd (A : AtR K pn Z F Γ σ h hr H) (w : Own K F o v hr) (e : Γ[i]? = some (some (.td ks ts))) (hk : k < ts.length) : ∃ a vs, σ[i]? = some (some (.ref a)) ∧ H a = some (.dK (ks.zip vs)) ∧ vs.length = ts.length ∧ ∃ h', At K pn Z F (Γ.set i (some (.td ks (ts.set k o)))) σ h' (upd H a (.dK (ks.zip (vs.set k v)))) := by
  obtain ⟨a, vs, hT, g, T⟩ := A.at_.changeTd e
  obtain ⟨d1, d2, d3⟩ := T.ph hr A.rh.symm
  obtain ⟨u, h1, h2, a1, rfl, d12, w1, put, _⟩ := T.own.focus (List.getElem?_eq_getElem hk)
  have s2 : Same h2 (jn h1 h2) := same_r d12
  have e2 : Dis hr h2 := (Dis.sub s2 d1).symm
  refine ⟨a, vs, T.sl, T.at_, T.own.len, _, T.put F (ts.set k o) (vs.set k v) (jn hr h2) _ (Same.refl _) (put F o v hr (Same.refl _) w e2) upd_same (same_jn (keepU d3 A.rH) (keepU (s2.free T.Ta) (s2.trans T.TH))) (keepU T.Fa A.at_.FH) (keepU T.Za A.at_.ZH) (keepU T.ga T.gH) A.at_.FZ (by rw [jn_r d3]; exact s2.free T.Ta) (Dis.jn d2.symm (Dis.sub s2 T.Tg)) (Dis.jn A.rF (Dis.sub s2 T.TF)) (Dis.jn A.rZ (Dis.sub s2 T.TZ)) T.gF T.Fa⟩

theorem At.rootTd (A : At K pn Z F Γ σ h H) (e : Γ[i]? = some (some (.td ks ts))) : ∃ a vs, σ[i]? = some (some (.ref a)) ∧ H a = some (.dK (ks.zip vs)) ∧ vs.length = ts.length := by
  obtain ⟨a, vs, hT, g, T⟩ := A.changeTd e
  exact ⟨a, vs, T.sl, T.at_, T.own.len⟩
def ElVD (σ : St) (H : Hp) (i k : Nat) (v : V) : Prop := ∃ a kv key, σ[i]? = some (some (.ref a)) ∧ H a = some (.dK kv) ∧ kv[k]? = some (key, v)
def elGD (Γ : Ga) (i k : Nat) : Option O := match Γ[i]? with
  | some (some (.td _ ts)) => ts[k]?
  | _ => none
theorem elGD_some {Γ : Ga} {i k : Nat} {o : O} (h : elGD Γ i k = some o) : ∃ ks ts, Γ[i]? = some (some (.td ks ts)) ∧ ts[k]? = some o := by
  unfold elGD at h
  split at h
  · rename_i ks ts e; exact ⟨ks, ts, e, h⟩
  · cases h
theorem zip_at {ks : List Key} {vs : List V} {k : Nat} {key : Key} {v : V} (h : (ks.zip vs)[k]? = some (key, v)) : vs[k]? = some v := (List.getElem?_zip_eq_some.mp h).2
def lED (K : PySem.W.Frag) (τ : EE) : TE := fun σ H QV => ∃ pn Z F Γ h Q, At K pn Z F Γ σ h H ∧ τ Γ Q ∧ ∀ F' Γ' h' H' i k v, Same F F' → At K pn Z F' Γ' σ h' H' → ElVD σ H' i k v → Q i k Γ' → QV v H'
/-- slot[key] -/
def kIx (ks : List Key) (k : Key) : Option Nat := ks.findIdx? fun x => decide (x = k)
def eElD (i : Nat) (key : Key) : EE := fun Γ Q => ∃ ks ts k, Γ[i]? = some (some (.td ks ts)) ∧ kIx ks key = some k ∧ k < ts.length ∧ Q i k Γ
theorem rep_elD (A : At K pn Z F Γ σ h H) (r : ElVD σ H i k v) (e : elGD Γ i k = some o) (e2 : elD o = some d) : RepS K F H d v := by
  obtain ⟨ks, ts, e1, e3⟩ := elGD_some e
  obtain ⟨a, vs, hT, g, T⟩ := A.changeTd e1
  obtain ⟨u, h1, a1, w1, sh, _⟩ := T.elem A e3
  obtain ⟨b, kv, key, r1, r2, r3⟩ := r
  have x := T.sl
  rw [r1] at x; cases x
  have y := T.at_
  rw [r2] at y; cases y
  rw [zip_at r3] at a1; cases a1
  cases o with
  | fz d' => cases e2; exact .inl (own_fz.mp w1).2
  | ls ds =>
    cases e2
    obtain ⟨c, us, rfl, rfl, q⟩ := own_ls.mp w1
    exact .inr ⟨c, us, ds, rfl, rfl, sh _ _ one_at, q⟩
  | dk _ => cases e2
  | rs _ => cases e2
  | tr _ => cases e2
  | td _ _ => cases e2
theorem valV_zip {ks : List Key} {vs : List V} {key : Key} {k : Nat} (h : kIx ks key = some k) (hk : k < vs.length) : valV (ks.zip vs) key = some vs[k] ∧ (ks.zip vs)[k]? = some (key, vs[k]) := by
  unfold kIx at h
  induction ks generalizing vs k with
  | nil => cases h
  | cons x ks ih =>
    cases vs with
    | nil => simp at hk
    | cons u vs =>
      rw [List.findIdx?_cons] at h
      unfold valV
      by_cases z : x = key
      · rw [if_pos (by simpa using z)] at h
        cases h
        subst z
        rw [List.zip_cons_cons, List.find?_cons_of_pos (by simp)]
        exact ⟨rfl, rfl⟩
      · rw [if_neg (by simpa using z)] at h
        cases e : ks.findIdx? (fun x => decide (x = key)) with
        | none => rw [e] at h; cases h
        | some j =>
          rw [e] at h
          cases h
          have hj : j < vs.length := by simpa using hk
          rw [List.zip_cons_cons, List.find?_cons_of_neg (by simpa using z)]
          exact ⟨(ih (vs := vs) (k := j) e hj).1, by rw [List.getElem?_cons_succ]; exact (ih (vs := vs) (k := j) e hj).2⟩
theorem kept_elD {hk H1 : Hp} {a : Addr} {kv : List (Key × V)} (w : Own K F o v hk) (s : Same hk H) (s1 : Same hk H1) (e : v = .ref a) (e1 : H a = some (.dK kv)) (et : o = .td ks ts) : H1 a = some (.dK kv) := by
  subst e; subst et
  obtain ⟨b, ws, h', e2, rfl, _, _⟩ := own_td.mp w
  cases e2
  have : H a = some (.dK (ks.zip ws)) := s _ _ (jn_l one_at)
  rw [e1] at this; cases this
  exact s1 _ _ (jn_l one_at)
end
section
variable {X : Cx} {e o idx : Expr} {es : List Expr} {τ τk τv : EX} {τe : EE} {τo : EO} {τs : EA} {p pos cpos apos : Pos} {id T : String} {cd : List PyData → (O → Prop) → Prop} {x : Str}
theorem ve_elD (i : Nat) (hu : X.A.units + 1 < cLine) (key : Str) {j : Nat} {kp : Pos} (ho : PE X o (tVar i)) : PE X (.Subscript o (.Constant (.str key) j kp) pos) (lED X.K (eElD i (.inr key))) :=
  pe_imp (pe_dget hu ho pe_str (by intro _ _; rfl)) fun σ H QV ⟨pn, Z, F, Γ, hh, Q, A, ⟨ks, ts, k, e0, e1, e2, q⟩, kq⟩ => by
    obtain ⟨a, vs, s0, hb, hl⟩ := A.rootTd e0
    obtain ⟨z1, z2⟩ := valV_zip e1 (vs := vs) (by omega)
    refine ⟨.ref a, s0, a, vs[k]'(by omega), rfl, ?_, kq F Γ hh H i k _ (Same.refl _) A ⟨a, _, _, s0, hb, z2⟩ q⟩
    rw [← z1]
    exact DGet.k (k := .inr key) hb
/-! calls with a part -/
def eCBD (cd : List PyData → (O → Prop) → Prop) (τe : EE) : EO := fun Γ Q => τe Γ fun i k Γ1 => ∃ o d, elGD Γ1 i k = some o ∧ elD o = some d ∧ cd [d] fun o => Q o Γ1
theorem cbd_read {σ : St} {H : Hp} {QV : VK} (h : lO X.K (eCBD cd τe) σ H QV) : lED X.K τe σ H fun v H1 => ∃ F ds Q, Same F H1 ∧ RepL X.K F H1 ds [v] ∧ cd ds Q ∧ OpPost X.K F H1 Q QV := by
  obtain ⟨pn, Z, F, Γ, hh, Q, A, q, kk⟩ := h
  exact ⟨pn, Z, F, Γ, hh, _, A, q, fun F1 Γ1 h1 H1 i k v s1 A1 r1 ⟨o, d, e1, e2, q1⟩ => ⟨F1, [d], _, A1.FH, .cons (rep_elD A1 r1 e1 e2) .nil, q1, A1.post s1 kk⟩⟩
theorem vo_cbD (hc : CallD X (.builtin id) cd) (hg : Gl X x) (hm : X.mg x = none) (hv : bootBuiltins x = some (.builtin id)) (he : PE X e (lED X.K τe)) (hn : x ≠ "__name__" := by decide) (hdb : (x == ("__debug__" : Str)) = false := by decide)
    (hs : starEach [e] X.env = (false, eval e X.env) :: starEach [] X.env := by rfl) : PE X (.Call (.Name x p) [e] [] pos) (lO X.K (eCBD cd τe)) :=
  pe_imp (pe_callB hc hg hm hv (pa_cons he pa_nil hs) hn hdb hs rfl) fun σ H QV h => cbd_read h
theorem vo_ctyD (hc : CallD X (.type T) cd) (hg : Gl X x) (hm : X.mg x = none) (hv : bootBuiltins x = some (.type T)) (he : PE X e (lED X.K τe)) (hn : x ≠ "__name__" := by decide) (hdb : (x == ("__debug__" : Str)) = false := by decide)
    (hs : starEach [e] X.env = (false, eval e X.env) :: starEach [] X.env := by rfl) : PE X (.Call (.Name x p) [e] [] pos) (lO X.K (eCBD cd τe)) :=
  pe_imp (pe_callTy hc hg hm hv (pa_cons he pa_nil hs) hn hdb hs rfl) fun σ H QV h => cbd_read h
/-! truth of a part -/
def tTruDE (τe : EE) : ET := fun Γ Q => τe Γ fun i k Γ1 => ∃ o d c, elGD Γ1 i k = some o ∧ elD o = some d ∧ truD d = some c ∧ Q c Γ1
theorem vt_truDE (h : PE X e (lED X.K τe)) (he : ∀ whole, isTrue e X.env whole = (do let v ← whole; standAt e.pos; holding [v] (truthy v)) := by intro _; rfl) : PT X e (lT X.K (tTruDE τe)) :=
  pt_imp (pt_truth h he) fun σ H QV ⟨pn, Z, F, Γ, hh, Q, A, q, kk⟩ => ⟨pn, Z, F, Γ, hh, _, A, q, fun F1 Γ1 h1 H1 i k v s1 A1 r1 ⟨o, d, c, e1, e2, e3, q1⟩ => ⟨c, tru_of A1.FH (rep_elD A1 r1 e1 e2) e3, kk F1 Γ1 h1 H1 c s1 A1 q1⟩⟩
/-! a frozen part read -/
def xElD (τe : EE) : EX := fun Γ Q => τe Γ fun i k Γ1 => ∃ d, elGD Γ1 i k = some (.fz d) ∧ Q (.d d) Γ1
theorem vx_elD (h : PE X e (lED X.K τe)) : PE X e (lX X.K (xElD τe)) := pe_imp h fun σ H QV ⟨pn, Z, F, Γ, hh, Q, A, q, kk⟩ => ⟨pn, Z, F, Γ, hh, _, A, q, fun F1 Γ1 h1 H1 i k v s1 A1 r1 ⟨d, e1, q1⟩ => by
  obtain ⟨ks, ts, e2, e3⟩ := elGD_some e1
  obtain ⟨a, vs, hT, g, T⟩ := A1.changeTd e2
  obtain ⟨u, g1, a1, w1, sh, _⟩ := T.elem A1 e3
  obtain ⟨b, kv, key, r1, r2, r3⟩ := r1
  have x := T.sl
  rw [r1] at x; cases x
  have y := T.at_
  rw [r2] at y; cases y
  rw [zip_at r3] at a1; cases a1
  exact kk F1 Γ1 h1 H1 (.d d) _ s1 A1 (own_fz.mp w1).2 q1⟩
/-! slot[key][j] -/
def eIxD (op : PyData → PyData → (O → Prop) → Prop) (τe : EE) (τ : EX) : EO := fun Γ Q => τe Γ fun i k Γ1 => ∃ o1 ks ts Γ2, o1 = .td ks ts ∧ Γ1[i]? = some (some o1) ∧ setG Γ1 i none = some Γ2 ∧ τ Γ2 fun a Γ3 => ∃ el d1 d2 Γ4, rslv Γ3 a = some d2 ∧ ts[k]? = some el ∧ elD el = some d1 ∧ setG Γ3 i (some o1) = some Γ4 ∧ op d1 d2 fun o => Q o Γ4
theorem vo_ixD {opd : PyData → PyData → (O → Prop) → Prop} (ho : Ix2 X opd) (he : PE X e (lED X.K τe)) (hb : PE X idx (lX X.K τ)) (hs : PlainIx idx := by intro _ _; rfl) : PE X (.Subscript e idx pos) (lO X.K (eIxD opd τe τ)) :=
  pe_imp (pe_ix ho he hb hs) fun σ H QV ⟨pn, Z, F, Γ, hh, Q, A, q, kk⟩ => ⟨pn, Z, F, Γ, hh, _, A, q, fun F1 Γ1 h1 H1 i k v s1 A1 r1 ⟨o1, ks, ts, Γ2, et, e1, e2, q1⟩ => by
    subst et
    obtain ⟨u, g1, hk, su, A2, w, dz⟩ := A1.lock e1 e2
    obtain ⟨a, kv, key, r1, r2, r3⟩ := r1
    refine ⟨pn, _, F1, Γ2, g1, _, A2, q1, fun F3 Γ3 h3 H3 av y s3 A3 r4 ⟨el, d1, d2, Γ4, e3, e4, e5, e6, q2⟩ => ?_⟩
    have ry := rep_of A3 r4 e3
    rw [r1] at su; cases su
    have e8 : H3 a = some (.dK kv) := kept_elD w (fun x o z => A2.ZH _ _ (same_r dz _ _ z)) (fun x o z => A3.ZH _ _ (same_r dz _ _ z)) rfl r2 rfl
    obtain ⟨h5, A5⟩ := A3.unlock dz s3 w r1 e6
    have eG : elGD Γ4 i k = some el := by
      unfold elGD
      obtain ⟨x1, x2⟩ := setG_eq e6
      rw [← x1, List.getElem?_set_self x2]
      exact e4
    exact ⟨F3, d1, d2, _, A5.FH, rep_elD A5 ⟨a, kv, key, r1, e8, r3⟩ eG e5, ry, q2, A5.post (s1.trans s3) kk⟩⟩
/-! methods of a part -/
def eSMD (sm : SM) (τe : EE) (τs : EA) : EO := fun Γ Q => τe Γ fun i k Γ1 => ∃ o1 ks ts Γ2 ds, o1 = .td ks ts ∧ Γ1[i]? = some (some o1) ∧ setG Γ1 i none = some Γ2 ∧ ts[k]? = some (.ls ds) ∧ τs Γ2 fun as Γ3 => ∃ ads Γ4, unD as = some ads ∧ setG Γ3 i (some o1) = some Γ4 ∧ sm ds ads fun ds' d => ∃ Γ5, setG Γ4 i (some (.td ks (ts.set k (.ls ds')))) = some Γ5 ∧ Q (.fz d) Γ5
def eSMD0 (sm : SM) (τe : EE) : EO := fun Γ Q => τe Γ fun i k Γ1 => ∃ ks ts ds, Γ1[i]? = some (some (.td ks ts)) ∧ ts[k]? = some (.ls ds) ∧ sm ds [] fun ds' d => ∃ Γ5, setG Γ1 i (some (.td ks (ts.set k (.ls ds')))) = some Γ5 ∧ Q (.fz d) Γ5
theorem vo_smD {name : Str} {sm : SM} (slot : Slot "list" name id) (hty : typeOf (.builtin id) = pure (.type "method_descriptor")) (hm : SlotM X id sm) (ho : PE X o (lED X.K τe)) (ha : PA X (e :: es) (lA X.K τs))
    (hbase : attributeBase o name X.env (eval o X.env) = eval o X.env := by rfl)
    (hfew : ((backTo cpos (starEach (e :: es) X.env)).all (fun x => !x.1) && (backToKw cpos (keywordEach [] X.env)).all (fun x => x.1.isSome)
      && decide ((e :: es).length + ([] : List Keyword).length + (if ([] : List Keyword).isEmpty then 0 else 1) < 30)) = true := by rfl)
    (hline : (apos.endLine == cpos.line) = true := by rfl) (hs : starEach (e :: es) X.env = (false, eval e X.env) :: starEach es X.env := by rfl) (hplain : (backTo cpos (starEach es X.env)).any (·.1) = false := by rfl) :
    PE X (.Call (.Attribute o name apos) (e :: es) [] cpos) (lO X.K (eSMD sm τe τs)) :=
  pe_imp (pe_bm PySem.F.plainAttrs_list slot hty hm ho ha hbase hfew hline hs hplain) fun σ H QV ⟨pn, Z, F, Γ, hh, Q, A, q, kk⟩ => ⟨pn, Z, F, Γ, hh, _, A, q, fun F1 Γ1 h1 H1 i k v s1 A1 r1 ⟨o1, ks, ts, Γ2, ds, et, e1, e2, e3, q1⟩ => by
    subst et
    obtain ⟨a, kv, key, r1, r2, r3⟩ := r1
    obtain ⟨a', vs', b, ws, b1, b2, b3, b4, _, _⟩ := A1.changeEd e1 e3
    rw [r1] at b1; cases b1
    rw [r2] at b2; cases b2
    rw [zip_at r3] at b3; cases b3
    refine ⟨.inl ⟨rfl, ws, SqL.of b4⟩, ?_⟩
    obtain ⟨u, g1, hk, su, A2, w, dz⟩ := A1.lock e1 e2
    refine ⟨pn, _, F1, Γ2, g1, _, A2, q1, fun F3 Γ3 h3 H3 as xs s3 A3 r4 ⟨ads, Γ4, e4, e6, q2⟩ => ?_⟩
    rw [r1] at su; cases su
    have e8 : H3 a = some (.dK (ks.zip vs')) := kept_elD w (fun x o z => A2.ZH _ _ (same_r dz _ _ z)) (fun x o z => A3.ZH _ _ (same_r dz _ _ z)) rfl r2 rfl
    obtain ⟨h5, A5⟩ := A3.unlock dz s3 w r1 e6
    have eG : Γ4[i]? = some (some (.td ks ts)) := by
      obtain ⟨x1, x2⟩ := setG_eq e6
      rw [← x1, List.getElem?_set_self x2]
    obtain ⟨a', vs2, b', ws', c1, c2, c3, c4, c5, put⟩ := A5.changeEd eG e3
    rw [r1] at c1; cases c1
    rw [e8] at c2
    have c2 : ks.zip vs' = ks.zip vs2 := by injection c2 with c2; injection c2
    rw [c2] at r3
    rw [zip_at r3] at c3; cases c3
    rw [unD_eq e4] at r4
    refine ⟨F3, b, ws', ds, ads, _, rfl, c4, A5.FH, c5, args_d r4, q2, fun vs2 ds2 v2 d2 rr rd ⟨Γ5, eΓ, q3⟩ => ?_⟩
    obtain ⟨h6, A6⟩ := put vs2 ds2 rr
    rw [(setG_eq eΓ).1] at A6
    exact kk F3 _ h6 emp _ (.fz d2) v2 (s1.trans s3) A6.alone ⟨rfl, rd⟩ q3⟩
theorem vo_smD0 {name : Str} {sm : SM} (slot : Slot "list" name id) (hty : typeOf (.builtin id) = pure (.type "method_descriptor")) (hm : SlotM X id sm) (ho : PE X o (lED X.K τe))
    (hbase : attributeBase o name X.env (eval o X.env) = eval o X.env := by rfl) (hline : (apos.endLine == cpos.line) = true := by rfl) :
    PE X (.Call (.Attribute o name apos) [] [] cpos) (lO X.K (eSMD0 sm τe)) :=
  pe_imp (pe_bm0 PySem.F.plainAttrs_list slot hty hm ho hbase hline) fun σ H QV ⟨pn, Z, F, Γ, hh, Q, A, q, kk⟩ => ⟨pn, Z, F, Γ, hh, _, A, q, fun F1 Γ1 h1 H1 i k v s1 A1 r1 ⟨ks, ts, ds, e1, e3, q2⟩ => by
    obtain ⟨a, kv, key, r1, r2, r3⟩ := r1
    obtain ⟨a', vs', b, ws, b1, b2, b3, b4, b5, put⟩ := A1.changeEd e1 e3
    rw [r1] at b1; cases b1
    rw [r2] at b2; cases b2
    rw [zip_at r3] at b3; cases b3
    refine ⟨.inl ⟨rfl, ws, SqL.of b4⟩, ?_⟩
    refine ⟨F1, b, ws, ds, [], _, rfl, b4, A1.FH, b5, .nil, q2, fun vs2 ds2 v2 d2 rr rd ⟨Γ5, eΓ, q3⟩ => ?_⟩
    obtain ⟨h6, A6⟩ := put vs2 ds2 rr
    rw [(setG_eq eΓ).1] at A6
    exact kk F1 _ h6 emp _ (.fz d2) v2 s1 A6.alone ⟨rfl, rd⟩ q3⟩
/-! slot[key] = v -/
theorem putK_zip {ks : List Key} {vs : List V} {key : Key} {k : Nat} {v : V} (h : kIx ks key = some k) (nd : ks.Nodup) (hl : k < vs.length) : putK (ks.zip vs) key v = ks.zip (vs.set k v) := by
  have map_eq : ∀ (ks : List Key) (vs : List V) (k : Nat), kIx ks key = some k → ks.Nodup → k < vs.length → ((ks.zip vs).map fun p => if p.1 = key then (p.1, v) else p) = ks.zip (vs.set k v) := by
    intro ks
    induction ks with
    | nil => intro vs k h; cases h
    | cons x ks ih =>
      intro vs k h nd hl
      unfold kIx at h ih
      obtain ⟨n1, n2⟩ := List.nodup_cons.mp nd
      cases vs with
      | nil => simp at hl
      | cons u vs =>
        rw [List.findIdx?_cons] at h
        by_cases z : x = key
        · rw [if_pos (by simpa using z)] at h
          cases h
          subst z
          rw [List.zip_cons_cons, List.map_cons, if_pos rfl, List.set_cons_zero, List.zip_cons_cons]
          congr 1
          have hc : ∀ p ∈ ks.zip vs, (if p.1 = x then (p.1, v) else p) = id p := fun p hp => if_neg fun e => n1 (by rw [← e]; exact (List.of_mem_zip (show (p.1, p.2) ∈ ks.zip vs from hp)).1)
          exact (List.map_congr_left hc).trans (List.map_id _)
        · rw [if_neg (by simpa using z)] at h
          cases e : ks.findIdx? (fun x => decide (x = key)) with
          | none => rw [e] at h; cases h
          | some j =>
            rw [e] at h
            cases h
            have hj : j < vs.length := by simpa using hl
            rw [List.zip_cons_cons, List.map_cons, if_neg z, List.set_cons_succ, List.zip_cons_cons]
            congr 1
            exact ih vs j e n2 hj
  unfold putK
  rw [if_pos ?_]
  · exact map_eq ks vs k h nd hl
  · obtain ⟨_, z⟩ := valV_zip h hl
    exact List.any_eq_true.mpr ⟨_, List.mem_of_getElem? z, by simp⟩
def sPutD (i : Nat) (key : Key) (τv : EO) : ES := fun D Γ => τv Γ fun o Γ1 => ∃ ks ts k Γ2, Γ1[i]? = some (some (.td ks ts)) ∧ kIx ks key = some k ∧ ks.Nodup ∧ k < ts.length ∧ ks.length < sizeLine ∧ setG Γ1 i (some (.td ks (ts.set k o))) = some Γ2 ∧ D.nx Γ2
theorem vs_putD {io : Bool} {spos : Pos} (i : Nat) (hu : X.A.units + 1 < cLine) (key : Str) {j : Nat} {kp : Pos} (ho : PE X o (tVar i)) (hv : PE X e (lO X.K τo)) (hs : swapsWith e (some (.Subscript o (.Constant (.str key) j kp) pos)) spos.line X.env = pure false := by rfl) :
    PS X (.Assign [.Subscript o (.Constant (.str key) j kp) pos] e spos) (lS X.K io (sPutD i (.inr key) τo)) :=
  ps_imp (ps_dput hu ho pe_str hv hs) fun D σ H ⟨v0, Z, F, Γ, h, DD, A, q, kq⟩ => ⟨_, Z, F, Γ, h, _, A, q, fun F1 Γ1 h1 hr1 H1 o v s1 A1 w1 ⟨ks, ts, k, Γ2, e0, e1, e2, e3, e4, e5, q1⟩ => by
    obtain ⟨a, vs, sa, hb, hl, h', A2⟩ := A1.putTd w1 e0 e3
    rw [(setG_eq e5).1] at A2
    refine ⟨.ref a, sa, a, _, rfl, DPut.k (k := .inr key) hb (by rw [List.length_zip]; omega), kq.nx F1 Γ2 σ h' _ s1 ?_ q1⟩
    rw [putK_zip e1 e2 (by omega)]
    exact A2⟩
end
end VL
end
section
namespace VL
open PySem PySem.Spec L2
/-! ### {'k': v, ..}: a new dict of owned parts -/
theorem mergeK_new : ∀ (more kvs : List (Key × V)), (kvs.map (·.1) ++ more.map (·.1)).Nodup → mergeK kvs more = kvs ++ more
  | [], kvs, _ => by simp [mergeK]
  | p :: r, kvs, nd => by
    show mergeK (putK kvs p.1 p.2) r = _
    have e : putK kvs p.1 p.2 = kvs ++ [p] := by
      unfold putK
      rw [if_neg]
      intro h
      obtain ⟨q, hq, eq⟩ := List.any_eq_true.mp h
      have eq := of_decide_eq_true eq
      exact (List.nodup_append.mp nd).2.2 q.1 (List.mem_map.mpr ⟨q, hq, rfl⟩) p.1 (by simp) eq
    rw [e, mergeK_new r (kvs ++ [p]) (by rw [List.map_append, List.append_assoc]; exact nd), List.append_assoc]
    rfl
section
variable {X : Cx} {pos : Pos}
/-- the values of a display, keys known -/
structure PPo (X : Cx) (pos : Pos) (ks : List Key) (keys : List (Option Expr)) (vals : List Expr) (τs : EAO) : Prop where
  ex : ∃ trs : List (TE × TE), PPs X pos keys vals trs ∧ ∀ σ H (Q : List (V × V) → Hp → Prop), lAO X.K τs σ H (fun vs H' => vs.length = ks.length → Q ((ks.zip vs).map fun kv => (kV kv.1, kv.2)) H') → tPairs trs σ H Q
theorem ppo_nil : PPo X pos [] [] [] aoNil := ⟨[], pps_nil, fun σ H Q ⟨pn, Z, F, Γ, hh, QA, A, q, k⟩ => k F Γ hh emp H [] [] (Same.refl _) A.alone (ownT_nil.mpr ⟨rfl, rfl⟩) q rfl⟩
theorem ppo_cons {key : Str} {j : Nat} {kp : Pos} {e : Expr} {ks : List Key} {keys : List (Option Expr)} {vals : List Expr} {τo : EO} {τs : EAO} (ha : PE X e (lO X.K τo)) (hr : PPo X pos ks keys vals τs) :
    PPo X pos (.inr key :: ks) (some (.Constant (.str key) j kp) :: keys) (e :: vals) (aoCons τo τs) := by
  obtain ⟨trs, ok, run⟩ := hr.ex
  refine ⟨(tC (.str key), fun σ H Q => lO X.K τo σ H Q) :: trs, pps_cons pe_str ha ok, fun σ H Q ⟨pn, Z, F, Γ, hh, QA, A, q, k⟩ => ?_⟩
  refine ⟨pn, Z, F, Γ, hh, _, A, q, fun F1 Γ1 h1 hr1 H1 o v s1 A1 w1 q1 => ?_⟩
  refine run σ H1 _ ⟨pn, jn Z hr1, F1, Γ1, h1, _, A1.keep, q1, fun F2 Γ2 h2 hr2 H2 os vs s2 A2 w2 q2 hl => ?_⟩
  obtain ⟨B, d⟩ := A2.both A1.rZ.symm
  exact k F2 Γ2 h2 _ H2 (o :: os) (v :: vs) (s1.trans s2) B (ownT_cons.mpr ⟨v, vs, hr1, hr2, rfl, rfl, d, w1.mono s2, w2⟩) q2 (by simp [hl])
def eTdL (ks : List Key) (τs : EAO) : EO := fun Γ Q => τs Γ fun os Γ1 => ks.Nodup ∧ ks.length ≤ 15 ∧ Q (.td ks os) Γ1
theorem vo_tdL {keys : List (Option Expr)} {vals : List Expr} {ks : List Key} {τs : EAO} (h : PPo X pos ks keys vals τs) (hall : keys.all (·.isSome) = true := by rfl) (hl : keys.length = vals.length := by rfl) (h0 : keys ≠ [] := by intro z; cases z) (h15 : keys.length ≤ 15 := by decide) :
    PE X (.Dict keys vals pos) (lO X.K (eTdL ks τs)) := by
  obtain ⟨trs, ok, run⟩ := h.ex
  refine pe_imp (pe_disp ok hall hl h0 h15) fun σ H QV ⟨pn, Z, F, Γ, hh, QA, A, q, k⟩ p n => ?_
  have A0 : AtR X.K pn Z F Γ σ hh (VL.one p (.dK [])) (upd H p (.dK [])) := by
    have g := Grow.stay (H' := upd H p (.dK [])) A.FH (same_new n)
    exact A.beside g (same_one upd_same) (dis_one (A.FH.free n)) fun x z => by
      by_cases e : x = p
      · subst e; exact n
      · rw [one_ne e] at z; exact absurd rfl z
  refine run σ _ _ ⟨pn, _, F, Γ, hh, _, A0.keep, q, fun F1 Γ1 h1 hr1 H1 os vs s1 A1 w1 ⟨nd, l15, q1⟩ hlen => ?_⟩
  obtain ⟨B, d⟩ := A1.both A0.rZ.symm
  have hp : H1 p = some (.dK []) := A1.at_.ZH _ _ (same_r A0.rZ.symm _ _ one_at)
  have kk : ((ks.zip vs).map (·.1)).Nodup := by rw [List.map_fst_zip (by omega)]; exact nd
  refine ⟨hp, ks.zip vs, rfl, by rw [List.length_zip]; omega, ?_⟩
  rw [mergeK_new _ [] (by simpa using kk), List.nil_append]
  have dp : hr1 p = none := of_dis_one d
  have C : AtR X.K pn Z F1 Γ1 σ h1 (jn (VL.one p (.dK (ks.zip vs))) hr1) (upd H1 p (.dK (ks.zip vs))) := by
    have s1 : Same (VL.one p (.dK [])) (jn (VL.one p (.dK [])) hr1) := same_l
    have s2 : Same hr1 (jn (VL.one p (.dK [])) hr1) := same_r d
    have ph : h1 p = none := of_dis_one (Dis.sub s1 B.rh)
    have pF : F1 p = none := of_dis_one (Dis.sub s1 B.rF)
    have pZ : Z p = none := of_dis_one (Dis.sub s1 B.rZ)
    exact ⟨⟨B.at_.own, keepU ph B.at_.hH, keepU pF B.at_.FH, keepU pZ B.at_.ZH, B.at_.FZ, B.at_.hF, B.at_.hZ, B.at_.pin⟩, same_jn (same_one upd_same) (keepU dp (s2.trans B.rH)), Dis.jn (dis_one ph) (Dis.sub s2 B.rh), Dis.jn (dis_one pF) (Dis.sub s2 B.rF), Dis.jn (dis_one pZ) (Dis.sub s2 B.rZ)⟩
  exact k F1 Γ1 h1 _ _ (.td ks os) (.ref p) s1 C (own_td.mpr ⟨p, vs, hr1, rfl, rfl, dis_one dp, w1⟩) q1
/-! ints: or -/
def opOrI : PyData → PyData → (O → Prop) → Prop
  | .int i, .int j, Q => Q (.fz (.int (Builtin.bitOr i j)))
  | _, _, _ => False
theorem o2_or : Op2 X (binaryOp .BitOr) opOrI := by
  intro pins s σ H x y v u QV I rx ry ⟨F, d1, d2, Q, sF, r1, r2, h, post⟩
  unfold opOrI at h
  split at h
  · cases r1.int; cases r2.int
    exact op_or pins s σ H _ _ v u QV I rx ry ⟨_, _, rfl, rfl, post.val sF (.int _) h⟩
  · exact h.elim
/-! x += n, x -= n, an int -/
def sAugI (f : Int → Int → Int) (i : Nat) (τ : EX) : ES := fun D Γ => (∃ n : Int, Γ[i]? = some (some (.fz (.int n)))) ∧ τ Γ fun a Γ1 => ∃ n m : Int, Γ1[i]? = some (some (.fz (.int n))) ∧ rslv Γ1 a = some (.int m) ∧ ∃ Γ2, setG Γ1 i (some (.fz (.int (f n m)))) = some Γ2 ∧ D.nx Γ2
theorem vs_augI {io : Bool} {i : Nat} {x : Str} {e : Expr} {op : Operator} {f : Int → Int → Int} {τ : EX} {pos' pos : Pos} (hN : X.N.Nodup) (hi : X.N[i]? = some x) (hx : Loc X.env.scope x) (h0 : io = true → i ≠ 0) (ho : PIp X op (ipI f)) (he : PE X e (lX X.K τ))
    (hf : X.fn x = true ∨ X.env.scope.names.lookup x = some .local := by first | exact .inl rfl | exact .inr rfl | assumption) : PS X (.AugAssign (.Name x pos') op e pos) (lS X.K io (sAugI f i τ)) :=
  ps_imp (ps_aug hN hi hx he ho hf) fun D σ H ⟨v0, Z, F, Γ, h, DD, A, ⟨⟨n0, e0⟩, q⟩, k⟩ => by
    obtain ⟨u, g1, s1, w, _⟩ := A.slot e0
    have eu := rp_int (own_fz.mp w).2
    subst eu
    refine ⟨_, s1, pns io v0, Z, F, Γ, h, _, A, q, fun F1 Γ1 h1 H1 a v sF A1 r1 ⟨n, m, e1, e2, Γ2, e3, q1⟩ => ?_⟩
    have ev := (rep_of A1 r1 e2).int
    subst ev
    obtain ⟨u, g2, s2, w2, _⟩ := A1.slot e1
    have eu := rp_int (own_fz.mp w2).2
    subst eu
    rw [s1] at s2
    have e4 : n0 = n := by injection s2 with s2; injection s2 with s2; injection s2
    subst e4
    refine ⟨n0, m, rfl, rfl, ?_⟩
    obtain ⟨e5, hl⟩ := setG_eq e3
    obtain ⟨h2, A2⟩ := A1.alone.store (own_fz.mpr ⟨rfl, .int (f n0 m)⟩) hl (pns_ne h0)
    rw [e5] at A2
    exact k.nx F1 _ _ h2 H1 sF A2 q1
/-! xs.index(x) -/
def opIndex : PyData → PyData → (O → Prop) → Prop
  | .list ds, d, Q => shaped (.list ds) ∧ shaped d ∧ ∃ (j : Nat) (z : PyData), ds[j]? = some z ∧ PyData.eqv z d = true ∧ (∀ (m : Nat) (z' : PyData), m < j → ds[m]? = some z' → PyData.eqv z' d = false) ∧ Q (.fz (.int (j : Nat)))
  | _, _, _ => False
def eIdx (τo τ : EX) : EO := fun Γ Q => τo Γ fun a1 Γ1 => (∃ ds, rslv Γ1 a1 = some (.list ds)) ∧ τ Γ1 fun a2 Γ2 => ∃ d1 d2, rslv Γ2 a1 = some d1 ∧ rslv Γ2 a2 = some d2 ∧ opIndex d1 d2 fun o => Q o Γ2
theorem vo_index {o e : Expr} {τo τ : EX} {apos cpos : Pos} (hu : X.A.units + 65 < cLine) (ho : PE X o (lX X.K τo)) (ha : PE X e (lX X.K τ))
    (hbase : attributeBase o "index" X.env (eval o X.env) = eval o X.env := by rfl)
    (hfew : ((backTo cpos (starEach [e] X.env)).all (fun x => !x.1) && (backToKw cpos (keywordEach [] X.env)).all (fun x => x.1.isSome)
      && decide ([e].length + ([] : List Keyword).length + (if ([] : List Keyword).isEmpty then 0 else 1) < 30)) = true := by rfl)
    (hline : (apos.endLine == cpos.line) = true := by rfl) (hs : starEach [e] X.env = (false, eval e X.env) :: starEach [] X.env := by rfl) (hplain : (backTo cpos (starEach [] X.env)).any (·.1) = false := by rfl) :
    PE X (.Call (.Attribute o "index" apos) [e] [] cpos) (lO X.K (eIdx τo τ)) :=
  pe_imp (pe_bm PySem.F.plainAttrs_list PySem.F.slot_list_index PySem.F.type_list_index (mt_indexD hu) ho (pa_cons ha pa_nil hs) hbase hfew hline hs hplain) fun σ H QV ⟨pn, Z, F, Γ, hh, Q, A, q, kk⟩ => ⟨pn, Z, F, Γ, hh, _, A, q, fun F1 Γ1 h1 H1 a v s1 A1 r1 ⟨⟨ds0, e0⟩, q1⟩ => by
    have rr := rep_of A1 r1 e0
    obtain ⟨b, vs, eb, hb, rb⟩ := rr.list A1.FH
    subst eb
    refine ⟨.inl ⟨rfl, vs, SqL.of hb⟩, pn, Z, F1, Γ1, h1, _, A1, q1, fun F2 Γ2 h2 H2 a2 y s2 A2 r2 ⟨d1, d2, e1, e2, q2⟩ => ?_⟩
    have x1 := rep_of A2 (r1.mono s2) e1
    have x2 := rep_of A2 r2 e2
    cases d1 with
    | list ds =>
      obtain ⟨c1, c2, j, z, hz, hzj, hno, q3⟩ := q2
      exact ⟨b, y, _, ds, j, z, rfl, rfl, x1.dpH A2.FH c1, x2.dpH A2.FH c2, c1, c2, hz, hzj, hno, kk F2 Γ2 h2 emp H2 (.fz (.int (j : Nat))) _ (s1.trans s2) A2.alone (own_fz.mpr ⟨rfl, .int _⟩) q3⟩
    | _ => exact q2.elim⟩
/-! xs[::-1] -/
def eRev (τ : EX) : EO := fun Γ Q => τ Γ fun a Γ1 => ∃ ds, rslv Γ1 a = some (.list ds) ∧ Q (.ls ds.reverse) Γ1
theorem rpAll_rev {K : PySem.W.Frag} {F : Hp} : ∀ {vs : List V} {ds : List PyData}, RpAll K F vs ds → RpAll K F vs.reverse ds.reverse
  | _, _, .nil => .nil
  | _, _, .cons r t => by rw [List.reverse_cons, List.reverse_cons]; exact (rpAll_rev t).append (.cons r .nil)
theorem vo_rev {e : Expr} {τ : EX} {k : Nat} {p1 p2 p3 pos : Pos} (he : PE X e (lX X.K τ)) : PE X (.Subscript e (.Slice none none (some (.UnaryOp .USub (.Constant (.int 1) k p1) p2)) p3) pos) (lO X.K (eRev τ)) :=
  pe_imp (pe_revL he) fun σ H QV ⟨pn, Z, F, Γ, hh, Q, A, q, kk⟩ => ⟨pn, Z, F, Γ, hh, _, A, q, fun F1 Γ1 h1 H1 a v s1 A1 r1 ⟨ds, e1, q1⟩ => by
    obtain ⟨b, vs, eb, hb, rb⟩ := (rep_of A1 r1 e1).list A1.FH
    subst eb
    refine ⟨b, vs, rfl, SqL.of hb, fun p n => ?_⟩
    exact (A1.post s1 kk).newL A1.FH n (rpAll_rev rb) q1⟩
end
end VL
end
section
namespace VL
open PySem PySem.Spec L2
section
variable {Γ Γ1 : Ga} {i k : Nat} {ks : List Key} {ts : List O} {key : Key} {QE : Nat → Nat → Ga → Prop} {te : EE} {τ : EX} {QX : Av → Ga → Prop} {Q : O → Ga → Prop} {QT : Bool → Ga → Prop} {D : En} {to : EO} {τs : EA} {tos : EAO}
theorem st_augI {f : Int → Int → Int} {n : Int} (e : Γ[i]? = some (some (.fz (.int n)))) (h : τ Γ fun a Γ1 => ∃ n m : Int, Γ1[i]? = some (some (.fz (.int n))) ∧ rslv Γ1 a = some (.int m) ∧ ∃ Γ2, setG Γ1 i (some (.fz (.int (f n m)))) = some Γ2 ∧ D.nx Γ2) : sAugI f i τ D Γ := ⟨⟨n, e⟩, h⟩
theorem st_elD (he : Γ[i]? = some (some (.td ks ts))) (hk : kIx ks key = some k) (hl : k < ts.length) (h : QE i k Γ) : eElD i key Γ QE := ⟨ks, ts, k, he, hk, hl, h⟩
theorem st_xelD (h : te Γ fun i k Γ1 => ∃ d, elGD Γ1 i k = some (.fz d) ∧ QX (.d d) Γ1) : xElD te Γ QX := h
theorem st_cbd {cd : List PyData → (O → Prop) → Prop} (h : te Γ fun i k Γ1 => ∃ o d, elGD Γ1 i k = some o ∧ elD o = some d ∧ cd [d] fun o => Q o Γ1) : eCBD cd te Γ Q := h
theorem st_truDE (h : te Γ fun i k Γ1 => ∃ o d c, elGD Γ1 i k = some o ∧ elD o = some d ∧ truD d = some c ∧ QT c Γ1) : tTruDE te Γ QT := h
theorem st_ixD' {op : PyData → PyData → (O → Prop) → Prop} (h : te Γ fun i k Γ1 => ∃ o1 ks ts Γ2, o1 = .td ks ts ∧ Γ1[i]? = some (some o1) ∧ setG Γ1 i none = some Γ2 ∧ τ Γ2 fun a Γ3 => ∃ el d1 d2 Γ4, rslv Γ3 a = some d2 ∧ ts[k]? = some el ∧ elD el = some d1 ∧ setG Γ3 i (some o1) = some Γ4 ∧ op d1 d2 fun o => Q o Γ4) : eIxD op te τ Γ Q := h
theorem st_smd {sm : SM} (h : te Γ fun i k Γ1 => ∃ o1 ks ts Γ2 ds, o1 = .td ks ts ∧ Γ1[i]? = some (some o1) ∧ setG Γ1 i none = some Γ2 ∧ ts[k]? = some (.ls ds) ∧ τs Γ2 fun as Γ3 => ∃ ads Γ4, unD as = some ads ∧ setG Γ3 i (some o1) = some Γ4 ∧ sm ds ads fun ds' d => ∃ Γ5, setG Γ4 i (some (.td ks (ts.set k (.ls ds')))) = some Γ5 ∧ Q (.fz d) Γ5) : eSMD sm te τs Γ Q := h
theorem st_smd0 {sm : SM} (h : te Γ fun i k Γ1 => ∃ ks ts ds, Γ1[i]? = some (some (.td ks ts)) ∧ ts[k]? = some (.ls ds) ∧ sm ds [] fun ds' d => ∃ Γ5, setG Γ1 i (some (.td ks (ts.set k (.ls ds')))) = some Γ5 ∧ Q (.fz d) Γ5) : eSMD0 sm te Γ Q := h
theorem st_putD (h : to Γ fun o Γ1 => ∃ ks ts k Γ2, Γ1[i]? = some (some (.td ks ts)) ∧ kIx ks key = some k ∧ ks.Nodup ∧ k < ts.length ∧ ks.length < sizeLine ∧ setG Γ1 i (some (.td ks (ts.set k o))) = some Γ2 ∧ D.nx Γ2) : sPutD i key to D Γ := h
theorem st_tdl (h : tos Γ fun os Γ1 => ks.Nodup ∧ ks.length ≤ 15 ∧ Q (.td ks os) Γ1) : eTdL ks tos Γ Q := h
theorem st_idx {τo : EX} (h : τo Γ fun a1 Γ1 => (∃ ds, rslv Γ1 a1 = some (.list ds)) ∧ τ Γ1 fun a2 Γ2 => ∃ d1 d2, rslv Γ2 a1 = some d1 ∧ rslv Γ2 a2 = some d2 ∧ opIndex d1 d2 fun o => Q o Γ2) : eIdx τo τ Γ Q := h
theorem st_rev (h : τ Γ fun a Γ1 => ∃ ds, rslv Γ1 a = some (.list ds) ∧ Q (.ls ds.reverse) Γ1) : eRev τ Γ Q := h
end
theorem cut_upto {α : Type} (xs : List α) (k : Nat) : cutL xs none (some ((k : Nat) : Int)) = xs.take k := by
  unfold cutL
  rw [HT.sIx_nat, HT.sIx_none]
  simp
theorem cut_after {α : Type} (xs : List α) (k : Nat) : cutL xs (some ((k : Nat) : Int)) none = xs.drop k := by
  unfold cutL
  rw [HT.sIx_nat, HT.sIx_none]
  apply List.ext_getElem?
  intro n
  rw [List.getElem?_take, List.getElem?_drop, List.getElem?_drop]
  split
  · rename_i h
    rcases Nat.le_total k xs.length with z | z
    · rw [Nat.min_eq_left z]
    · rw [Nat.min_eq_right z, List.getElem?_eq_none (by omega), List.getElem?_eq_none (by omega)]
  · rename_i h
    rw [List.getElem?_eq_none (by omega)]
theorem or_nat (a b : Nat) : Builtin.bitOr ((a : Nat) : Int) ((b : Nat) : Int) = ((a ||| b : Nat) : Int) := by
  rw [bitOr_nn (Int.natCast_nonneg _) (Int.natCast_nonneg _), Int.toNat_natCast, Int.toNat_natCast]
theorem op_orN {a b : Nat} {Q : O → Prop} (h : Q (.fz (.int ((a ||| b : Nat) : Int)))) : opOrI (.int (a : Nat)) (.int (b : Nat)) Q := by
  show Q (.fz (.int (Builtin.bitOr ((a : Nat) : Int) ((b : Nat) : Int))))
  rw [or_nat]; exact h
end VL
end
section
namespace FM
open PySem VL

/-! ### fillings of boxes, in plain lists -/
abbrev Fil := List Bool
def holds (r : Rule) (f : Fil) : Bool := r.any fun l => decide (f[l.1.toNat]? = some l.2)
def keeps (rs : List Rule) (f : Fil) : Bool := rs.all fun r => holds r f
def agr (t : List Lit) (f : Fil) : Bool := t.all fun l => decide (f[l.1.toNat]? = some l.2)
def allF : Nat → List Fil
  | 0 => [[]]
  | n + 1 => (allF n).map (false :: ·) ++ (allF n).map (true :: ·)
structure Wf (m : Nat) (r : Rule) : Prop where
  rng : ∀ l ∈ r, 0 ≤ l.1 ∧ l.1 < m
  inc : r.Pairwise fun a b => a.1 < b.1
def last (m : Nat) (r : Rule) : Int := match r.getLast? with
  | some l => l.1
  | none => m
def signs (t : List Lit) (k : Nat) : List Bool := match t.find? fun l => decide (l.1 = (k : Int)) with
  | some l => [l.2]
  | none => [false, true]
def good (rs : List Rule) (t : List Lit) (f : Fil) : Bool := keeps rs f && agr t f
def firstF (m : Nat) (rs : List Rule) (t : List Lit) : Option Fil := (allF m).find? (good rs t)
theorem mem_allF : ∀ {n : Nat} {f : Fil}, f ∈ allF n ↔ f.length = n
  | 0, f => by simp [allF]
  | n + 1, f => by
    simp only [allF, List.mem_append, List.mem_map]
    constructor
    · rintro (⟨g, hg, rfl⟩ | ⟨g, hg, rfl⟩) <;> simp [mem_allF.mp hg]
    · intro h
      cases f with
      | nil => simp at h
      | cons b g =>
        have hg : g ∈ allF n := mem_allF.mpr (by simpa using h)
        cases b
        · exact .inl ⟨g, hg, rfl⟩
        · exact .inr ⟨g, hg, rfl⟩
theorem last_le {m : Nat} {r : Rule} (w : Wf m r) (hne : r ≠ []) : ∀ l ∈ r, l.1 ≤ last m r := by
  intro l hl
  unfold last
  rw [List.getLast?_eq_some_getLast hne]
  show l.1 ≤ (r.getLast hne).1
  have hd : r = r.dropLast ++ [r.getLast hne] := (List.dropLast_concat_getLast hne).symm
  rw [hd] at hl
  rcases List.mem_append.mp hl with h | h
  · have := w.inc
    rw [hd] at this
    have := (List.pairwise_append.mp this).2.2 l h (r.getLast hne) (by simp)
    omega
  · have : l = r.getLast hne := by simpa using h
    rw [← this]; omega
theorem last_lt {m : Nat} {r : Rule} (w : Wf m r) (hne : r ≠ []) : 0 ≤ last m r ∧ last m r < m := by
  unfold last
  rw [List.getLast?_eq_some_getLast hne]
  exact w.rng _ (List.getLast_mem hne)
/-- a rule whose boxes lie below is told by the front of a filling -/
theorem holds_front {r : Rule} {f g : Fil} (h : ∀ l ∈ r, 0 ≤ l.1 ∧ l.1 < f.length) : holds r (f ++ g) = holds r f := by
  unfold holds
  have : ∀ l ∈ r, decide ((f ++ g)[l.1.toNat]? = some l.2) = decide (f[l.1.toNat]? = some l.2) := fun l hl => by
    rw [List.getElem?_append_left (by have := h l hl; omega)]
  induction r with
  | nil => rfl
  | cons x r ih =>
    rw [List.any_cons, List.any_cons, this x (by simp), ih (fun l hl => h l (by simp [hl])) (fun l hl => this l (by simp [hl]))]
theorem holds_take {r : Rule} {f : Fil} {k : Nat} (hk : k ≤ f.length) (h : ∀ l ∈ r, 0 ≤ l.1 ∧ l.1 < k) : holds r (f.take k) = holds r f := by
  conv => rhs; rw [← List.take_append_drop k f]
  rw [holds_front fun l hl => by rw [List.length_take]; have := h l hl; omega]

/-! ### the search -/
section
variable (m : Nat)
def ext (p : Fil) : List Fil := (allF (m - p.length)).map (p ++ ·)
def cand (p : Fil) (S : List Bool) : List Fil := S.flatMap fun s => ext m (p ++ [s])
/-- what is left to try: the stack, the deepest box first -/
def left (fil : Fil) : List (List Bool) → List Fil
  | [] => []
  | S :: up => cand m (fil.take up.length) S ++ left fil up
end
section
variable {m : Nat}
theorem left_eq {fil g : Fil} : ∀ {stk : List (List Bool)}, (∀ k, k < stk.length → fil.take k = g.take k) → left m fil stk = left m g stk
  | [], _ => rfl
  | S :: up, h => by
    unfold left
    rw [h up.length (by simp), left_eq fun k hk => h k (by simp; omega)]
theorem ext_split {p : Fil} (h : p.length < m) : ext m p = ext m (p ++ [false]) ++ ext m (p ++ [true]) := by
  unfold ext
  rw [List.length_append, List.length_append]
  obtain ⟨n, hn⟩ : ∃ n, m - p.length = n + 1 := ⟨m - p.length - 1, by omega⟩
  rw [hn, show m - (p.length + [false].length) = n by simp; omega, show m - (p.length + [true].length) = n by simp; omega]
  simp only [allF, List.map_append, List.map_map]
  congr 1 <;> (apply List.map_congr_left; intro f _; simp)
theorem cand_nil {p : Fil} : cand m p [] = [] := rfl
theorem cand_cons {p : Fil} {s : Bool} {S : List Bool} : cand m p (s :: S) = ext m (p ++ [s]) ++ cand m p S := by simp [cand]
theorem mem_ext {p f : Fil} (h : f ∈ ext m p) : ∃ g, f = p ++ g := by
  unfold ext at h
  obtain ⟨g, _, e⟩ := List.mem_map.mp h
  exact ⟨g, e.symm⟩
variable {rs : List Rule} {t : List Lit}
/-- the state of the search -/
structure St (m : Nat) (rs : List Rule) (t : List Lit) (stk : List (List Bool)) (fil : Fil) : Prop where
  ne0 : ∀ r ∈ rs, r ≠ []
  wf : ∀ r ∈ rs, Wf m r
  tr : ∀ l ∈ t, 0 ≤ l.1 ∧ l.1 < m
  td : t.Pairwise fun a b => a.1 ≠ b.1
  le : stk.length ≤ m
  fl : stk.length ≤ fil.length + 1
  fnd : firstF m rs t = (left m fil stk).find? (good rs t)
  kept : ∀ r ∈ rs, last m r + 1 < stk.length → holds r (fil.take (stk.length - 1)) = true
  agrd : ∀ l ∈ t, l.1 + 1 < stk.length → fil[l.1.toNat]? = some l.2
  sub : ∀ k S, stk.reverse[k]? = some S → ∀ s ∈ S, s ∈ signs t k
theorem tick_of {l : Lit} (td : t.Pairwise fun a b => a.1 ≠ b.1) (hl : l ∈ t) (h0 : 0 ≤ l.1) : signs t l.1.toNat = [l.2] := by
  unfold signs
  have e : ((l.1.toNat : Nat) : Int) = l.1 := by omega
  rw [e]
  have : t.find? (fun x => decide (x.1 = l.1)) = some l := by
    induction t with
    | nil => cases hl
    | cons x t ih =>
      rw [List.pairwise_cons] at td
      rcases List.mem_cons.mp hl with rfl | h
      · exact List.find?_cons_of_pos (by simp)
      · rw [List.find?_cons_of_neg (by simpa using td.1 l h)]
        exact ih td.2 h
  rw [this]
theorem find_ext_bad {p : Fil} {r : Rule} (hr : r ∈ rs) (hb : ∀ l ∈ r, 0 ≤ l.1 ∧ l.1 < p.length) (h : holds r p = false) : (ext m p).find? (good rs t) = none := by
  apply List.find?_eq_none.mpr
  intro f hf
  obtain ⟨g, rfl⟩ := mem_ext hf
  unfold good keeps
  intro z
  rw [Bool.and_eq_true, List.all_eq_true] at z
  have := z.1 r hr
  rw [holds_front hb, h] at this
  exact Bool.noConfusion this
theorem find_ext_tick {p : Fil} {l : Lit} (hl : l ∈ t) (h0 : 0 ≤ l.1) (e : l.1.toNat = p.length) {s : Bool} (hs : s ≠ l.2) : (ext m (p ++ [s])).find? (good rs t) = none := by
  apply List.find?_eq_none.mpr
  intro f hf
  obtain ⟨g, rfl⟩ := mem_ext hf
  unfold good agr
  intro z
  rw [Bool.and_eq_true, List.all_eq_true] at z
  have := z.2 l hl
  rw [decide_eq_true_eq, e, List.append_assoc, List.getElem?_append_right (by omega)] at this
  simp at this
  exact hs this
theorem find_signs {p : Fil} (h : p.length < m) : (ext m p).find? (good rs t) = (cand m p (signs t p.length)).find? (good rs t) := by
  rw [ext_split h]
  unfold signs
  cases e : t.find? (fun l => decide (l.1 = (p.length : Int))) with
  | none => simp [cand_cons, cand_nil]
  | some l =>
    have hl := List.mem_of_find?_eq_some e
    have hb := List.find?_some e
    have hb : l.1 = (p.length : Int) := by simpa using hb
    simp only [cand_cons, cand_nil, List.append_nil]
    rw [List.find?_append]
    cases hs : l.2 with
    | false =>
      rw [find_ext_tick (s := true) hl (by omega) (by omega) (by rw [hs]; simp)]
      cases (ext m (p ++ [false])).find? (good rs t) <;> rfl
    | true =>
      rw [find_ext_tick (s := false) hl (by omega) (by omega) (by rw [hs]; simp)]
      rfl
/-! the steps -/
theorem St.start (hm : 0 < m) (ne0 : ∀ r ∈ rs, r ≠ []) (wf : ∀ r ∈ rs, Wf m r) (tr : ∀ l ∈ t, 0 ≤ l.1 ∧ l.1 < m) (td : t.Pairwise fun a b => a.1 ≠ b.1) : St m rs t [signs t 0] [] where
  ne0 := ne0
  wf := wf
  tr := tr
  td := td
  le := by simp; omega
  fl := by simp
  fnd := by
    unfold firstF left
    have e : allF m = ext m [] := by unfold ext; simp
    rw [e, find_signs (by simpa using hm)]
    simp [left]
  kept := fun r hr h => by
    have := last_lt (wf r hr) (ne0 r hr)
    simp at h; omega
  agrd := fun l hl h => by
    have := tr l hl
    simp at h; omega
  sub := fun k S e s hs => by
    cases k with
    | zero => simp at e; subst e; exact hs
    | succ k => simp at e
theorem St.pop {up : List (List Bool)} {fil : Fil} (h : St m rs t ([] :: up) fil) : St m rs t up (fil.take up.length) where
  ne0 := h.ne0
  wf := h.wf
  tr := h.tr
  td := h.td
  le := by have := h.le; simp at this; omega
  fl := by rw [List.length_take]; have := h.fl; simp at this; omega
  fnd := by
    rw [h.fnd]
    show (cand m _ [] ++ left m fil up).find? _ = _
    rw [cand_nil, List.nil_append, left_eq (g := fil.take up.length) fun k hk => by rw [List.take_take, Nat.min_eq_left (by omega)]]
  kept := fun r hr z => by
    have := h.kept r hr (by simp; omega)
    simp only [List.length_cons, Nat.add_sub_cancel] at this
    have lt := last_lt (h.wf r hr) (h.ne0 r hr)
    have ll := last_le (h.wf r hr) (h.ne0 r hr)
    have fl := h.fl
    simp only [List.length_cons] at fl
    rw [List.take_take, Nat.min_eq_left (by omega), ← this]
    have hb : ∀ l ∈ r, 0 ≤ l.1 ∧ l.1 < ((up.length - 1 : Nat) : Int) := fun l hl => by
      have := ll l hl
      have := (h.wf r hr).rng l hl
      omega
    rw [holds_take (by omega) hb, holds_take (by omega) fun l hl => by have := hb l hl; omega]
  agrd := fun l hl z => by
    have := h.agrd l hl (by simp; omega)
    have h0 := (h.tr l hl).1
    rw [List.getElem?_take_of_lt (by omega)]
    exact this
  sub := fun k S e s hs => h.sub k S (by rw [List.reverse_cons]; rw [List.getElem?_append_left (by have := (List.getElem?_eq_some_iff.mp e).1; exact this)]; exact e) s hs
section
variable {s : Bool} {S : List Bool} {up : List (List Bool)} {fil : Fil}
theorem St.split (h : St m rs t ((s :: S) :: up) fil) : firstF m rs t = (ext m (fil.take up.length ++ [s]) ++ left m (fil.take up.length ++ [s]) (S :: up)).find? (good rs t) := by
  rw [h.fnd]
  unfold left
  rw [cand_cons, List.append_assoc]
  have fl := h.fl
  simp only [List.length_cons] at fl
  have e1 : (fil.take up.length ++ [s]).take up.length = fil.take up.length := by rw [List.take_append_of_le_length (by rw [List.length_take]; omega), List.take_take, Nat.min_self]
  rw [e1]
  congr 3
  apply left_eq
  intro k hk
  rw [List.take_append_of_le_length (by rw [List.length_take]; omega), List.take_take, Nat.min_eq_left (by omega)]
theorem St.lenp (h : St m rs t ((s :: S) :: up) fil) : (fil.take up.length ++ [s]).length = up.length + 1 := by
  have fl := h.fl
  simp only [List.length_cons] at fl
  rw [List.length_append, List.length_take]; simp; omega
theorem St.rest (h : St m rs t ((s :: S) :: up) fil) : (∀ r ∈ rs, last m r + 1 < (S :: up).length → holds r ((fil.take up.length ++ [s]).take ((S :: up).length - 1)) = true) ∧ (∀ l ∈ t, l.1 + 1 < (S :: up).length → (fil.take up.length ++ [s])[l.1.toNat]? = some l.2) ∧
    ∀ k T, (S :: up).reverse[k]? = some T → ∀ x ∈ T, x ∈ signs t k := by
  have fl := h.fl
  simp only [List.length_cons] at fl
  refine ⟨fun r hr z => ?_, fun l hl z => ?_, fun k T e x hx => ?_⟩
  · have := h.kept r hr (by simpa using z)
    simp only [List.length_cons, Nat.add_sub_cancel] at this ⊢
    rw [List.take_append_of_le_length (by rw [List.length_take]; omega), List.take_take, Nat.min_self]
    exact this
  · have := h.agrd l hl (by simpa using z)
    have h0 := (h.tr l hl).1
    simp only [List.length_cons] at z
    rw [List.getElem?_append_left (by rw [List.length_take]; omega), List.getElem?_take_of_lt (by omega)]
    exact this
  · rw [List.reverse_cons] at e
    by_cases c : k < up.length
    · rw [List.getElem?_append_left (by simpa using c)] at e
      exact h.sub k T (by rw [List.reverse_cons, List.getElem?_append_left (by simpa using c)]; exact e) x hx
    · have ek : k = up.length := by
        have := (List.getElem?_eq_some_iff.mp e).1
        simp at this; omega
      subst ek
      rw [List.getElem?_append_right (by simp)] at e
      simp at e
      subst e
      exact h.sub up.length (s :: S) (by rw [List.reverse_cons, List.getElem?_append_right (by simp)]; simp) x (by simp [hx])
/-- a rule of this box is not kept -/
theorem St.fail (h : St m rs t ((s :: S) :: up) fil) (hk : ¬ ∀ r ∈ rs, last m r = (up.length : Int) → holds r (fil.take up.length ++ [s]) = true) : St m rs t (S :: up) (fil.take up.length ++ [s]) := by
  obtain ⟨k1, k2, k3⟩ := h.rest
  refine ⟨h.ne0, h.wf, h.tr, h.td, by have := h.le; simpa using this, by rw [h.lenp]; simp, ?_, k1, k2, k3⟩
  rw [h.split, List.find?_append]
  obtain ⟨r, hr, hl, hh⟩ : ∃ r, r ∈ rs ∧ last m r = (up.length : Int) ∧ holds r (fil.take up.length ++ [s]) = false := by
    apply Classical.byContradiction
    intro z
    apply hk
    intro r hr hl
    cases e : holds r (fil.take up.length ++ [s]) with
    | true => rfl
    | false => exact absurd ⟨r, hr, hl, e⟩ z
  rw [find_ext_bad hr (fun l hl' => by
    have := last_le (h.wf r hr) (h.ne0 r hr) l hl'
    have := ((h.wf r hr).rng l hl').1
    rw [h.lenp]; omega) hh]
  rfl
theorem St.agr1 (h : St m rs t ((s :: S) :: up) fil) : ∀ l ∈ t, l.1 < (up.length + 1 : Nat) → (fil.take up.length ++ [s])[l.1.toNat]? = some l.2 := fun l hl z => by
  have h0 := (h.tr l hl).1
  have fl := h.fl
  simp only [List.length_cons] at fl
  by_cases c : l.1 < up.length
  · exact h.rest.2.1 l hl (by simp; omega)
  · have e : l.1.toNat = up.length := by omega
    have := h.sub up.length (s :: S) (by rw [List.reverse_cons, List.getElem?_append_right (by simp)]; simp) s (by simp)
    rw [← e, tick_of h.td hl h0] at this
    have es : s = l.2 := by simpa using this
    rw [List.getElem?_append_right (by rw [List.length_take]; omega), List.length_take, Nat.min_eq_left (by omega), e, Nat.sub_self]
    simp [es]
/-- the last box, all kept -/
theorem St.done (h : St m rs t ((s :: S) :: up) fil) (hk : ∀ r ∈ rs, last m r = (up.length : Int) → holds r (fil.take up.length ++ [s]) = true) (he : up.length + 1 = m) : firstF m rs t = some (fil.take up.length ++ [s]) := by
  rw [h.split]
  have e : ext m (fil.take up.length ++ [s]) = [fil.take up.length ++ [s]] := by
    unfold ext
    rw [h.lenp, he, Nat.sub_self]
    simp [allF]
  rw [e]
  have g : good rs t (fil.take up.length ++ [s]) = true := by
    unfold good keeps agr
    rw [Bool.and_eq_true, List.all_eq_true, List.all_eq_true]
    refine ⟨fun r hr => ?_, fun l hl => ?_⟩
    · have lt := last_lt (h.wf r hr) (h.ne0 r hr)
      by_cases c : last m r = (up.length : Int)
      · exact hk r hr c
      · have := h.rest.1 r hr (by simp; omega)
        rw [holds_take (by rw [h.lenp]; simp) fun l hl => ?_] at this
        · exact this
        · have := last_le (h.wf r hr) (h.ne0 r hr) l hl
          have := ((h.wf r hr).rng l hl).1
          simp; omega
    · rw [decide_eq_true_eq]
      exact h.agr1 l hl (by have := (h.tr l hl).2; omega)
  rw [List.cons_append, List.find?_cons_of_pos g]
/-- on to the next box -/
theorem St.push (h : St m rs t ((s :: S) :: up) fil) (hk : ∀ r ∈ rs, last m r = (up.length : Int) → holds r (fil.take up.length ++ [s]) = true) (he : up.length + 1 < m) : St m rs t (signs t (up.length + 1) :: S :: up) (fil.take up.length ++ [s]) := by
  obtain ⟨k1, k2, k3⟩ := h.rest
  refine ⟨h.ne0, h.wf, h.tr, h.td, by simp; omega, by rw [h.lenp]; simp, ?_, fun r hr z => ?_, fun l hl z => ?_, fun k T e x hx => ?_⟩
  · rw [h.split, List.find?_append, find_signs (by rw [h.lenp]; exact he), h.lenp]
    show _ = (cand m ((fil.take up.length ++ [s]).take (S :: up).length) (signs t (up.length + 1)) ++ left m (fil.take up.length ++ [s]) (S :: up)).find? (good rs t)
    rw [List.find?_append, List.take_of_length_le (l := fil.take up.length ++ [s]) (by rw [h.lenp]; simp)]
  · simp only [List.length_cons, Nat.add_sub_cancel] at z ⊢
    rw [List.take_of_length_le (l := fil.take up.length ++ [s]) (by rw [h.lenp]; omega)]
    by_cases c : last m r = (up.length : Int)
    · exact hk r hr c
    · have lt := last_lt (h.wf r hr) (h.ne0 r hr)
      have := k1 r hr (by simp; omega)
      rw [holds_take (by rw [h.lenp]; simp) fun l hl => ?_] at this
      · exact this
      · have := last_le (h.wf r hr) (h.ne0 r hr) l hl
        have := ((h.wf r hr).rng l hl).1
        simp; omega
  · exact h.agr1 l hl (by simp only [List.length_cons] at z; omega)
  · rw [List.reverse_cons] at e
    by_cases c : k < up.length + 1
    · rw [List.getElem?_append_left (by simpa using c)] at e
      exact k3 k T e x hx
    · have ek : k = up.length + 1 := by
        have := (List.getElem?_eq_some_iff.mp e).1
        simp at this; omega
      subst ek
      rw [List.getElem?_append_right (by simp)] at e
      simp at e
      subst e
      exact hx
end
/-- how much is left -/
def wgt : Nat → Nat
  | 0 => 0
  | n + 1 => 2 * wgt n + 2
def meas (m : Nat) : List (List Bool) → Nat
  | [] => 0
  | S :: up => 1 + S.length * wgt (m - up.length) + meas m up
theorem signs_len (k : Nat) : (signs t k).length ≤ 2 := by
  unfold signs
  split <;> simp
theorem meas_push {s : Bool} {S : List Bool} {up : List (List Bool)} (h : up.length + 1 < m) : meas m (signs t (up.length + 1) :: S :: up) < meas m ((s :: S) :: up) := by
  simp only [meas, List.length_cons]
  obtain ⟨n, hn⟩ : ∃ n, m - up.length = n + 1 := ⟨m - up.length - 1, by omega⟩
  rw [hn, show m - (up.length + 1) = n by omega]
  have a : (signs t (up.length + 1)).length * wgt n ≤ 2 * wgt n := Nat.mul_le_mul_right _ (signs_len _)
  have b : (S.length + 1) * wgt (n + 1) = S.length * wgt (n + 1) + wgt (n + 1) := Nat.succ_mul _ _
  have c : wgt (n + 1) = 2 * wgt n + 2 := rfl
  rw [b, c] at *
  omega
theorem meas_fail {s : Bool} {S : List Bool} {up : List (List Bool)} (h : up.length < m) : meas m (S :: up) < meas m ((s :: S) :: up) := by
  simp only [meas, List.length_cons]
  obtain ⟨n, hn⟩ : ∃ n, m - up.length = n + 1 := ⟨m - up.length - 1, by omega⟩
  rw [hn, Nat.succ_mul]
  have c : wgt (n + 1) = 2 * wgt n + 2 := rfl
  omega
theorem meas_pop {up : List (List Bool)} : meas m up < meas m ([] :: up) := by
  simp [meas]
end
end FM
end
section
namespace K18
open PySem L2 VL FM
def Sml (m : Nat) (rs : List Rule) : Prop := 1 ≤ m ∧ m ≤ 12 ∧ rs.length ≤ 1000 ∧ ∀ r ∈ rs, Wf m r
def dOF : Option Fil → PyData
  | none => .none
  | some f => dF f
def ctr (r : Rule) : Rule := r.map neg
def tkD (t : List Lit) : List (PyData × PyData) := t.map fun l => (.int l.1, .bool l.2)
def wp_contrary_of : W0 := fun ds Q => ∃ b s, ds = [dLit b s] ∧ Q (.fz (dLit b (!s)))
def wp_contrary : W0 := fun ds Q => ∃ m r, ds = [dR r] ∧ Wf m r ∧ m ≤ 12 ∧ Q (.fz (dR (ctr r)))
def wp_rule_holds : W0 := fun ds Q => ∃ (r : Rule) (f : Fil), (ds = [dR r, dF f] ∨ ds = [dR r, .list (f.map .bool)]) ∧ (∀ l ∈ r, 0 ≤ l.1 ∧ l.1 < f.length) ∧ r.length ≤ 1000 ∧ Q (.fz (.bool (holds r f)))
def levels (m : Nat) (rs : List Rule) : List PyData := (List.range (m + 1)).map fun (b : Nat) => dRs (rs.filter fun r => decide (last m r = (b : Int)))
def wp_rules_by_last_box : W0 := fun ds Q => ∃ m rs, ds = [dS (m : Nat) rs] ∧ Sml m rs ∧ Q (.fz (.tuple (levels m rs)))
def wp_signs_let : W0 := fun ds Q => ∃ (k : Nat) (t : List Lit), ds = [.int (k : Nat), .dict (tkD t), .bool false] ∧ Q (.ls ((signs t k).map .bool))
def wp_is_kept : W0 := fun ds Q => ∃ (rs : List Rule) (f : Fil), ds = [dRs rs, .list (f.map .bool)] ∧ rs.length ≤ 1000 ∧ (∀ r ∈ rs, r.length ≤ 1000 ∧ ∀ l ∈ r, 0 ≤ l.1 ∧ l.1 < f.length) ∧ Q (.fz (.bool (keeps rs f)))
structure Tk (m : Nat) (t : List Lit) : Prop where
  tr : ∀ l ∈ t, 0 ≤ l.1 ∧ l.1 < m
  td : t.Pairwise fun a b => a.1 ≠ b.1
def wp_filling_from : W0 := fun ds Q => ∃ m rs t, ds = [dS (m : Nat) rs, dR t, dF (List.replicate m false)] ∧ Sml m rs ∧ Tk m t ∧ Q (.fz (dOF (firstF m rs t)))
def wp_first_filling : W0 := fun ds Q => ∃ m rs t, ds = [dS (m : Nat) rs, dR t] ∧ Sml m rs ∧ Tk m t ∧ Q (.fz (dOF (firstF m rs t)))
def wp_breaking_filling : W0 := fun ds Q => ∃ m rs r, ds = [dS (m : Nat) rs, dR r] ∧ Sml m rs ∧ Wf m r ∧ Q (.fz (dOF (firstF m rs (ctr r))))
def fol (m : Nat) (rs : List Rule) (r : Rule) : Bool := (firstF m rs (ctr r)).isNone
def wp_follows : W0 := fun ds Q => ∃ m rs r, ds = [dS (m : Nat) rs, dR r] ∧ Sml m rs ∧ Wf m r ∧ Q (.fz (.bool (firstF m rs (ctr r)).isNone))
def wp_without_number : W0 := fun ds Q => ∃ (m : Nat) (rs : List Rule) (k : Nat), ds = [dS (m : Nat) rs, .int (k : Nat)] ∧ k < rs.length ∧ rs.length ≤ 1000 ∧ Q (.fz (dS (m : Nat) (rs.eraseIdx k)))
def idl (m : Nat) (rs : List Rule) (k : Nat) : Bool := fol m (rs.eraseIdx k) (rs.getD k [])
def wp_is_idle : W0 := fun ds Q => ∃ (m : Nat) (rs : List Rule) (k : Nat), ds = [dS (m : Nat) rs, .int (k : Nat)] ∧ Sml m rs ∧ k < rs.length ∧ Q (.fz (.bool (idl m rs k)))
def idleS (m : Nat) (rs : List Rule) : List Nat := (List.range rs.length).filter (idl m rs)
def dNs (ks : List Nat) : PyData := .tuple (ks.map fun (k : Nat) => .int k)
def wp_idle_rules : W0 := fun ds Q => ∃ (m : Nat) (rs : List Rule), ds = [dS (m : Nat) rs] ∧ Sml m rs ∧ Q (.fz (dNs (idleS m rs)))
/-- the first idle rule out, again and again -/
def outS (I : List Rule → Nat → Bool) : Nat → List Rule → List Rule
  | 0, rs => rs
  | n + 1, rs => match (List.range rs.length).find? (I rs) with
    | none => rs
    | some i => outS I n (rs.eraseIdx i)
def leanS (m : Nat) (rs : List Rule) : List Rule := outS (idl m) rs.length rs
def wp_lean_sheet : W0 := fun ds Q => ∃ (m : Nat) (rs : List Rule), ds = [dS (m : Nat) rs] ∧ Sml m rs ∧ Q (.fz (dS (m : Nat) (leanS m rs)))
/-! the law's own -/
abbrev lim : Nat := 1000000
def ksC : List Key := [.inr (Str.ofString "great"), .inr (Str.ofString "mixed"), .inr (Str.ofString "turn"), .inr (Str.ofString "tilts")]
def pool (gs : List Int) (x : Int) (y : Int) (hs : List Int) : O := .td ksC [.ls (gs.map .int), .fz (.int x), .fz (.int y), .ls (hs.map .int)]
def PoolOk (c : Nat) (o : O) : Prop := ∃ gs x y hs, o = pool gs x y hs ∧ 0 ≤ x ∧ x < 2147483497 ∧ 0 ≤ y ∧ y ≤ 1 + (c : Int) ∧ (∀ g ∈ gs, 0 ≤ g) ∧ gs.length ≤ 58 ∧ hs.length = 6 ∧ ∀ h ∈ hs, 0 ≤ h ∧ h < 84
theorem PoolOk.mono {c c' : Nat} {o : O} (h : c ≤ c') (p : PoolOk c o) : PoolOk c' o := by
  obtain ⟨gs, x, y, hs, e, a, b, c1, d, r⟩ := p
  exact ⟨gs, x, y, hs, e, a, b, c1, by omega, r⟩
def wp__law_crate : W0 := fun ds Q => ∃ ns : List Int, ds = [scD ns] ∧ ns.length ≤ 63 ∧ ∀ o, PoolOk 0 o → Q o
def wp__law_lift : W1 := fun o ds Q => ∃ (c place many : Nat), PoolOk c o ∧ c < lim ∧ ds = [.int (place : Nat), .int (many : Nat)] ∧ place < 6 ∧ 1 ≤ many ∧ many ≤ lim ∧ ∀ (n : Nat) o', n < many → PoolOk (c + 1) o' → Q (.fz (.int (n : Nat))) o'
def wp__law_tossed : W1 := fun o ds Q => ∃ (c : Nat) (xs : List PyData), PoolOk c o ∧ c + 2000 < lim ∧ ds = [.list xs] ∧ xs.length ≤ 1000 ∧ ∀ ys o', ys.Perm xs → PoolOk (c + xs.length) o' → Q (.ls ys) o'
/-- literals in their sequence -/
def insL (l : Lit) : List Lit → List Lit
  | [] => [l]
  | x :: r => if l.1 ≤ x.1 then l :: x :: r else x :: insL l r
def insR (ls : List Lit) : Rule := ls.foldr insL []
def wp__law_rule : W0 := fun ds Q => ∃ (m : Nat) (ls : List Lit), ds = [.list (ls.map dL)] ∧ (∀ l ∈ ls, 0 ≤ l.1 ∧ l.1 < m) ∧ ls.Pairwise (fun a b => a.1 ≠ b.1) ∧ ls.length ≤ 1000 ∧ Q (.fz (dR (insR ls)))
def wp__law_shut : W0 := fun ds Q => ∃ l, ds = [dL l] ∧ Q (.fz (dL (neg l)))
/-- rules over some boxes -/
def Over (m : Nat) (bs : List Int) (rs : List Rule) : Prop := ∀ r ∈ rs, Wf m r ∧ ∀ l ∈ r, l.1 ∈ bs
/-- some boxes of m -/
structure Some' (m : Nat) (bs : List Int) : Prop where
  rg : ∀ b ∈ bs, 0 ≤ b ∧ b < (m : Int)
  nd : bs.Pairwise (· ≠ ·)
def wp__law_grown : W1 := fun o ds Q => ∃ (c m : Nat) (bs : List Int) (rs : List Rule), PoolOk c o ∧ c + 3000 < lim ∧ ds = [.list (bs.map .int), .list (rs.map dR)] ∧ Some' m bs ∧ m ≤ 12 ∧ Over m bs rs ∧ rs.length ≤ 100 ∧ ∀ ss o', ss.length ≤ 3 → Over m bs ss → PoolOk (c + 60) o' → Q (.ls (ss.map dR)) o'
def wp__law_joins : W1 := fun o ds Q => ∃ (c m : Nat) (bs : List Int) (rs : List Rule), PoolOk c o ∧ c + 3000 < lim ∧ ds = [.list (rs.map dR)] ∧ m ≤ 12 ∧ Over m bs rs ∧ rs.length ≤ 100 ∧ ∀ ss o', ss.length ≤ 3 → Over m bs ss → PoolOk (c + 20) o' → Q (.ls (ss.map dR)) o'
def foursS (row : List Lit) : List Rule :=
  (List.range 4).map (fun (n : Nat) => insR [row.getD 0 (0, true), ((row.getD 1 (0, true)).1, decide (1 < n)), ((row.getD 2 (0, true)).1, decide (n % 2 = 1))]) ++ [insR (row.take 1 ++ (row.drop 3).take 1)]
def wp__law_fours : W0 := fun ds Q => ∃ (m : Nat) (row : List Lit), ds = [.list (row.map dL)] ∧ 3 ≤ row.length ∧ row.length ≤ 12 ∧ (∀ l ∈ row, 0 ≤ l.1 ∧ l.1 < m) ∧ row.Pairwise (fun a b => a.1 ≠ b.1) ∧ Q (.ls ((foursS row).map dR))
def wp__law_made : W1 := fun o ds Q => ∃ (c m : Nat) (bs : List Int), PoolOk c o ∧ c + 4000 < lim ∧ ds = [.list (bs.map .int)] ∧ Some' m bs ∧ m ≤ 12 ∧ 1 ≤ bs.length ∧ ∀ rs o', rs.length ≤ 14 → Over m bs rs → PoolOk (c + 400) o' → Q (.ls (rs.map dR)) o'
/-! groups of boxes, tables of masks -/
def dGs (gs : List (List Int)) : PyData := .list (gs.map fun g => .list (g.map .int))
/-- the group of a rule's first box -/
def whichG (gs : List (List Int)) (r : Rule) : Int := match r with
  | [] => -1
  | l :: _ => (List.range gs.length).foldl (fun w k => if isIn l.1 (gs.getD k []) then (k : Int) else w) (-1)
def ixIn (g : List Int) (b : Int) : Nat := (g.findIdx? fun x => decide (x = b)).getD 0
/-- the rule is broken by these signs of its group's boxes -/
def brk (g : List Int) (r : Rule) (n : Nat) : Bool := !r.any fun l => n.testBit (ixIn g l.1) == l.2
def maskG (g : List Int) (r : Rule) : Nat := (List.range (2 ^ g.length)).foldl (fun a n => if brk g r n then a ||| 2 ^ n else a) 0
abbrev En' := Int × Nat
def ent (gs : List (List Int)) (r : Rule) : En' := (whichG gs r, if whichG gs r < 0 then 0 else maskG (gs.getD (whichG gs r).toNat []) r)
def dE (e : En') : PyData := .tuple [.int e.1, .int (e.2 : Nat)]
structure GrOk (m : Nat) (gs : List (List Int)) : Prop where
  m12 : m ≤ 12
  len : gs.length ≤ 3
  sm : ∀ g ∈ gs, Some' m g ∧ g.length ≤ 6
  dis : gs.Pairwise fun g h => ∀ b ∈ g, b ∉ h
/-- a rule of one group, or the empty one -/
def Rin (m : Nat) (gs : List (List Int)) (r : Rule) : Prop := Wf m r ∧ (r = [] ∨ ∃ g ∈ gs, ∀ l ∈ r, l.1 ∈ g)
def wp__law_table : W0 := fun ds Q => ∃ (m : Nat) (gs : List (List Int)) (rs : List Rule), (ds = [dGs gs, .list (rs.map dR)] ∨ ds = [dGs gs, .tuple (rs.map dR)]) ∧ GrOk m gs ∧ rs.length ≤ 200 ∧ (∀ r ∈ rs, Rin m gs r) ∧ Q (.ls ((rs.map (ent gs)).map dE))
def unionG (es : List En') (at' w : Nat) : Nat := (List.range es.length).foldl (fun a k => if k ≠ at' ∧ (es.getD k (0, 0)).1 = (w : Int) then a ||| (es.getD k (0, 0)).2 else a) 0
def lawF (gs : List (List Int)) (es : List En') (at' : Nat) : Bool :=
  ((List.range es.length).any fun k => decide (k ≠ at' ∧ (es.getD k (0, 0)).1 < 0)) ||
  ((List.range gs.length).any fun w => decide (unionG es at' w = 2 ^ 2 ^ (gs.getD w []).length - 1)) ||
  (decide (0 ≤ (es.getD at' (0, 0)).1) && decide ((es.getD at' (0, 0)).2 ||| unionG es at' (es.getD at' (0, 0)).1.toNat = unionG es at' (es.getD at' (0, 0)).1.toNat))
def EnOk' (gs : List (List Int)) (es : List En') : Prop := ∀ e ∈ es, -1 ≤ e.1 ∧ e.1 < gs.length ∧ e.2 < 2 ^ 64
def wp__law_follows : W0 := fun ds Q => ∃ (m : Nat) (gs : List (List Int)) (es : List En') (k : Nat), ds = [dGs gs, .list (es.map dE), .int (k : Nat)] ∧ GrOk m gs ∧ EnOk' gs es ∧ es.length ≤ 200 ∧ k < es.length ∧ Q (.fz (.bool (lawF gs es k)))
def wp__law_due : W0 := fun ds Q => ∃ (m : Nat) (gs : List (List Int)) (es : List En'), ds = [dGs gs, .list (es.map dE)] ∧ GrOk m gs ∧ EnOk' gs es ∧ es.length ≤ 200 ∧ Q (.ls (((List.range es.length).filter (lawF gs es)).map fun (k : Nat) => .int k))
def lawI (gs : List (List Int)) (rs : List Rule) (k : Nat) : Bool := lawF gs (rs.map (ent gs)) k
def wp__law_lean : W0 := fun ds Q => ∃ (m : Nat) (gs : List (List Int)) (rs : List Rule), ds = [dGs gs, .tuple (rs.map dR)] ∧ GrOk m gs ∧ rs.length ≤ 200 ∧ (∀ r ∈ rs, Rin m gs r) ∧ Q (.ls ((outS (lawI gs) rs.length rs).map dR))
mutual
def plain : PyData → Bool
  | .bool _ => true
  | .int _ => true
  | .tuple ds => plainAll ds
  | _ => false
def plainAll : List PyData → Bool
  | [] => true
  | d :: ds => plain d && plainAll ds
end
mutual
def nodes : PyData → Nat
  | .tuple ds => 1 + nodesAll ds
  | _ => 1
def nodesAll : List PyData → Nat
  | [] => 0
  | d :: ds => nodes d + nodesAll ds
end
def wp__law_same : W0 := fun ds Q => ∃ d, ds = [d, d] ∧ plain d = true ∧ nodes d ≤ 50000 ∧ Q (.fz (.bool true))
/-- the groups hold all boxes, each rule is of one of them -/
structure Whole (m : Nat) (rs : List Rule) (gs : List (List Int)) : Prop where
  sml : Sml m rs
  l200 : rs.length ≤ 200
  ok : GrOk m gs
  cov : ∀ b : Nat, b < m → ∃ g ∈ gs, (b : Int) ∈ g
  rin : ∀ r ∈ rs, Rin m gs r
def wp__law_asked : W0 := fun ds Q => ∃ m rs gs, ds = [dGs gs, dS (m : Nat) rs] ∧ Whole m rs gs ∧ Q (.fz (.bool true))
def wp__law_small : W1 := fun o ds Q => ∃ (c : Nat), PoolOk c o ∧ c + 9000 < lim ∧ ds = [] ∧ ∀ o', PoolOk (c + 1000) o' → Q (.fz (.bool true)) o'
def wp__law_wide : W1 := fun o ds Q => ∃ (c : Nat), PoolOk c o ∧ c + 90000 < lim ∧ ds = [] ∧ ∀ o', Q (.fz (.bool true)) o'
def wp__law_by_hand : W0 := fun ds Q => ds = [] ∧ Q (.fz (.bool true))
def wp_law : W0 := fun ds Q => ∃ ns : List Int, ds = [scD ns] ∧ ns.length ≤ 63 ∧ Q (.fz (.bool true))
end K18
end
section
namespace K18
open PySem VL
def τ_contrary_of : ES :=
    (sRet (eTup (aCons (xO (eIxS 0 (xC (.int 0)))) (aCons (xO (eNot (eIxS 0 (xC (.int 1))))) aNil))))
def τ_contrary : ES :=
    (sRet (eCB cdTuple (aCons (xO (eCB cdSortedA (aCons (xO (eLc (iSeq (xVal 0)) (gN 1) tYesD (xO (eCall wp_contrary_of [] (aCons (xVal 1) aNil))) [1])) aNil))) aNil)))
def τ_rule_holds : ES :=
    (sRet (eOp opGt (xO (eCB cdLen (aCons (xO (eLc (iSeq (xVal 0)) (gTupD 2 (gConss (gN 2) (gConss (gN 3) gNils))) (tO (eOp opEq (xO (eIxS 1 (xVar 2))) (xVar 3))) (xVal 2) [2, 3])) aNil))) (xC (.int 0))))
def τ_rules_by_last_box : ES :=
    (sSeq (sSet 1 (eLcO (iRange1 (aCons (xO (eOp opAdd (xO (eIxS 0 (xC (.int 0)))) (xC (.int 1)))) aNil)) (gN 3) tYesD (eTrL aoNil) [3]))
    (sSeq (sFor (iSeq (xO (eIxS 0 (xC (.int 1))))) (gN 2)
    (sDrop (eSME smAppend (eEl 1 (xO (eIf (tO (eOp opGt (xO (eLenS 2)) (xC (.int 0)))) (eOp opIx (xO (eIxS 2 (xO (eOp opSub (xO (eLenS 2)) (xC (.int 1)))))) (xC (.int 0))) (eIxS 0 (xC (.int 0)))))) (aCons (xVal 2) aNil))))
    (sRet (eCB cdTuple (aCons (xO (eLc (iSeq (xVal 1)) (gN 4) tYesD (xO (eCB cdTuple (aCons (xVar 4) aNil))) [4])) aNil)))))
def τ_signs_let : ES :=
    (sSeq (sSet 3 (eIf (tNotInS 1 (xVar 0)) (eLst (aCons (xC (.bool false)) (aCons (xC (.bool true)) aNil))) (eLst (aCons (xO (eIxS 1 (xVar 0))) aNil))))
    (sRet (eLc (iSeq (xVal 3)) (gN 4) (tNotD (tAndD (tTru (xVar 2)) (tNotD (tTru (xVar 4))))) (xVal 4) [4])))
def τ_is_kept : ES :=
    (sRet (eOp opEq (xO (eCB cdLen (aCons (xO (eLc (iSeq (xVal 0)) (gN 2) (tNotD (tTru (xO (eCallB wp_rule_holds [] (aCons (xVar 2) (aCons (xVar 1) aNil)))))) (xVal 2) [2])) aNil))) (xC (.int 0))))
def τ_filling_from : ES :=
    (sSeq (sSet 3 (eCall wp_rules_by_last_box [] (aCons (xVal 0) aNil)))
    (sSeq (sIf (tO (eOp opGt (xO (eCB cdLen (aCons (xO (eIxS 3 (xO (eIxS 0 (xC (.int 0)))))) aNil))) (xC (.int 0))))
    (sRet (oX (xC .none)))
    sNext)
    (sSeq (sSet 4 (eCB cdDict (aCons (xVar 1) aNil)))
    (sSeq (sSet 5 (eLst aNil))
    (sSeq (sSet 6 (eTrL (aoCons (eCall wp_signs_let [] (aCons (xC (.int 0)) (aCons (xVal 4) (aCons (xO (eIxS 2 (xC (.int 0)))) aNil)))) aoNil)))
    (sSeq (sWhile (tO (eOp opGt (xO (eLenS 6)) (xC (.int 0))))
    (sSeq (sSet 7 (eOp opSub (xO (eLenS 6)) (xC (.int 1))))
    (sSeq (sDel 5 (xVal 7))
    (sSeq (sIf (tO (eOp opEq (xO (eCBE cdLen (eEl 6 (xVar 7)))) (xC (.int 0))))
    (sSeq (sDrop (ePop 6))
    sCont)
    sNext)
    (sSeq (sDrop (eApp false 5 (eSME smPopAt (eEl 6 (xVar 7)) (aCons (xC (.int 0)) aNil))))
    (sSeq (sIf (tNotD (tTru (xO (eCallB wp_is_kept [] (aCons (xO (eIxS 3 (xVar 7))) (aCons (xVar 5) aNil))))))
    sCont
    sNext)
    (sSeq (sIf (tO (eOp opEq (xO (eOp opAdd (xVar 7) (xC (.int 1)))) (xO (eIxS 0 (xC (.int 0))))))
    (sRet (eCB cdTuple (aCons (xVar 5) aNil)))
    sNext)
    (sSeq (sSet 8 (eOp opEq (xO (eCB cdTuple (aCons (xVar 5) aNil))) (xO (eSl (xVar 2) pNone (pSome (xO (eOp opAdd (xVar 7) (xC (.int 1)))))))))
    (sDrop (eApp true 6 (eCall wp_signs_let [] (aCons (xO (eOp opAdd (xVar 7) (xC (.int 1)))) (aCons (xVal 4) (aCons (xO (eAnd (oX (xVal 8)) (eIxS 2 (xO (eOp opAdd (xVar 7) (xC (.int 1))))))) aNil))))))))))))))
    (sRet (oX (xC .none)))))))))
def τ_first_filling : ES :=
    (sRet (eCall wp_filling_from [] (aCons (xVal 0) (aCons (xVal 1) (aCons (xO (eOp opMul (xO (eTup (aCons (xC (.bool false)) aNil))) (xO (eIxS 0 (xC (.int 0)))))) aNil)))))
def τ_breaking_filling : ES :=
    (sRet (eCall wp_first_filling [] (aCons (xVal 0) (aCons (xO (eCall wp_contrary [] (aCons (xVal 1) aNil))) aNil))))
def τ_follows : ES :=
    (sRet (eOp opIsN (xO (eCall wp_breaking_filling [] (aCons (xVal 0) (aCons (xVal 1) aNil)))) (xC .none)))
def τ_without_number : ES :=
    (sRet (eTup (aCons (xO (eIxS 0 (xC (.int 0)))) (aCons (xO (eOp opAdd (xO (eSl (xO (eIxS 0 (xC (.int 1)))) pNone (pSome (xVar 1)))) (xO (eSl (xO (eIxS 0 (xC (.int 1)))) (pSome (xO (eOp opAdd (xVar 1) (xC (.int 1))))) pNone)))) aNil))))
def τ_is_idle : ES :=
    (sRet (eCall wp_follows [] (aCons (xO (eCall wp_without_number [] (aCons (xVal 0) (aCons (xVal 1) aNil)))) (aCons (xO (eOp opIx (xO (eIxS 0 (xC (.int 1)))) (xVar 1))) aNil))))
def τ_idle_rules : ES :=
    (sRet (eCB cdTuple (aCons (xO (eLc (iRange1 (aCons (xO (eCB cdLen (aCons (xO (eIxS 0 (xC (.int 1)))) aNil))) aNil)) (gN 1) (tTru (xO (eCall wp_is_idle [] (aCons (xVal 0) (aCons (xVal 1) aNil))))) (xVal 1) [1])) aNil)))
def τ_lean_sheet : ES :=
    (sSeq (sSet 1 (oX (xVal 0)))
    (sSeq (sSet 2 (oX (xC (.int 0))))
    (sSeq (sWhile (tO (eOp opLt (xVar 2) (xO (eCB cdLen (aCons (xO (eIxS 1 (xC (.int 1)))) aNil)))))
    (sIf (tTru (xO (eCall wp_is_idle [] (aCons (xVal 1) (aCons (xVal 2) aNil)))))
    (sSet 1 (eCall wp_without_number [] (aCons (xVal 1) (aCons (xVal 2) aNil))))
    (sAugI (fun i j => i + j) 2 (xC (.int 1)))))
    (sRet (oMv 1)))))
def τ__law_crate : ES :=
    (sSeq (sSet 1 (eLst aNil))
    (sSeq (sSet 2 (oX (xC (.int 18013))))
    (sSeq (sFor (iSeq (xO (eSl (xVar 0) pNone (pSome (xC (.int 58)))))) (gN 3)
    (sSeq (sSet 4 (eOp opMod (xO (eCB cdAbs (aCons (xO (eCB cdInt (aCons (xVar 3) aNil))) aNil))) (xO (eOp opShl (xC (.int 1)) (xC (.int 1580))))))
    (sSeq (sSet 2 (eOp opMod (xO (eCB cdInt (aCons (xO (eOp opAdd (xO (eOp opAdd (xO (eOp opAdd (xO (eOp opMul (xVar 2) (xC (.int 37003)))) (xO (eOp opMul (xO (eOp opMod (xVar 4) (xC (.int 1000171)))) (xC (.int 43)))))) (xO (eCB cdInt (aCons (xO (eOp opLt (xO (eCB cdInt (aCons (xVar 3) aNil))) (xC (.int 0)))) aNil))))) (xC (.int 4)))) aNil))) (xC (.int 2147483497))))
    (sIf (tO (eOp opGe (xVar 4) (xO (eOp opPow (xC (.int 10)) (xC (.int 18))))))
    (sDrop (eApp false 1 (oX (xVal 4))))
    sNext))))
    (sSeq (sSet 5 (eLst aNil))
    (sSeq (sFor (iRange1 (aCons (xC (.int 6)) aNil)) (gN 6)
    (sSeq (sSet 2 (eOp opMod (xO (eCB cdInt (aCons (xO (eOp opAdd (xO (eOp opAdd (xO (eOp opMul (xVar 2) (xC (.int 27011)))) (xO (eOp opMul (xC (.int 67)) (xVar 6))))) (xC (.int 15)))) aNil))) (xC (.int 2147483497))))
    (sDrop (eApp false 5 (eOp opMod (xO (eCB cdInt (aCons (xO (eOp opDiv (xVar 2) (xC (.int 71)))) aNil))) (xC (.int 84)))))))
    (sRet (eTdL [.inr (Str.ofString "great"), .inr (Str.ofString "mixed"), .inr (Str.ofString "turn"), .inr (Str.ofString "tilts")] (aoCons (oMv 1) (aoCons (oX (xVal 2)) (aoCons (oX (xC (.int 1))) (aoCons (oMv 5) aoNil)))))))))))
def τ__law_lift : ES :=
    (sSeq (sPutD 0 (.inr (Str.ofString "turn")) (eOp opAdd (xElD (eElD 0 (.inr (Str.ofString "turn")))) (xC (.int 1))))
    (sSeq (sIf (tTruDE (eElD 0 (.inr (Str.ofString "great"))))
    (sSeq (sSet 3 (eCB cdInt (aCons (xO (eSMD0 smPop (eElD 0 (.inr (Str.ofString "great"))))) aNil)))
    (sSeq (sIf (tO (eOp opGe (xVar 3) (xVar 2)))
    (sDrop (eSMD smAppend (eElD 0 (.inr (Str.ofString "great"))) (aCons (xO (eOp opDiv (xVar 3) (xVar 2))) aNil)))
    sNext)
    (sRet (eOp opMod (xVar 3) (xVar 2)))))
    sNext)
    (sSeq (sPutD 0 (.inr (Str.ofString "mixed")) (eOp opMod (xO (eCB cdInt (aCons (xO (eOp opAdd (xO (eOp opAdd (xO (eOp opMul (xElD (eElD 0 (.inr (Str.ofString "mixed")))) (xC (.int 51001)))) (xO (eOp opMul (xElD (eElD 0 (.inr (Str.ofString "turn")))) (xC (.int 433)))))) (xVar 1))) aNil))) (xC (.int 2147483497))))
    (sSeq (sSet 4 (eIxD opIx (eElD 0 (.inr (Str.ofString "tilts"))) (xVar 1)))
    (sSeq (sIf (tO (eOp opLt (xVar 4) (xC (.int 4))))
    (sRet (oX (xC (.int 0))))
    sNext)
    (sSeq (sIf (tO (eOp opLt (xVar 4) (xC (.int 9))))
    (sRet (eOp opSub (xVar 2) (xC (.int 1))))
    sNext)
    (sSeq (sIf (tO (eOp opLt (xVar 4) (xC (.int 13))))
    (sRet (eOp opMod (xO (eCB cdInt (aCons (xO (eOp opMul (xVar 4) (xC (.int 2)))) aNil))) (xVar 2)))
    sNext)
    (sRet (eOp opMod (xO (eCB cdInt (aCons (xO (eOp opDiv (xElD (eElD 0 (.inr (Str.ofString "mixed")))) (xC (.int 73)))) aNil))) (xVar 2))))))))))
def τ__law_tossed : ES :=
    (sSeq (sSet 2 (eCB cdList (aCons (xVar 1) aNil)))
    (sSeq (sSet 3 (eLst aNil))
    (sSeq (sWhile (tTru (xVar 2))
    (sDrop (eApp false 3 (eSM 2 smPopAt (aCons (xO (eCallI wp__law_lift [] (aCons (xVar 0) (aCons (xC (.int 0)) (aCons (xO (eLenS 2)) aNil))))) aNil)))))
    (sRet (oMv 3)))))
def τ__law_rule : ES :=
    (sRet (eCB cdTuple (aCons (xO (eCB cdSortedA (aCons (xVar 0) aNil))) aNil)))
def τ__law_shut : ES :=
    (sRet (eTup (aCons (xO (eIxS 0 (xC (.int 0)))) (aCons (xO (eNot (eIxS 0 (xC (.int 1))))) aNil))))
def τ__law_grown : ES :=
    (sSeq (sSet 3 (eLst aNil))
    (sSeq (sFor (iRange1 (aCons (xO (eCallI wp__law_lift [] (aCons (xVar 0) (aCons (xC (.int 1)) (aCons (xC (.int 4)) aNil))))) aNil)) (gN 4)
    (sIf (tO (eOp opGt (xO (eLenS 2)) (xC (.int 0))))
    (sSeq (sSet 5 (eIxS 2 (xO (eCallI wp__law_lift [] (aCons (xVar 0) (aCons (xC (.int 2)) (aCons (xO (eLenS 2)) aNil)))))))
    (sSeq (sSet 6 (eLc (iSeq (xVal 5)) (gN 8) tYesD (xO (eIxS 8 (xC (.int 0)))) [8]))
    (sSeq (sSet 7 (eLc (iSeq (xVal 1)) (gN 9) (tNotInS 6 (xVar 9)) (xO (eTup (aCons (xVal 9) (aCons (xO (eOp opEq (xO (eCallI wp__law_lift [] (aCons (xVar 0) (aCons (xC (.int 3)) (aCons (xC (.int 2)) aNil))))) (xC (.int 1)))) aNil)))) [9]))
    (sDrop (eApp false 3 (eCall wp__law_rule [] (aCons (xO (eOp opAdd (xO (eCB cdList (aCons (xVar 5) aNil))) (xO (eSl (xVar 7) pNone (pSome (xO (eCallI wp__law_lift [] (aCons (xVar 0) (aCons (xC (.int 1)) (aCons (xC (.int 3)) aNil)))))))))) aNil)))))))
    sNext))
    (sRet (oMv 3))))
def τ__law_joins : ES :=
    (sSeq (sSet 2 (eLst aNil))
    (sSeq (sFor (iSeq (xVal 1)) (gN 3)
    (sFor (iSeq (xVal 1)) (gN 4)
    (sSeq (sSet 5 (eLc (iSeq (xVal 3)) (gN 7) (tInS 4 (xO (eCall wp__law_shut [] (aCons (xVal 7) aNil)))) (xO (eIxS 7 (xC (.int 0)))) [7]))
    (sIf (tAndD (tO (eOp opEq (xO (eLenS 5)) (xC (.int 1)))) (tO (eOp opLt (xO (eLenS 2)) (xC (.int 12)))))
    (sSeq (sSet 6 (eLc (iSeq (xVal 3)) (gN 7) (tO (eOp opNe (xO (eIxS 7 (xC (.int 0)))) (xO (eIxS 5 (xC (.int 0)))))) (xVal 7) [7]))
    (sDrop (eApp false 2 (eCall wp__law_rule [] (aCons (xO (eOp opAdd (xVar 6) (xO (eLc (iSeq (xVal 4)) (gN 7) (tAndD (tO (eOp opNe (xO (eIxS 7 (xC (.int 0)))) (xO (eIxS 5 (xC (.int 0)))))) (tNotInS 6 (xVar 7))) (xVal 7) [7])))) aNil)))))
    sNext))))
    (sRet (eSl (xO (eCallI wp__law_tossed [] (aCons (xVar 0) (aCons (xVal 2) aNil)))) pNone (pSome (xO (eCallI wp__law_lift [] (aCons (xVar 0) (aCons (xC (.int 2)) (aCons (xC (.int 4)) aNil))))))))))
def τ__law_fours : ES :=
    (sSeq (sSet 1 (eLst aNil))
    (sSeq (sFor (iRange1 (aCons (xC (.int 4)) aNil)) (gN 2)
    (sDrop (eApp false 1 (eCall wp__law_rule [] (aCons (xO (eLst (aCons (xO (eIxS 0 (xC (.int 0)))) (aCons (xO (eTup (aCons (xO (eOp opIx (xO (eIxS 0 (xC (.int 1)))) (xC (.int 0)))) (aCons (xO (eOp opGt (xVar 2) (xC (.int 1)))) aNil)))) (aCons (xO (eTup (aCons (xO (eOp opIx (xO (eIxS 0 (xC (.int 2)))) (xC (.int 0)))) (aCons (xO (eOp opEq (xO (eOp opMod (xO (eCB cdInt (aCons (xVar 2) aNil))) (xC (.int 2)))) (xC (.int 1)))) aNil)))) aNil))))) aNil)))))
    (sRet (eOp opAdd (xVar 1) (xO (eLst (aCons (xO (eCall wp__law_rule [] (aCons (xO (eOp opAdd (xO (eSl (xVar 0) pNone (pSome (xC (.int 1))))) (xO (eSl (xVar 0) (pSome (xC (.int 3))) (pSome (xC (.int 4))))))) aNil))) aNil)))))))
def τ__law_made : ES :=
    (sSeq (sSet 2 (eLc (iSeq (xO (eCallI wp__law_tossed [] (aCons (xVar 0) (aCons (xVal 1) aNil))))) (gN 8) tYesD (xO (eTup (aCons (xVal 8) (aCons (xO (eOp opEq (xO (eCallI wp__law_lift [] (aCons (xVar 0) (aCons (xC (.int 3)) (aCons (xC (.int 2)) aNil))))) (xC (.int 1)))) aNil)))) [8]))
    (sSeq (sSet 3 (eCallI wp__law_lift [] (aCons (xVar 0) (aCons (xC (.int 4)) (aCons (xC (.int 9)) aNil)))))
    (sSeq (sSet 4 (eLst aNil))
    (sSeq (sIf (tAndD (tO (eOp opGt (xVar 3) (xC (.int 6)))) (tO (eOp opGt (xO (eLenS 2)) (xC (.int 2)))))
    (sSet 4 (eCall wp__law_fours [] (aCons (xVal 2) aNil)))
    sNext)
    (sSeq (sIf (tAndD (tO (eOp opEq (xVar 3) (xC (.int 1)))) (tO (eOp opGt (xO (eLenS 2)) (xC (.int 1)))))
    (sSeq (sFor (iRange1 (aCons (xO (eLenS 2)) aNil)) (gN 5)
    (sDrop (eApp false 4 (eCall wp__law_rule [] (aCons (xO (eLst (aCons (xO (eCall wp__law_shut [] (aCons (xO (eIxS 2 (xO (eOp opSub (xVar 5) (xC (.int 1)))))) aNil))) (aCons (xO (eIxS 2 (xVar 5))) aNil)))) aNil)))))
    (sDrop (eApp false 4 (eCall wp__law_rule [] (aCons (xO (eLst (aCons (xO (eCall wp__law_shut [] (aCons (xO (eIxS 2 (xC (.int 0)))) aNil))) (aCons (xO (eIxS 2 (xO (eOp1 op1Neg (xC (.int 1)))))) aNil)))) aNil)))))
    sNext)
    (sSeq (sIf (tAndD (tO (eOp opEq (xVar 3) (xC (.int 2)))) (tO (eOp opGt (xO (eLenS 2)) (xC (.int 2)))))
    (sSet 4 (eLst (aCons (xO (eCall wp__law_rule [] (aCons (xO (eSl (xVar 2) pNone (pSome (xC (.int 2))))) aNil))) (aCons (xO (eCall wp__law_rule [] (aCons (xO (eLst (aCons (xO (eCall wp__law_shut [] (aCons (xO (eIxS 2 (xC (.int 0)))) aNil))) (aCons (xO (eIxS 2 (xC (.int 2)))) aNil)))) aNil))) (aCons (xO (eCall wp__law_rule [] (aCons (xO (eLst (aCons (xO (eCall wp__law_shut [] (aCons (xO (eIxS 2 (xC (.int 1)))) aNil))) (aCons (xO (eIxS 2 (xC (.int 2)))) aNil)))) aNil))) (aCons (xO (eTup (aCons (xO (eIxS 2 (xC (.int 2)))) aNil))) aNil))))))
    sNext)
    (sSeq (sIf (tAndD (tO (eOp opEq (xVar 3) (xC (.int 3)))) (tO (eOp opGt (xO (eLenS 2)) (xC (.int 2)))))
    (sSet 4 (eLst (aCons (xO (eTup (aCons (xO (eIxS 2 (xC (.int 0)))) aNil))) (aCons (xO (eCall wp__law_rule [] (aCons (xO (eLst (aCons (xO (eCall wp__law_shut [] (aCons (xO (eIxS 2 (xC (.int 0)))) aNil))) (aCons (xO (eIxS 2 (xC (.int 1)))) aNil)))) aNil))) (aCons (xO (eTup (aCons (xO (eIxS 2 (xC (.int 1)))) aNil))) (aCons (xO (eCall wp__law_rule [] (aCons (xO (eLst (aCons (xO (eCall wp__law_shut [] (aCons (xO (eIxS 2 (xC (.int 1)))) aNil))) (aCons (xO (eIxS 2 (xC (.int 0)))) aNil)))) aNil))) (aCons (xO (eCall wp__law_rule [] (aCons (xO (eLst (aCons (xO (eIxS 2 (xC (.int 0)))) (aCons (xO (eIxS 2 (xC (.int 2)))) aNil)))) aNil))) aNil)))))))
    sNext)
    (sSeq (sIf (tAndD (tO (eOp opEq (xVar 3) (xC (.int 4)))) (tO (eOp opGt (xO (eLenS 2)) (xC (.int 1)))))
    (sSeq (sSet 4 (eLst (aCons (xO (eCall wp__law_rule [] (aCons (xO (eSl (xVar 2) pNone (pSome (xC (.int 2))))) aNil))) (aCons (xO (eCall wp__law_rule [] (aCons (xO (eLst (aCons (xO (eIxS 2 (xC (.int 0)))) (aCons (xO (eCall wp__law_shut [] (aCons (xO (eIxS 2 (xC (.int 1)))) aNil))) aNil)))) aNil))) (aCons (xO (eCall wp__law_rule [] (aCons (xO (eLst (aCons (xO (eCall wp__law_shut [] (aCons (xO (eIxS 2 (xC (.int 0)))) aNil))) (aCons (xO (eIxS 2 (xC (.int 1)))) aNil)))) aNil))) (aCons (xO (eCall wp__law_rule [] (aCons (xO (eLst (aCons (xO (eCall wp__law_shut [] (aCons (xO (eIxS 2 (xC (.int 0)))) aNil))) (aCons (xO (eCall wp__law_shut [] (aCons (xO (eIxS 2 (xC (.int 1)))) aNil))) aNil)))) aNil))) aNil))))))
    (sSet 4 (eSl (xVar 4) pNone (pSome (xO (eOp opAdd (xC (.int 3)) (xO (eCallI wp__law_lift [] (aCons (xVar 0) (aCons (xC (.int 3)) (aCons (xC (.int 2)) aNil)))))))))))
    sNext)
    (sSeq (sIf (tO (eOp opEq (xVar 3) (xC (.int 5))))
    (sSet 4 (eOp opMul (xO (eLst (aCons (xO (eTup aNil)) aNil))) (xO (eCallI wp__law_lift [] (aCons (xVar 0) (aCons (xC (.int 1)) (aCons (xC (.int 3)) aNil)))))))
    sNext)
    (sSeq (sFor (iRange1 (aCons (xO (eCallI wp__law_lift [] (aCons (xVar 0) (aCons (xC (.int 5)) (aCons (xC (.int 5)) aNil))))) aNil)) (gN 6)
    (sSeq (sSet 7 (eSl (xO (eCallI wp__law_tossed [] (aCons (xVar 0) (aCons (xVal 1) aNil)))) pNone (pSome (xO (eOp opAdd (xC (.int 1)) (xO (eCallI wp__law_lift [] (aCons (xVar 0) (aCons (xC (.int 1)) (aCons (xO (eCB cdMin2 (aCons (xC (.int 3)) (aCons (xO (eLenS 1)) aNil)))) aNil))))))))))
    (sDrop (eApp false 4 (eCall wp__law_rule [] (aCons (xO (eLc (iSeq (xVal 7)) (gN 8) tYesD (xO (eTup (aCons (xVal 8) (aCons (xO (eOp opEq (xO (eCallI wp__law_lift [] (aCons (xVar 0) (aCons (xC (.int 3)) (aCons (xC (.int 2)) aNil))))) (xC (.int 1)))) aNil)))) [8])) aNil))))))
    (sRet (eSl (xO (eCallI wp__law_tossed [] (aCons (xVar 0) (aCons (xO (eOp opAdd (xO (eOp opAdd (xVar 4) (xO (eCallI wp__law_grown [] (aCons (xVar 0) (aCons (xVal 1) (aCons (xVal 4) aNil))))))) (xO (eCallI wp__law_joins [] (aCons (xVar 0) (aCons (xVal 4) aNil)))))) aNil)))) pNone (pSome (xC (.int 14)))))))))))))))
def τ__law_table : ES :=
    (sSeq (sSet 2 (eLst aNil))
    (sSeq (sFor (iSeq (xVal 1)) (gN 3)
    (sSeq (sSet 4 (eOp1 op1Neg (xC (.int 1))))
    (sSeq (sSet 5 (oX (xC (.int 0))))
    (sSeq (sFor (iRange1 (aCons (xO (eLenS 0)) aNil)) (gN 6)
    (sIf (tAndD (tO (eOp opGt (xO (eLenS 3)) (xC (.int 0)))) (tO (eOp opIn (xO (eOp opIx (xO (eIxS 3 (xC (.int 0)))) (xC (.int 0)))) (xO (eIxS 0 (xVar 6))))))
    (sSet 4 (oX (xVal 6)))
    sNext))
    (sSeq (sIf (tO (eOp opGe (xVar 4) (xC (.int 0))))
    (sSeq (sSet 7 (eIxS 0 (xVar 4)))
    (sFor (iRange1 (aCons (xO (eOp opShl (xC (.int 1)) (xO (eLenS 7)))) aNil)) (gN 6)
    (sSeq (sSet 8 (eLc (iSeq (xVal 3)) (gTupD 2 (gConss (gN 9) (gConss (gN 10) gNils))) (tO (eOp opEq (xO (eOp opEq (xO (eOp opAndI (xO (eOp opShr (xVar 6) (xO (eIdx (xVar 7) (xVar 9))))) (xC (.int 1)))) (xC (.int 1)))) (xVar 10))) (xVal 9) [9, 10]))
    (sIf (tO (eOp opEq (xO (eLenS 8)) (xC (.int 0))))
    (sSet 5 (eOp opOrI (xVar 5) (xO (eOp opShl (xC (.int 1)) (xVar 6)))))
    sNext))))
    sNext)
    (sDrop (eApp false 2 (eTup (aCons (xVal 4) (aCons (xVal 5) aNil))))))))))
    (sRet (oMv 2))))
def τ__law_follows : ES :=
    (sSeq (sSet 3 (eOp opMul (xO (eLst (aCons (xC (.int 0)) aNil))) (xO (eLenS 0))))
    (sSeq (sFor (iRange1 (aCons (xO (eLenS 1)) aNil)) (gN 4)
    (sSeq (sAsg (xO (eIxS 1 (xVar 4))) (gTupD 2 (gConss (gN 5) (gConss (gN 6) gNils))))
    (sSeq (sIf (tAndD (tO (eOp opNe (xVar 4) (xVar 2))) (tO (eOp opLt (xVar 5) (xC (.int 0)))))
    (sRet (oX (xC (.bool true))))
    sNext)
    (sIf (tO (eOp opNe (xVar 4) (xVar 2)))
    (sPutS 3 (xVal 5) (xO (eOp opOrI (xO (eIxS 3 (xVar 5))) (xVar 6))) (eOp opOrI (xO (eIxS 3 (xVar 5))) (xVar 6)))
    sNext))))
    (sSeq (sFor (iRange1 (aCons (xO (eLenS 0)) aNil)) (gN 4)
    (sIf (tO (eOp opEq (xO (eIxS 3 (xVar 4))) (xO (eOp opSub (xO (eOp opShl (xC (.int 1)) (xO (eOp opShl (xC (.int 1)) (xO (eCB cdLen (aCons (xO (eIxS 0 (xVar 4))) aNil))))))) (xC (.int 1))))))
    (sRet (oX (xC (.bool true))))
    sNext))
    (sSeq (sAsg (xO (eIxS 1 (xVar 2))) (gTupD 2 (gConss (gN 5) (gConss (gN 6) gNils))))
    (sRet (eAnd (eOp opGe (xVar 5) (xC (.int 0))) (eOp opEq (xO (eOp opOrI (xVar 6) (xO (eIxS 3 (xVar 5))))) (xO (eIxS 3 (xVar 5))))))))))
def τ__law_due : ES :=
    (sRet (eLc (iRange1 (aCons (xO (eLenS 1)) aNil)) (gN 2) (tTru (xO (eCallB wp__law_follows [] (aCons (xVar 0) (aCons (xVar 1) (aCons (xVar 2) aNil)))))) (xVal 2) [2]))
def τ__law_lean : ES :=
    (sSeq (sSet 2 (eCB cdList (aCons (xVar 1) aNil)))
    (sSeq (sSet 3 (eCall wp__law_table [] (aCons (xVal 0) (aCons (xVal 1) aNil))))
    (sSeq (sFor (iRange1 (aCons (xO (eLenS 1)) aNil)) (gN 4)
    (sSeq (sSet 5 (oX (xC (.int 0))))
    (sSeq (sWhile (tAndD (tO (eOp opLt (xVar 5) (xO (eLenS 2)))) (tNotD (tTru (xO (eCallB wp__law_follows [] (aCons (xVar 0) (aCons (xVar 3) (aCons (xVar 5) aNil))))))))
    (sSet 5 (eOp opAdd (xVar 5) (xC (.int 1)))))
    (sSeq (sIf (tO (eOp opEq (xVar 5) (xO (eLenS 2))))
    sBreak
    sNext)
    (sSeq (sDrop (eSM 2 smPopAt (aCons (xVal 5) aNil)))
    (sDrop (eSM 3 smPopAt (aCons (xVal 5) aNil))))))))
    (sRet (oMv 2)))))
def τ__law_same : ES :=
    (sSeq (sSet 2 (eLst (aCons (xO (eTup (aCons (xVal 0) (aCons (xVal 1) aNil)))) aNil)))
    (sSeq (sWhile (tTru (xVar 2))
    (sSeq (sAsg (xO (ePop 2)) (gTupD 2 (gConss (gN 3) (gConss (gN 4) gNils))))
    (sIf (tTru (xO (eIsi "tuple" (xVar 4))))
    (sSeq (sIf (tOrD (tNotD (tTru (xO (eIsi "tuple" (xVar 3))))) (tO (eOp opNe (xO (eLenS 3)) (xO (eLenS 4)))))
    (sRet (oX (xC (.bool false))))
    sNext)
    (sSet 2 (eOp opAdd (xVar 2) (xO (eLc (iRange1 (aCons (xO (eLenS 4)) aNil)) (gN 5) tYesD (xO (eTup (aCons (xO (eIxS 3 (xVar 5))) (aCons (xO (eIxS 4 (xVar 5))) aNil)))) [5])))))
    (sIf (tTru (xO (eIsi "bool" (xVar 4))))
    (sIf (tOrD (tNotD (tTru (xO (eIsi "bool" (xVar 3))))) (tO (eOp opNe (xVar 3) (xVar 4))))
    (sRet (oX (xC (.bool false))))
    sNext)
    (sIf (tOrD (tNotD (tTru (xO (eIsi "int" (xVar 3))))) (tOrD (tTru (xO (eIsi "bool" (xVar 3)))) (tO (eOp opNe (xVar 3) (xVar 4)))))
    (sRet (oX (xC (.bool false))))
    sNext)))))
    (sRet (oX (xC (.bool true))))))
def τ__law_asked : ES :=
    (sSeq (sIf (tNotD (tTru (xO (eCall wp__law_same [] (aCons (xO (eCall wp_idle_rules [] (aCons (xVal 1) aNil))) (aCons (xO (eCB cdTuple (aCons (xO (eCall wp__law_due [] (aCons (xVal 0) (aCons (xO (eCall wp__law_table [] (aCons (xVal 0) (aCons (xO (eIxS 1 (xC (.int 1)))) aNil)))) aNil)))) aNil))) aNil))))))
    (sRet (oX (xC (.bool false))))
    sNext)
    (sSeq (sSet 2 (eTup (aCons (xO (eIxS 1 (xC (.int 0)))) (aCons (xO (eCB cdTuple (aCons (xO (eCall wp__law_lean [] (aCons (xVal 0) (aCons (xO (eIxS 1 (xC (.int 1)))) aNil)))) aNil))) aNil))))
    (sSeq (sIf (tNotD (tTru (xO (eCall wp__law_same [] (aCons (xO (eCall wp_lean_sheet [] (aCons (xVal 1) aNil))) (aCons (xVal 2) aNil))))))
    (sRet (oX (xC (.bool false))))
    sNext)
    (sRet (eCall wp__law_same [] (aCons (xO (eTup (aCons (xO (eCall wp_idle_rules [] (aCons (xVal 2) aNil))) (aCons (xO (eCall wp_lean_sheet [] (aCons (xVal 2) aNil))) aNil)))) (aCons (xO (eTup (aCons (xO (eTup aNil)) (aCons (xVal 2) aNil)))) aNil)))))))
def τ__law_small : ES :=
    (sSeq (sSet 1 (eOp opAdd (xC (.int 1)) (xO (eCallI wp__law_lift [] (aCons (xVar 0) (aCons (xC (.int 5)) (aCons (xC (.int 5)) aNil)))))))
    (sSeq (sIf (tO (eOp opEq (xO (eCallI wp__law_lift [] (aCons (xVar 0) (aCons (xC (.int 2)) (aCons (xC (.int 6)) aNil))))) (xC (.int 4))))
    (sSet 1 (oX (xC (.int 6))))
    sNext)
    (sSeq (sSet 2 (eLRg1 (xVar 1)))
    (sSeq (sSet 3 (eCallI wp__law_made [] (aCons (xVar 0) (aCons (xVal 2) aNil))))
    (sSeq (sIf (tNotD (tTru (xO (eCall wp__law_asked [] (aCons (xO (eLst (aCons (xVal 2) aNil))) (aCons (xO (eTup (aCons (xVal 1) (aCons (xO (eCB cdTuple (aCons (xVar 3) aNil))) aNil)))) aNil))))))
    (sRet (oX (xC (.bool false))))
    sNext)
    (sRet (eCall wp__law_asked [] (aCons (xO (eLst (aCons (xVal 2) aNil))) (aCons (xO (eTup (aCons (xVal 1) (aCons (xO (eCB cdTuple (aCons (xO (eRev (xVar 3))) aNil))) aNil)))) aNil)))))))))
def τ__law_wide : ES :=
    (sSeq (sSet 1 (eCallI wp__law_tossed [] (aCons (xVar 0) (aCons (xO (eLRg1 (xC (.int 12)))) aNil))))
    (sSeq (sSet 2 (eLc (iRange1 (aCons (xC (.int 3)) aNil)) (gN 6) tYesD (xO (eCB cdSortedA (aCons (xO (eSl (xVar 1) (pSome (xO (eOp opMul (xC (.int 4)) (xVar 6)))) (pSome (xO (eOp opAdd (xO (eOp opMul (xC (.int 4)) (xVar 6))) (xC (.int 4))))))) aNil))) [6]))
    (sSeq (sSet 3 (eLst aNil))
    (sSeq (sFor (iSeq (xVal 2)) (gN 4)
    (sSeq (sSet 5 (eLc (iSeq (xO (eOp opAdd (xO (eCallI wp__law_made [] (aCons (xVar 0) (aCons (xVal 4) aNil)))) (xO (eSl (xO (eCallI wp__law_made [] (aCons (xVar 0) (aCons (xVal 4) aNil)))) pNone (pSome (xC (.int 6)))))))) (gN 7) (tO (eOp opGt (xO (eLenS 7)) (xC (.int 0)))) (xVal 7) [7]))
    (sSeq (sIf (tO (eOp opEq (xVar 4) (xO (eIxS 2 (xC (.int 0))))))
    (sSet 5 (eOp opAdd (xO (eCall wp__law_fours [] (aCons (xO (eLc (iSeq (xO (eCallI wp__law_tossed [] (aCons (xVar 0) (aCons (xVal 4) aNil))))) (gN 8) tYesD (xO (eTup (aCons (xVal 8) (aCons (xO (eOp opEq (xO (eCallI wp__law_lift [] (aCons (xVar 0) (aCons (xC (.int 3)) (aCons (xC (.int 2)) aNil))))) (xC (.int 1)))) aNil)))) [8])) aNil))) (xO (eSl (xVar 5) pNone (pSome (xC (.int 2)))))))
    sNext)
    (sSeq (sIf (tAndD (tO (eOp opGt (xO (eCallI wp__law_lift [] (aCons (xVar 0) (aCons (xC (.int 1)) (aCons (xC (.int 9)) aNil))))) (xC (.int 0)))) (tTru (xO (eCallB wp__law_follows [] (aCons (xO (eLst (aCons (xVal 4) aNil))) (aCons (xO (eCall wp__law_table [] (aCons (xO (eLst (aCons (xVal 4) aNil))) (aCons (xO (eOp opAdd (xVar 5) (xO (eLst (aCons (xO (eTup aNil)) aNil))))) aNil)))) (aCons (xO (eLenS 5)) aNil)))))))
    (sSet 5 (eOp opAdd (xO (eLc (iRange1 (aCons (xC (.int 4)) aNil)) (gN 6) tYesD (xO (eCall wp__law_rule [] (aCons (xO (eLst (aCons (xO (eTup (aCons (xO (eIxS 4 (xO (eOp opSub (xVar 6) (xC (.int 1)))))) (aCons (xC (.bool false)) aNil)))) (aCons (xO (eTup (aCons (xO (eIxS 4 (xVar 6))) (aCons (xC (.bool true)) aNil)))) aNil)))) aNil))) [6])) (xO (eLst (aCons (xO (eTup (aCons (xO (eTup (aCons (xO (eIxS 4 (xC (.int 0)))) (aCons (xC (.bool true)) aNil)))) (aCons (xO (eTup (aCons (xO (eIxS 4 (xC (.int 2)))) (aCons (xC (.bool false)) aNil)))) aNil)))) (aCons (xO (eTup (aCons (xO (eTup (aCons (xO (eIxS 4 (xC (.int 1)))) (aCons (xC (.bool true)) aNil)))) aNil))) (aCons (xO (eTup (aCons (xO (eTup (aCons (xO (eIxS 4 (xC (.int 3)))) (aCons (xC (.bool true)) aNil)))) aNil))) aNil)))))))
    sNext)
    (sSet 3 (eOp opAdd (xVar 3) (xVar 5)))))))
    (sRet (eCall wp__law_asked [] (aCons (xVal 2) (aCons (xO (eTup (aCons (xC (.int 12)) (aCons (xO (eCB cdTuple (aCons (xO (eSl (xO (eCallI wp__law_tossed [] (aCons (xVar 0) (aCons (xVal 3) aNil)))) pNone (pSome (xC (.int 60))))) aNil))) aNil)))) aNil))))))))
def τ__law_by_hand : ES :=
    (sSeq (sSet 0 (eTup (aCons (xC (.int 3)) (aCons (xO (eCB cdTuple (aCons (xO (eCall wp__law_fours [] (aCons (xO (eLst (aCons (xO (eTup (aCons (xC (.int 2)) (aCons (xC (.bool true)) aNil)))) (aCons (xO (eTup (aCons (xC (.int 0)) (aCons (xC (.bool false)) aNil)))) (aCons (xO (eTup (aCons (xC (.int 1)) (aCons (xC (.bool true)) aNil)))) aNil))))) aNil))) aNil))) aNil))))
    (sSeq (sIf (tNotD (tTru (xO (eCall wp__law_same [] (aCons (xO (eTup (aCons (xO (eCall wp_idle_rules [] (aCons (xVal 0) aNil))) (aCons (xO (eCall wp_lean_sheet [] (aCons (xVal 0) aNil))) aNil)))) (aCons (xO (eTup (aCons (xO (eTup (aCons (xC (.int 0)) (aCons (xC (.int 1)) (aCons (xC (.int 2)) (aCons (xC (.int 3)) (aCons (xC (.int 4)) aNil))))))) (aCons (xO (eTup (aCons (xC (.int 3)) (aCons (xO (eSl (xO (eIxS 0 (xC (.int 1)))) (pSome (xC (.int 4))) pNone)) aNil)))) aNil)))) aNil))))))
    (sRet (oX (xC (.bool false))))
    sNext)
    (sSeq (sSet 1 (eTup (aCons (xC (.int 2)) (aCons (xO (eTup (aCons (xO (eTup (aCons (xO (eTup (aCons (xC (.int 0)) (aCons (xC (.bool true)) aNil)))) aNil))) (aCons (xO (eTup (aCons (xO (eTup (aCons (xC (.int 0)) (aCons (xC (.bool true)) aNil)))) (aCons (xO (eTup (aCons (xC (.int 1)) (aCons (xC (.bool true)) aNil)))) aNil)))) aNil)))) aNil))))
    (sSeq (sIf (tNotD (tTru (xO (eCall wp__law_same [] (aCons (xO (eTup (aCons (xO (eCall wp_idle_rules [] (aCons (xVal 1) aNil))) (aCons (xO (eCall wp_lean_sheet [] (aCons (xVal 1) aNil))) aNil)))) (aCons (xO (eTup (aCons (xO (eTup (aCons (xC (.int 1)) aNil))) (aCons (xO (eTup (aCons (xC (.int 2)) (aCons (xO (eTup (aCons (xO (eTup (aCons (xO (eTup (aCons (xC (.int 0)) (aCons (xC (.bool true)) aNil)))) aNil))) aNil))) aNil)))) aNil)))) aNil))))))
    (sRet (oX (xC (.bool false))))
    sNext)
    (sSeq (sSet 2 (eTup (aCons (xC (.int 1)) (aCons (xO (eTup (aCons (xO (eTup (aCons (xO (eTup (aCons (xC (.int 0)) (aCons (xC (.bool true)) aNil)))) aNil))) (aCons (xO (eTup (aCons (xO (eTup (aCons (xC (.int 0)) (aCons (xC (.bool true)) aNil)))) aNil))) aNil)))) aNil))))
    (sSeq (sIf (tNotD (tTru (xO (eCall wp__law_same [] (aCons (xO (eTup (aCons (xO (eCallK wp_idle_rules 0 1 [0] aNil (aCons (xVal 2) aNil))) (aCons (xO (eCallK wp_lean_sheet 0 1 [0] aNil (aCons (xVal 2) aNil))) aNil)))) (aCons (xO (eTup (aCons (xO (eTup (aCons (xC (.int 0)) (aCons (xC (.int 1)) aNil)))) (aCons (xO (eTup (aCons (xC (.int 1)) (aCons (xO (eTup (aCons (xO (eTup (aCons (xO (eTup (aCons (xC (.int 0)) (aCons (xC (.bool true)) aNil)))) aNil))) aNil))) aNil)))) aNil)))) aNil))))))
    (sRet (oX (xC (.bool false))))
    sNext)
    (sSeq (sSet 3 (eTup (aCons (xC (.int 3)) (aCons (xO (eTup (aCons (xO (eTup (aCons (xO (eTup (aCons (xC (.int 0)) (aCons (xC (.bool false)) aNil)))) (aCons (xO (eTup (aCons (xC (.int 1)) (aCons (xC (.bool true)) aNil)))) aNil)))) (aCons (xO (eTup (aCons (xO (eTup (aCons (xC (.int 1)) (aCons (xC (.bool false)) aNil)))) (aCons (xO (eTup (aCons (xC (.int 2)) (aCons (xC (.bool true)) aNil)))) aNil)))) (aCons (xO (eTup (aCons (xO (eTup (aCons (xC (.int 0)) (aCons (xC (.bool false)) aNil)))) (aCons (xO (eTup (aCons (xC (.int 2)) (aCons (xC (.bool true)) aNil)))) aNil)))) (aCons (xO (eTup (aCons (xO (eTup (aCons (xC (.int 0)) (aCons (xC (.bool true)) aNil)))) (aCons (xO (eTup (aCons (xC (.int 2)) (aCons (xC (.bool false)) aNil)))) aNil)))) aNil)))))) aNil))))
    (sSeq (sIf (tNotD (tTru (xO (eCall wp__law_same [] (aCons (xO (eTup (aCons (xO (eCall wp_idle_rules [] (aCons (xVal 3) aNil))) (aCons (xO (eCall wp_lean_sheet [] (aCons (xVal 3) aNil))) aNil)))) (aCons (xO (eTup (aCons (xO (eTup (aCons (xC (.int 2)) aNil))) (aCons (xO (eTup (aCons (xC (.int 3)) (aCons (xO (eTup (aCons (xO (eOp opIx (xO (eIxS 3 (xC (.int 1)))) (xC (.int 0)))) (aCons (xO (eOp opIx (xO (eIxS 3 (xC (.int 1)))) (xC (.int 1)))) (aCons (xO (eOp opIx (xO (eIxS 3 (xC (.int 1)))) (xC (.int 3)))) aNil))))) aNil)))) aNil)))) aNil))))))
    (sRet (oX (xC (.bool false))))
    sNext)
    (sSeq (sSet 4 (eTup (aCons (xC (.int 2)) (aCons (xO (eTup (aCons (xO (eTup (aCons (xO (eTup (aCons (xC (.int 0)) (aCons (xC (.bool true)) aNil)))) (aCons (xO (eTup (aCons (xC (.int 1)) (aCons (xC (.bool true)) aNil)))) aNil)))) (aCons (xO (eTup (aCons (xO (eTup (aCons (xC (.int 0)) (aCons (xC (.bool false)) aNil)))) (aCons (xO (eTup (aCons (xC (.int 1)) (aCons (xC (.bool false)) aNil)))) aNil)))) aNil)))) aNil))))
    (sSeq (sSet 5 (eTup (aCons (xC (.int 1)) (aCons (xO (eTup (aCons (xO (eTup (aCons (xO (eTup (aCons (xC (.int 0)) (aCons (xC (.bool true)) aNil)))) aNil))) (aCons (xO (eTup (aCons (xO (eTup (aCons (xC (.int 0)) (aCons (xC (.bool false)) aNil)))) aNil))) (aCons (xO (eTup aNil)) aNil))))) aNil))))
    (sSeq (sSet 6 (eTup (aCons (xO (eCall wp_idle_rules [] (aCons (xVal 4) aNil))) (aCons (xO (eCall wp_lean_sheet [] (aCons (xVal 4) aNil))) (aCons (xO (eCall wp_idle_rules [] (aCons (xVal 5) aNil))) (aCons (xO (eCall wp_lean_sheet [] (aCons (xVal 5) aNil))) (aCons (xO (eCall wp_idle_rules [] (aCons (xO (eTup (aCons (xC (.int 2)) (aCons (xO (eTup aNil)) aNil)))) aNil))) (aCons (xO (eCall wp_lean_sheet [] (aCons (xO (eTup (aCons (xC (.int 2)) (aCons (xO (eTup aNil)) aNil)))) aNil))) (aCons (xO (eCall wp_idle_rules [] (aCons (xO (eTup (aCons (xC (.int 1)) (aCons (xO (eTup (aCons (xO (eTup aNil)) aNil))) aNil)))) aNil))) aNil)))))))))
    (sSeq (sIf (tNotD (tTru (xO (eCall wp__law_same [] (aCons (xVal 6) (aCons (xO (eTup (aCons (xO (eTup aNil)) (aCons (xVal 4) (aCons (xO (eTup (aCons (xC (.int 0)) (aCons (xC (.int 1)) (aCons (xC (.int 2)) aNil))))) (aCons (xO (eTup (aCons (xC (.int 1)) (aCons (xO (eTup (aCons (xO (eTup aNil)) aNil))) aNil)))) (aCons (xO (eTup aNil)) (aCons (xO (eTup (aCons (xC (.int 2)) (aCons (xO (eTup aNil)) aNil)))) (aCons (xO (eTup aNil)) aNil))))))))) aNil))))))
    (sRet (oX (xC (.bool false))))
    sNext)
    (sSeq (sSet 7 (eTup (aCons (xC (.int 3)) (aCons (xO (eTup (aCons (xO (eTup (aCons (xO (eTup (aCons (xC (.int 0)) (aCons (xC (.bool false)) aNil)))) (aCons (xO (eTup (aCons (xC (.int 2)) (aCons (xC (.bool true)) aNil)))) aNil)))) (aCons (xO (eTup (aCons (xO (eTup (aCons (xC (.int 2)) (aCons (xC (.bool true)) aNil)))) aNil))) (aCons (xO (eTup (aCons (xO (eTup (aCons (xC (.int 1)) (aCons (xC (.bool false)) aNil)))) (aCons (xO (eTup (aCons (xC (.int 2)) (aCons (xC (.bool true)) aNil)))) aNil)))) (aCons (xO (eTup (aCons (xO (eTup (aCons (xC (.int 0)) (aCons (xC (.bool true)) aNil)))) (aCons (xO (eTup (aCons (xC (.int 1)) (aCons (xC (.bool true)) aNil)))) aNil)))) aNil)))))) aNil))))
    (sRet (eCall wp__law_same [] (aCons (xO (eTup (aCons (xO (eCall wp_idle_rules [] (aCons (xVal 7) aNil))) (aCons (xO (eCall wp_lean_sheet [] (aCons (xVal 7) aNil))) aNil)))) (aCons (xO (eTup (aCons (xO (eTup (aCons (xC (.int 0)) (aCons (xC (.int 1)) (aCons (xC (.int 2)) aNil))))) (aCons (xO (eTup (aCons (xC (.int 3)) (aCons (xO (eOp opAdd (xO (eSl (xO (eIxS 7 (xC (.int 1)))) (pSome (xC (.int 1))) (pSome (xC (.int 2))))) (xO (eSl (xO (eIxS 7 (xC (.int 1)))) (pSome (xC (.int 3))) pNone)))) aNil)))) aNil)))) aNil)))))))))))))))))
def τ_law : ES :=
    (sSeq (sSet 1 (eCall wp__law_crate [] (aCons (xVal 0) aNil)))
    (sSeq (sSet 2 (eOp opEq (xO (eCallI wp__law_lift [] (aCons (xVar 1) (aCons (xC (.int 0)) (aCons (xC (.int 11)) aNil))))) (xC (.int 7))))
    (sSeq (sIf (tNotD (tTru (xO (eCall wp__law_by_hand [] aNil))))
    (sRet (oX (xC (.bool false))))
    sNext)
    (sSeq (sFor (iRange1 (aCons (xC (.int 3)) aNil)) (gN 3)
    (sIf (tNotD (tTru (xO (eCallI wp__law_small [] (aCons (xVar 1) aNil)))))
    (sRet (oX (xC (.bool false))))
    sNext))
    (sRet (eOr (eNot (oX (xVal 2))) (eCallI wp__law_wide [] (aCons (xVar 1) aNil))))))))
end K18
end
section
open VL PySem L2
local macro_rules | `(tactic| walk_at "vs") => `(tactic| first
  | with_reducible (first | refine st_seq ?_ | refine st_ret ?_ | refine st_set ?_ | refine st_if ?_ | refine st_drop ?_ | refine st_next ?_ | refine st_par ?_ | refine st_asg ?_ | refine st_rt0 ?_ | refine st_nx0 ?_ | refine st_brk ?_ | refine st_cnt ?_ | refine st_retN ?_ | refine st_op ?_ | refine st_op1 ?_ | refine st_an ?_ | refine st_ac ?_ | refine st_cb ?_ | refine st_tup ?_ | refine st_lst ?_ | refine st_to ?_ | refine st_tru ?_ | refine st_tnot ?_ | refine st_tand ?_ | refine st_tor ?_ | refine st_and ?_ | refine st_or ?_ | refine st_not ?_ | refine st_eif ?_ | refine st_chain ?_ | refine st_call ?_ | refine st_calli ?_ | refine st_isi ?_ | refine st_lrg ?_ | refine st_trg ?_ | refine st_sl ?_ | refine st_pn ?_ | refine st_ps ?_ | refine st_iseq ?_ | refine st_ir1 ?_ | refine st_ir2 ?_ | refine st_yes ?_ | refine st_c ?_ | refine st_xo ?_ | refine st_ox ?_ | refine st_cbe ?_ | refine st_true ?_ | refine st_ixe ?_ | refine st_dnew ?_ | refine st_ao0 ?_ | refine st_ao ?_ | refine st_trl ?_ | refine st_callk ?_ | refine st_callB ?_ | refine st_put ?_ | refine st_dput ?_ | refine st_g0 ?_ | refine st_sme ?_ | refine st_sme0 ?_ | refine st_pute ?_ | refine st_par3 ?_)
  | (with_reducible show (xVar _ _ _)); refine st_var rfl ?_
  | (with_reducible show (xVal _ _ _)); (first | refine st_val rfl ?_ | refine st_valL rfl rfl rfl ?_)
  | (with_reducible show (oMv _ _ _)); (first | refine st_mv rfl ?_ | refine st_mvL rfl rfl ?_)
  | (with_reducible show (eIxS _ _ _ _)); (first | refine st_ixT rfl ?_ | refine st_ixLs rfl ?_ | refine st_ixF rfl ?_ | refine st_ixTr rfl ?_ | refine st_ixDic rfl rfl ?_)
  | (with_reducible show (eLenS _ _ _)); (first | refine st_lenT rfl ?_ | refine st_lenD _ rfl ?_)
  | (with_reducible show (eEl _ _ _ _)); refine st_el rfl ?_
  | (with_reducible show (eApp _ _ _ _ _)); (first | refine st_app (listG_ls rfl) ?_ | refine st_app (listG_tr rfl) ?_)
  | (with_reducible show (sPutS _ _ _ _ _ _)); (first | refine st_putS rfl ?_ | refine st_putSD rfl ?_)
  | (with_reducible show (eInS _ _ _ _)); (first | refine st_in rfl ?_ | refine st_din rfl ?_)
  | (with_reducible show (eNotInS _ _ _ _)); (first | refine st_notin rfl ?_ | refine st_dnotin rfl ?_)
  | (with_reducible show (tInS _ _ _ _)); (first | refine st_tin rfl ?_ | refine st_tdin rfl ?_)
  | (with_reducible show (tNotInS _ _ _ _)); (first | refine st_tnotin rfl ?_ | refine st_tdnotin rfl ?_)
  | (with_reducible show (sDel _ _ _ _)); refine st_del rfl ?_
  | (with_reducible show (eSM _ _ _ _ _)); refine st_sm rfl ?_
  | (with_reducible show (gN _ _ _ _)); refine st_gn rfl ?_
  | (with_reducible show (gConss _ _ _ _ _)); refine st_gc ?_
  | (with_reducible show (gTupD _ _ _ _ _)); refine st_gt rfl ?_
  | (with_reducible show (∃ d b, _ = some d ∧ kitD d _ = some b ∧ _)); (first | refine ⟨_, true, rfl, (rfl : kitD _ _ = some true), ?_⟩ | refine ⟨_, false, rfl, (rfl : kitD _ _ = some false), ?_⟩)
  | (with_reducible show (∃ _, _)); (first | refine ⟨_, rfl, ?_⟩ | refine ⟨_, _, rfl, rfl, ?_⟩ | refine ⟨_, _, _, rfl, rfl, rfl, ?_⟩ | refine ⟨_, _, _, _, rfl, rfl, rfl, ?_⟩ | refine ⟨_, _, _, _, rfl, rfl, rfl, rfl, ?_⟩ | refine ⟨_, _, _, rfl, .inl ⟨_, rfl, rfl, rfl⟩, ?_⟩)
  | (with_reducible show ((∃ _, _) ∧ _)); (first | refine ⟨⟨_, rfl, _, .inl rfl⟩, ?_⟩ | refine ⟨⟨_, rfl, [], .inr ⟨_, rfl⟩⟩, ?_⟩)
  | (with_reducible show (_ ≤ sizeLine ∧ _)); refine ⟨Evl.sz_of (Nat.le_of_ble_eq_true rfl), ?_⟩)
local macro_rules | `(tactic| walk_at "op") => `(tactic| first
  | (with_reducible show (opAdd _ _ _)); (first | refine op_addI ?_)
  | (with_reducible show (opSub _ _ _)); (first | refine op_subI ?_)
  | (with_reducible show (opLt _ _ _)); (first | refine op_ltI ?_)
  | (with_reducible show (opLe _ _ _)); (first | refine op_leI ?_)
  | (with_reducible show (opGt _ _ _)); (first | refine op_gtI ?_)
  | (with_reducible show (opGe _ _ _)); (first | refine op_geI ?_)
  | (with_reducible show (opEq _ _ _)); (first | refine op_eqI ?_ | refine op_eqB ?_)
  | (with_reducible show (opNe _ _ _)); (first | refine op_neI ?_ | refine op_neB ?_)
  | (with_reducible show (opIsN _ _ _)); (first | refine op_isNone ?_ | refine op_isInt ?_ | refine op_isTup ?_ | refine op_isBl ?_ | refine op_isSt ?_ | refine op_isLs ?_)
  | (with_reducible show (opNotN _ _ _)); (first | refine op_notNone ?_ | refine op_notTup ?_)
  | (with_reducible show (opIx _ _ _)); (first | refine op_ixT0 rfl ?_ | refine op_ixT1 rfl ?_ | refine op_ixT2 rfl ?_ | refine op_ixL0 rfl ?_ | refine op_ixL1 rfl ?_)
  | (with_reducible show (cdLen _ _)); (first | refine cd_lenL ?_ | refine cd_lenT ?_)
  | (with_reducible show (cdInt _ _)); (first | refine cd_intI ?_ | refine cd_intB ?_)
  | (with_reducible show (cdTuple _ _)); (first | refine cd_tupL ?_ | refine cd_tupT ?_)
  | (with_reducible show (cdList _ _)); (first | refine cd_listL ?_ | refine cd_listT ?_)
  | (with_reducible show (cdAbs _ _)); (first | refine cd_absI ?_)
  | (with_reducible show (cdMin2 _ _)); (first | refine cd_min2I ?_)
  | (with_reducible show (cdMax2 _ _)); (first | refine cd_max2I ?_)
  | (with_reducible show (sdAll _ _ _ _)); (first | refine sd_T ?_ | refine sd_L ?_))
local macro_rules | `(tactic| walk_at "go") => `(tactic| repeat (first | walk_at "vs" | walk_at "op"))
local macro_rules | `(tactic| walk_at "gb") => `(tactic| repeat (first | walk_at "vs" | walk_at "op" | with_reducible (first | refine br_t ?_ | refine br_f ?_ | refine br_nt ?_ | refine br_nf ?_)))
namespace K18
open FM
theorem _root_.FM.Wf.len {m : Nat} {r : Rule} (w : Wf m r) : r.length ≤ m := by
  have h : ∀ (r : Rule) (k : Nat), (∀ l ∈ r, (k : Int) ≤ l.1 ∧ l.1 < m) → r.Pairwise (fun a b => a.1 < b.1) → k ≤ m → r.length + k ≤ m := by
    intro r
    induction r with
    | nil => intro k _ _ h; simpa using h
    | cons x r ih =>
      intro k a b _
      rw [List.pairwise_cons] at b
      have ax := a x (by simp)
      have := ih (x.1.toNat + 1) (fun l hl => by have := b.1 l hl; have := a l (by simp [hl]); omega) b.2 (by omega)
      simp only [List.length_cons]
      omega
  have := h r 0 (fun l hl => by have := w.rng l hl; omega) w.inc (by omega)
  omega
theorem _root_.FM.Wf.sz {m : Nat} {r : Rule} (w : Wf m r) (hm : m ≤ 12) : r.length ≤ sizeLine := Evl.sz_of (by have := w.len; omega)
theorem sz' {n : Nat} (h : n ≤ 100000) : n < sizeLine := Nat.lt_of_le_of_lt h (by decide)
theorem len_contrary_of : ∀ ds Q, wp_contrary_of ds Q → ds.length = 1 := fun ds Q ⟨b, s, e, _⟩ => by rw [e]; rfl
theorem rd_contrary_of : ∀ ds Q, wp_contrary_of ds Q → τ_contrary_of (ends0 Q) (fzs ds ++ List.replicate (1 - ds.length) none) := fun ds Q ⟨b, s, e, q⟩ => by
  subst e
  refine st_nrm rfl ?_
  unfold τ_contrary_of
  walk_at "go"
  exact q
/-! sorting literals -/
theorem dL_le (a b : Lit) (h : a.1 < b.1) : PySem.W.dataLe false id (dL a) (dL b) = true := by
  rw [PySem.W.dataLe_eq]
  show (!PySem.W.dataLt (dL b) (dL a)) = true
  unfold dL dLit
  rw [PySem.W.dataLt_pair (by simp [PySem.W.alike]) (by simp [PySem.W.alike])]
  rw [if_neg (by simp only [PyData.eqv]; rw [beq_iff_eq]; omega)]
  have := congrFun (congrFun (PySem.W.dataLe_int (β := Int) (fun x => x)) a.1) b.1
  rw [PySem.W.dataLe_eq] at this
  have this : (!PySem.W.dataLt (.int b.1) (.int a.1)) = decide (a.1 ≤ b.1) := this
  rw [this, decide_eq_true_eq]
  omega
theorem dL_le_iff (a b : Lit) (h : PySem.W.dataLe false id (dL a) (dL b) = true) : a.1 ≤ b.1 := by
  apply Classical.byContradiction
  intro c
  rw [PySem.W.dataLe_eq] at h
  have h : (!PySem.W.dataLt (dL b) (dL a)) = true := h
  have := dL_le b a (by omega)
  unfold dL dLit at h
  rw [PySem.W.dataLt_pair (by simp [PySem.W.alike]) (by simp [PySem.W.alike])] at h
  rw [if_neg (by simp only [PyData.eqv]; rw [beq_iff_eq]; omega)] at h
  have := congrFun (congrFun (PySem.W.dataLe_int (β := Int) (fun x => x)) a.1) b.1
  rw [PySem.W.dataLe_eq] at this
  have this : (!PySem.W.dataLt (.int b.1) (.int a.1)) = decide (a.1 ≤ b.1) := this
  rw [this, decide_eq_true_eq] at h
  exact c h
theorem srtOk (r : List Lit) (h : r.length ≤ 1000) : SortOk (r.map dL) :=
  ⟨PySem.W.AllAlike.of fun a b => by simp [dL, dLit, PySem.W.alike, PySem.W.alikeAll], PySem.W.Sortable.tuples fun l => ⟨_, _, rfl⟩, Evl.sz_of (by rw [List.length_map]; omega), fun d hd => by
    obtain ⟨l, _, rfl⟩ := List.mem_map.mp hd
    exact ⟨enc_L.lay l, Nat.le_trans (enc_L.dep l) (by decide)⟩⟩
theorem srt_inc {r : List Lit} (h : r.Pairwise fun a b => a.1 < b.1) : (r.map dL).mergeSort (PySem.W.dataLe false id) = r.map dL :=
  List.mergeSort_of_pairwise (List.pairwise_map.mpr (h.imp fun {a b} z => dL_le a b z))
theorem ctr_wf {m : Nat} {r : Rule} (w : Wf m r) : Wf m (ctr r) :=
  ⟨fun l hl => by
    obtain ⟨x, hx, rfl⟩ := List.mem_map.mp hl
    exact w.rng x hx, List.pairwise_map.mpr (w.inc.imp fun {a b} z => z)⟩
theorem len_contrary : ∀ ds Q, wp_contrary ds Q → ds.length = 1 := fun ds Q ⟨m, r, e, _⟩ => by rw [e]; rfl
theorem rd_contrary : ∀ ds Q, wp_contrary ds Q → τ_contrary (ends0 Q) (fzs ds ++ List.replicate (2 - ds.length) none) := fun ds Q ⟨m, r, e, w, hm, q⟩ => by
  subst e
  refine st_nrm rfl ?_
  unfold τ_contrary
  walk_at "go"
  refine lc_go r dL (fun _ => true) (fun l => dL (neg l)) (fun QI q => by walk_at "go"; exact q) (w.sz hm) (by exact plain1 (.inl rfl)) ?_ ?_
  · refine fun l hl => ⟨_, _, rfl, fun QG q => ⟨_, rfl, q⟩, rfl, fun Q q => by walk_at "go"; exact q, fun _ Q q => ?_⟩
    walk_at "go"
    refine ⟨_, _, rfl, ?_⟩
    walk_at "go"
    exact q
  · rw [List.filter_eq_self.mpr (fun _ _ => rfl), show (fun l => dL (neg l)) = dL ∘ neg from rfl, ← List.map_map]
    walk_at "go"
    refine cd_sortedAL (srtOk _ (by have := w.len; rw [List.length_map]; omega)) ?_
    have es := srt_inc (ctr_wf w).inc
    unfold ctr at es q
    rw [es]
    walk_at "go"
    exact q
/-! rule_holds -/
theorem len_rule_holds : ∀ ds Q, wp_rule_holds ds Q → ds.length = 2 := fun ds Q ⟨r, f, e, _⟩ => by rcases e with e | e <;> (rw [e]; rfl)
theorem holds_len (r : Rule) (f : Fil) : (decide (((((r.filter fun l => decide (f[l.1.toNat]? = some l.2)).map fun l => PyData.int l.1).length : Nat) : Int) > 0)) = holds r f := by
  rw [List.length_map]
  unfold holds
  induction r with
  | nil => rfl
  | cons x r ih =>
    rw [List.filter_cons, List.any_cons]
    cases h : decide (f[x.1.toNat]? = some x.2) with
    | true => simp
    | false => simpa using ih
theorem rd_rule_holds : ∀ ds Q, wp_rule_holds ds Q → τ_rule_holds (ends0 Q) (fzs ds ++ List.replicate (4 - ds.length) none) := fun ds Q ⟨r, f, e, hr, hl, q⟩ => by
  have key : ∀ (d : PyData) (Γ : Ga), Γ = [some (.fz (dR r)), some (.fz d), none, none] → (∀ (j : Nat) (x : Int) (b : Bool) (QO : O → Prop), x = (j : Int) → f[j]? = some b → QO (.fz (.bool b)) → opIx d (.int x) QO) → (∀ x y, isDic [some (.fz (dR r)), some (.fz d), x, y] 1 = false) → τ_rule_holds (ends0 Q) Γ := fun d Γ eΓ ix d1 => by
    subst eΓ
    unfold τ_rule_holds
    walk_at "go"
    refine lc_go r dL (fun l => decide (f[l.1.toNat]? = some l.2)) (fun l => .int l.1) (fun QI q => by walk_at "go"; exact q) (Evl.sz_of (by omega)) (by exact plain2 (.inl rfl) (.inl rfl)) ?_ ?_
    · refine fun l hm => ⟨_, [some (.fz (dR r)), some (.fz d), some (.fz (.int l.1)), some (.fz (.bool l.2))], rfl, fun QG q => ?_, rfl, fun Q q => ?_, fun _ Q q => ?_⟩
      · walk_at "go"
        exact q
      · obtain ⟨h0, h1⟩ := hr l hm
        have hj : l.1.toNat < f.length := by omega
        walk_at "go"
        refine st_ixD rfl (d1 _ _) rfl ?_
        walk_at "go"
        refine ix l.1.toNat _ _ _ (by omega) (List.getElem?_eq_getElem hj) ?_
        walk_at "go"
        rw [List.getElem?_eq_getElem hj] at q
        rw [show (f[l.1.toNat] == l.2) = decide (some f[l.1.toNat] = some l.2) by rw [Bool.beq_eq_decide_eq]; congr 1; simp]
        exact q
      · walk_at "go"
        exact q
    · walk_at "go"
      rw [holds_len]
      exact q
  rcases e with e | e
  · subst e
    refine st_nrm rfl ?_
    exact key _ _ rfl (fun j x b QO ej e q => op_ixT j ej (by rw [List.getElem?_map, e]; rfl) q) (fun _ _ => rfl)
  · subst e
    refine st_nrm rfl ?_
    exact key _ _ rfl (fun j x b QO ej e q => op_ixL j ej (by rw [List.getElem?_map, e]; rfl) q) (fun _ _ => rfl)
end K18
namespace K18
open FM
def grp (m : Nat) (rs : List Rule) : List O := (List.range (m + 1)).map fun (b : Nat) => O.ls ((rs.filter fun r => decide (last m r = (b : Int))).map dR)
theorem grp_nil (m : Nat) : grp m [] = List.replicate (m + 1) (.ls []) := by
  unfold grp
  simp [List.map_const']
theorem grp_len (m : Nat) (rs : List Rule) : (grp m rs).length = m + 1 := by simp [grp]
theorem grp_add (m : Nat) (rs : List Rule) (r : Rule) (k : Nat) (hk : k ≤ m) (e : last m r = (k : Int)) : (grp m rs).set k (.ls (((rs.filter fun r => decide (last m r = (k : Int))).map dR) ++ [dR r])) = grp m (rs ++ [r]) := by
  apply List.ext_getElem?
  intro j
  unfold grp
  by_cases h : k = j
  · subst h
    rw [List.getElem?_set_self (by simp; omega), List.getElem?_map, List.getElem?_range (by omega)]
    simp [List.filter_append, e]
  · rw [List.getElem?_set_ne h, List.getElem?_map, List.getElem?_map]
    by_cases hj : j < m + 1
    · rw [List.getElem?_range hj]
      simp only [Option.map_some, List.filter_append, Option.some.injEq, O.ls.injEq]
      rw [List.filter_cons_of_neg (by simp [e]; omega)]
      simp
    · rw [List.getElem?_eq_none (by simp; omega)]; rfl
theorem grp_frz (m : Nat) (rs : List Rule) : O.frzs (grp m rs) = some ((List.range (m + 1)).map fun (b : Nat) => PyData.list ((rs.filter fun r => decide (last m r = (b : Int))).map dR)) := by
  unfold grp
  generalize List.range (m + 1) = l
  induction l with
  | nil => rfl
  | cons b l ih =>
    rw [List.map_cons, List.map_cons]
    unfold O.frzs
    rw [ih]
    rfl
theorem last_rng {m : Nat} {r : Rule} (w : Wf m r) : ∃ k : Nat, k ≤ m ∧ last m r = (k : Int) := by
  by_cases h : r = []
  · subst h; exact ⟨m, Nat.le_refl _, rfl⟩
  · have := last_lt w h
    exact ⟨(last m r).toNat, by omega, by omega⟩
theorem getD_last {r : Rule} (h : r ≠ []) : (r.map dL)[r.length - 1]? = some (dL (r.getLast h)) := by
  rw [List.getElem?_map, List.getLast_eq_getElem, List.getElem?_eq_getElem (by cases r with | nil => exact absurd rfl h | cons _ _ => simp)]
  rfl
theorem len_rules_by_last_box : ∀ ds Q, wp_rules_by_last_box ds Q → ds.length = 1 := fun ds Q ⟨m, rs, e, _⟩ => by rw [e]; rfl
theorem rd_rules_by_last_box : ∀ ds Q, wp_rules_by_last_box ds Q → τ_rules_by_last_box (ends0 Q) (fzs ds ++ List.replicate (5 - ds.length) none) := fun ds Q ⟨m, rs, e, ⟨h1, h2, h3, wf⟩, q⟩ => by
  subst e
  refine st_nrm rfl ?_
  unfold τ_rules_by_last_box
  walk_at "go"
  refine lcO_inv (List.range (m + 1)) (fun i => PyData.int (i : Nat)) (fun i acc Γ' => Γ' = [some (.fz (dS m rs)), none, none, none, none] ∧ acc = List.replicate i (.ls [])) (Γ1 := [some (.fz (dS m rs)), none, none, none, none]) (fun QI q => ?_) (by exact plain1 (.inl rfl)) ⟨rfl, rfl⟩ (fun i x acc Γ' ex ⟨e1, e2⟩ _ => ?_) (fun acc Γ' ⟨e1, e2⟩ => ?_)
  · walk_at "go"
    exact ⟨szI (by omega) (by omega), q⟩
  · subst e1; subst e2
    refine ⟨_, rfl, ?_⟩
    walk_at "go"
    refine br_t ?_
    walk_at "go"
    have : i < m + 1 := by have := (List.getElem?_eq_some_iff.mp ex).1; simpa using this
    refine ⟨by rw [List.length_replicate]; exact sz' (by omega), _, rfl, rfl, ?_⟩
    rw [List.replicate_succ']; rfl
  · subst e1; subst e2
    rw [List.length_range]
    walk_at "go"
    rw [← grp_nil]
    refine for_inv rs dR (fun i Γ' => ∃ x, Γ' = [some (.fz (dS m rs)), some (.tr (grp m (rs.take i))), x, none, none]) (Γ1 := [some (.fz (dS m rs)), some (.tr (grp m [])), none, none, none]) (fun QI q => ?_) ⟨none, by simp⟩ (fun i r Γ' er ⟨x, e⟩ => ?_) (fun Γ' ⟨x, e⟩ => ?_)
    · walk_at "go"
      exact q
    · subst e
      have hr := List.mem_of_getElem? er
      obtain ⟨k, hk, ek⟩ := last_rng (wf r hr)
      have tk : rs.take (i + 1) = rs.take i ++ [r] := by rw [List.take_add_one, er]; rfl
      have hl := (wf r hr).len
      walk_at "go"
      have gk : (grp m (rs.take i))[k]? = some (.ls (((rs.take i).filter fun r => decide (last m r = (k : Int))).map dR)) := by
        unfold grp
        rw [List.getElem?_map, List.getElem?_range (by omega)]; rfl
      have lk : (((rs.take i).filter fun r => decide (last m r = (k : Int))).map dR).length < sizeLine := by
        rw [List.length_map]
        have := List.length_filter_le (fun r => decide (last m r = (k : Int))) (rs.take i)
        rw [List.length_take] at this
        exact sz' (by omega)
      refine br2 (fun c => ?_) (fun c => ?_)
      · have hne : r ≠ [] := fun z => by subst z; simp at c
        walk_at "go"
        refine op_ixT (r.length - 1) (by rw [List.length_map]; have : 0 < r.length := List.length_pos_iff.mpr hne; omega) (getD_last hne) ?_
        walk_at "go"
        refine ⟨_, _, k, rfl, rfl, ixN_of (by unfold last at ek; rw [List.getLast?_eq_some_getLast hne] at ek; exact ek) (by rw [grp_len]; omega), ?_⟩
        refine ⟨_, _, _, _, rfl, rfl, rfl, gk, ?_⟩
        walk_at "go"
        refine sm_app lk ⟨_, rfl, ?_⟩
        rw [grp_add m _ r k hk ek, ← tk]
        exact ⟨_, rfl⟩
      · have hne : r = [] := by
          cases r with
          | nil => rfl
          | cons x r => simp at c
        walk_at "go"
        refine ⟨_, _, k, rfl, rfl, ixN_of (by subst hne; exact ek) (by rw [grp_len]; omega), ?_⟩
        refine ⟨_, _, _, _, rfl, rfl, rfl, gk, ?_⟩
        walk_at "go"
        refine sm_app lk ⟨_, rfl, ?_⟩
        rw [grp_add m _ r k hk ek, ← tk]
        exact ⟨_, rfl⟩
    · subst e
      rw [List.take_length]
      walk_at "go"
      refine lc_map (List.range (m + 1)) (fun (b : Nat) => PyData.list ((rs.filter fun r => decide (last m r = (b : Int))).map dR)) (fun (b : Nat) => dRs (rs.filter fun r => decide (last m r = (b : Int)))) (Γ1 := [some (.fz (dS m rs)), some (.fz (.list ((List.range (m + 1)).map fun (b : Nat) => PyData.list ((rs.filter fun r => decide (last m r = (b : Int))).map dR)))), x, none, none]) (fun QI q => ?_) (Evl.sz_of (by rw [List.length_range]; omega)) (by exact plain1 (.inl rfl)) (fun b hb => ⟨_, _, rfl, fun QG q => ⟨_, rfl, q⟩, rfl, fun Q q => ?_⟩) ?_
      · refine st_iseq ?_
        refine st_valL rfl (d := .list _) (by unfold O.frz; rw [grp_frz]) rfl ?_
        walk_at "go"
        exact q
      · walk_at "go"
        exact q
      · walk_at "go"
        exact q
end K18
namespace K18
open FM
def tkk (t : List Lit) : List (L2.Key × PyData) := t.map fun l => (.inl l.1, .bool l.2)
theorem tk_keys (t : List Lit) : keysOf (tkD t) = some (tkk t) := by
  induction t with
  | nil => rfl
  | cons l t ih => unfold tkD at ih ⊢; rw [List.map_cons]; unfold keysOf; rw [ih]; rfl
theorem tk_get (t : List Lit) (k : Nat) : kGet (tkk t) (.inl (k : Int)) = (t.find? fun l => decide (l.1 = (k : Int))).map fun l => .bool l.2 := by
  unfold kGet tkk
  induction t with
  | nil => rfl
  | cons l t ih =>
    rw [List.map_cons]
    by_cases h : l.1 = (k : Int)
    · rw [List.find?_cons_of_pos (by simp [h]), List.find?_cons_of_pos (by simp [h])]; rfl
    · rw [List.find?_cons_of_neg (by simp [h]), List.find?_cons_of_neg (by simp [h])]; exact ih
theorem len_signs_let : ∀ ds Q, wp_signs_let ds Q → ds.length = 3 := fun ds Q ⟨k, t, e, _⟩ => by rw [e]; rfl
theorem rd_signs_let : ∀ ds Q, wp_signs_let ds Q → τ_signs_let (ends0 Q) (fzs ds ++ List.replicate (5 - ds.length) none) := fun ds Q ⟨k, t, e, q⟩ => by
  subst e
  refine st_nrm rfl ?_
  unfold τ_signs_let
  have last : ∀ S : List Bool, S = signs t k → sRet (eLc (iSeq (xVal 3)) (gN 4) (tNotD (tAndD (tTru (xVar 2)) (tNotD (tTru (xVar 4))))) (xVal 4) [4]) (ends0 Q) [some (.fz (.int (k : Nat))), some (.fz (.dict (tkD t))), some (.fz (.bool false)), some (.ls (S.map .bool)), none] := fun S eS => by
    walk_at "go"
    refine lc_go S PyData.bool (fun _ => true) PyData.bool (Γ1 := [some (.fz (.int (k : Nat))), some (.fz (.dict (tkD t))), some (.fz (.bool false)), some (.fz (.list (S.map .bool))), none]) (fun QI q => ?_) (Evl.sz_of (by rw [eS]; have := signs_len (t := t) k; omega)) (by exact plain1 (.inl rfl)) (fun b hb => ⟨_, _, rfl, fun QG q => ⟨_, rfl, q⟩, rfl, fun Q q => ?_, fun _ Q q => ?_⟩) ?_
    · walk_at "go"
      exact q
    · walk_at "go"
      refine br_f ?_
      exact q
    · walk_at "go"
      exact q
    · rw [List.filter_eq_self.mpr (fun _ _ => rfl), eS]
      exact q
  refine st_seq (st_set (st_eif ?_))
  refine st_tdnotin rfl ?_
  walk_at "go"
  refine ⟨_, .inl (k : Int), (show dicO (.fz (.dict (tkD t))) = _ from tk_keys t), rfl, _, rfl, ?_⟩
  rw [tk_get]
  refine br2 (fun c => ?_) (fun c => ?_)
  · walk_at "go"
    refine last [false, true] ?_
    unfold signs
    cases h : t.find? (fun l => decide (l.1 = (k : Int))) with
    | none => rfl
    | some l => rw [h] at c; simp at c
  · cases h : t.find? (fun l => decide (l.1 = (k : Int))) with
    | none => rw [h] at c; simp at c
    | some l =>
      refine st_lst (st_ac (st_xo (st_ixDic (kk := tkk t) (tk_keys t) rfl ?_)))
      walk_at "go"
      refine ⟨_, .inl (k : Int), .bool l.2, tk_keys t, rfl, by rw [tk_get, h]; rfl, ?_⟩
      walk_at "go"
      refine last [l.2] ?_
      unfold signs
      rw [h]
theorem len_is_kept : ∀ ds Q, wp_is_kept ds Q → ds.length = 2 := fun ds Q ⟨rs, f, e, _⟩ => by rw [e]; rfl
theorem keeps_len (rs : List Rule) (f : Fil) : decide ((((rs.filter fun r => !holds r f).map dR).length : Int) = 0) = keeps rs f := by
  rw [List.length_map]
  unfold keeps
  induction rs with
  | nil => rfl
  | cons r rs ih =>
    rw [List.filter_cons, List.all_cons]
    cases holds r f with
    | true => simpa using ih
    | false => simp; omega
theorem rd_is_kept : ∀ ds Q, wp_is_kept ds Q → τ_is_kept (ends0 Q) (fzs ds ++ List.replicate (3 - ds.length) none) := fun ds Q ⟨rs, f, e, hl, hr, q⟩ => by
  subst e
  refine st_nrm rfl ?_
  unfold τ_is_kept
  walk_at "go"
  refine lc_go rs dR (fun r => !holds r f) dR (fun QI q => by walk_at "go"; exact q) (Evl.sz_of (by omega)) (by exact plain1 (.inl rfl)) ?_ ?_
  · refine fun r hm => ⟨_, _, rfl, fun QG q => ⟨_, rfl, q⟩, rfl, fun Q q => ?_, fun _ Q q => ?_⟩
    · walk_at "go"
      refine ⟨r, f, .inr rfl, (hr r hm).2, (hr r hm).1, ?_⟩
      walk_at "go"
      refine ⟨rfl, ?_⟩
      walk_at "go"
      exact q
    · walk_at "go"
      exact q
  · walk_at "go"
    rw [keeps_len]
    exact q
end K18
end
section
open VL PySem L2
local macro_rules | `(tactic| walk_at "vs") => `(tactic| first
  | with_reducible (first | refine st_seq ?_ | refine st_ret ?_ | refine st_set ?_ | refine st_if ?_ | refine st_drop ?_ | refine st_next ?_ | refine st_par ?_ | refine st_asg ?_ | refine st_rt0 ?_ | refine st_nx0 ?_ | refine st_brk ?_ | refine st_cnt ?_ | refine st_retN ?_ | refine st_op ?_ | refine st_op1 ?_ | refine st_an ?_ | refine st_ac ?_ | refine st_cb ?_ | refine st_tup ?_ | refine st_lst ?_ | refine st_to ?_ | refine st_tru ?_ | refine st_tnot ?_ | refine st_tand ?_ | refine st_tor ?_ | refine st_and ?_ | refine st_or ?_ | refine st_not ?_ | refine st_eif ?_ | refine st_chain ?_ | refine st_call ?_ | refine st_calli ?_ | refine st_isi ?_ | refine st_lrg ?_ | refine st_trg ?_ | refine st_sl ?_ | refine st_pn ?_ | refine st_ps ?_ | refine st_iseq ?_ | refine st_ir1 ?_ | refine st_ir2 ?_ | refine st_yes ?_ | refine st_c ?_ | refine st_xo ?_ | refine st_ox ?_ | refine st_cbe ?_ | refine st_true ?_ | refine st_ixe ?_ | refine st_dnew ?_ | refine st_ao0 ?_ | refine st_ao ?_ | refine st_trl ?_ | refine st_callk ?_ | refine st_callB ?_ | refine st_put ?_ | refine st_dput ?_ | refine st_g0 ?_ | refine st_sme ?_ | refine st_sme0 ?_ | refine st_pute ?_ | refine st_par3 ?_)
  | (with_reducible show (xVar _ _ _)); refine st_var rfl ?_
  | (with_reducible show (xVal _ _ _)); (first | refine st_val rfl ?_ | refine st_valL rfl rfl rfl ?_)
  | (with_reducible show (oMv _ _ _)); (first | refine st_mv rfl ?_ | refine st_mvL rfl rfl ?_)
  | (with_reducible show (eIxS _ _ _ _)); (first | refine st_ixT rfl ?_ | refine st_ixLs rfl ?_ | refine st_ixF rfl ?_ | refine st_ixTr rfl ?_ | refine st_ixDic rfl rfl ?_)
  | (with_reducible show (eLenS _ _ _)); (first | refine st_lenT rfl ?_ | refine st_lenD _ rfl ?_)
  | (with_reducible show (eEl _ _ _ _)); refine st_el rfl ?_
  | (with_reducible show (eApp _ _ _ _ _)); (first | refine st_app (listG_ls rfl) ?_ | refine st_app (listG_tr rfl) ?_)
  | (with_reducible show (sPutS _ _ _ _ _ _)); (first | refine st_putS rfl ?_ | refine st_putSD rfl ?_)
  | (with_reducible show (eInS _ _ _ _)); (first | refine st_in rfl ?_ | refine st_din rfl ?_)
  | (with_reducible show (eNotInS _ _ _ _)); (first | refine st_notin rfl ?_ | refine st_dnotin rfl ?_)
  | (with_reducible show (tInS _ _ _ _)); (first | refine st_tin rfl ?_ | refine st_tdin rfl ?_)
  | (with_reducible show (tNotInS _ _ _ _)); (first | refine st_tnotin rfl ?_ | refine st_tdnotin rfl ?_)
  | (with_reducible show (sDel _ _ _ _)); refine st_del rfl ?_
  | (with_reducible show (eSM _ _ _ _ _)); refine st_sm rfl ?_
  | (with_reducible show (gN _ _ _ _)); refine st_gn rfl ?_
  | (with_reducible show (gConss _ _ _ _ _)); refine st_gc ?_
  | (with_reducible show (gTupD _ _ _ _ _)); refine st_gt rfl ?_
  | (with_reducible show (∃ d b, _ = some d ∧ kitD d _ = some b ∧ _)); (first | refine ⟨_, true, rfl, (rfl : kitD _ _ = some true), ?_⟩ | refine ⟨_, false, rfl, (rfl : kitD _ _ = some false), ?_⟩)
  | (with_reducible show (∃ _, _)); (first | refine ⟨_, rfl, ?_⟩ | refine ⟨_, _, rfl, rfl, ?_⟩ | refine ⟨_, _, _, rfl, rfl, rfl, ?_⟩ | refine ⟨_, _, _, _, rfl, rfl, rfl, ?_⟩ | refine ⟨_, _, _, _, rfl, rfl, rfl, rfl, ?_⟩ | refine ⟨_, _, _, rfl, .inl ⟨_, rfl, rfl, rfl⟩, ?_⟩)
  | (with_reducible show ((∃ _, _) ∧ _)); (first | refine ⟨⟨_, rfl, _, .inl rfl⟩, ?_⟩ | refine ⟨⟨_, rfl, [], .inr ⟨_, rfl⟩⟩, ?_⟩)
  | (with_reducible show (_ ≤ sizeLine ∧ _)); refine ⟨Evl.sz_of (Nat.le_of_ble_eq_true rfl), ?_⟩)
local macro_rules | `(tactic| walk_at "op") => `(tactic| first
  | (with_reducible show (opAdd _ _ _)); (first | refine op_addI ?_)
  | (with_reducible show (opSub _ _ _)); (first | refine op_subI ?_)
  | (with_reducible show (opLt _ _ _)); (first | refine op_ltI ?_)
  | (with_reducible show (opLe _ _ _)); (first | refine op_leI ?_)
  | (with_reducible show (opGt _ _ _)); (first | refine op_gtI ?_)
  | (with_reducible show (opGe _ _ _)); (first | refine op_geI ?_)
  | (with_reducible show (opEq _ _ _)); (first | refine op_eqI ?_ | refine op_eqB ?_)
  | (with_reducible show (opNe _ _ _)); (first | refine op_neI ?_ | refine op_neB ?_)
  | (with_reducible show (opIsN _ _ _)); (first | refine op_isNone ?_ | refine op_isInt ?_ | refine op_isTup ?_ | refine op_isBl ?_ | refine op_isSt ?_ | refine op_isLs ?_)
  | (with_reducible show (opNotN _ _ _)); (first | refine op_notNone ?_ | refine op_notTup ?_)
  | (with_reducible show (opIx _ _ _)); (first | refine op_ixT0 rfl ?_ | refine op_ixT1 rfl ?_ | refine op_ixT2 rfl ?_ | refine op_ixL0 rfl ?_ | refine op_ixL1 rfl ?_)
  | (with_reducible show (cdLen _ _)); (first | refine cd_lenL ?_ | refine cd_lenT ?_)
  | (with_reducible show (cdInt _ _)); (first | refine cd_intI ?_ | refine cd_intB ?_)
  | (with_reducible show (cdTuple _ _)); (first | refine cd_tupL ?_ | refine cd_tupT ?_)
  | (with_reducible show (cdList _ _)); (first | refine cd_listL ?_ | refine cd_listT ?_)
  | (with_reducible show (cdAbs _ _)); (first | refine cd_absI ?_)
  | (with_reducible show (cdMin2 _ _)); (first | refine cd_min2I ?_)
  | (with_reducible show (cdMax2 _ _)); (first | refine cd_max2I ?_)
  | (with_reducible show (sdAll _ _ _ _)); (first | refine sd_T ?_ | refine sd_L ?_))
local macro_rules | `(tactic| walk_at "go") => `(tactic| repeat (first | walk_at "vs" | walk_at "op"))
local macro_rules | `(tactic| walk_at "gb") => `(tactic| repeat (first | walk_at "vs" | walk_at "op" | with_reducible (first | refine br_t ?_ | refine br_f ?_ | refine br_nt ?_ | refine br_nf ?_)))
namespace K18
open FM
def chs (stk : List (List Bool)) : List O := stk.reverse.map fun S => O.ls (S.map .bool)
theorem chs_len (stk : List (List Bool)) : (chs stk).length = stk.length := by simp [chs]
theorem chs_push (S : List Bool) (stk : List (List Bool)) : chs stk ++ [.ls (S.map .bool)] = chs (S :: stk) := by simp [chs]
theorem chs_get (S : List Bool) (up : List (List Bool)) : (chs (S :: up))[up.length]? = some (.ls (S.map .bool)) := by
  rw [← chs_push, List.getElem?_append_right (by rw [chs_len]; omega), chs_len, Nat.sub_self]; rfl
theorem chs_set (S T : List Bool) (up : List (List Bool)) : (chs (S :: up)).set up.length (.ls (T.map .bool)) = chs (T :: up) := by
  rw [← chs_push, ← chs_push, List.set_append_right _ _ (by rw [chs_len]; omega), chs_len, Nat.sub_self]; rfl
theorem chs_drop (S : List Bool) (up : List (List Bool)) : (chs (S :: up)).dropLast = chs up := by
  rw [← chs_push]; simp
theorem chs_last (S : List Bool) (up : List (List Bool)) : (chs (S :: up))[(chs (S :: up)).length - 1]? = some (.ls (S.map .bool)) := by
  rw [chs_len]; exact chs_get S up
theorem tk_frz (t : List Lit) : (tkk t).map (fun p => (kD p.1, p.2)) = tkD t := by
  unfold tkk tkD
  rw [List.map_map]; rfl
theorem tk_pr (t : List Lit) : t.map dL = (tkk t).map VL.prD := by
  unfold tkk
  rw [List.map_map]; rfl
theorem merge_app (kk mm : List (L2.Key × PyData)) (h : (kk ++ mm).Pairwise fun a b => a.1 ≠ b.1) : kMerge kk mm = kk ++ mm := by
  induction mm generalizing kk with
  | nil => simp [kMerge]
  | cons p mm ih =>
    show kMerge (kPut kk p.1 p.2) mm = _
    have : kPut kk p.1 p.2 = kk ++ [p] := by
      unfold kPut
      rw [if_neg]
      rw [List.any_eq_true]
      rintro ⟨x, hx, e⟩
      have := (List.pairwise_append.mp h).2.2 x hx p (by simp)
      exact this (of_decide_eq_true e)
    rw [this, ih (kk ++ [p]) (by simpa using h)]
    simp
theorem tk_merge {m : Nat} {t : List Lit} (h : Tk m t) : kMerge [] (tkk t) = tkk t := by
  have := merge_app [] (tkk t) (by
    rw [List.nil_append]
    unfold tkk
    exact List.pairwise_map.mpr (h.td.imp fun {a b} z e => z (Sum.inl.inj e)))
  simpa using this
theorem lev_get (m : Nat) (rs : List Rule) (k : Nat) (h : k ≤ m) : (levels m rs)[k]? = some (dRs (rs.filter fun r => decide (last m r = (k : Int)))) := by
  unfold levels
  rw [List.getElem?_map, List.getElem?_range (by omega)]; rfl
theorem beg_get (m k : Nat) (h : k < m) : ((List.replicate m false).map PyData.bool)[k]? = some (.bool false) := by
  rw [List.getElem?_map, List.getElem?_replicate, if_pos h]; rfl
theorem cutL_map {α β : Type} (f : α → β) (xs : List α) (lo hi : Option Int) : cutL (xs.map f) lo hi = (cutL xs lo hi).map f := by
  unfold cutL
  rw [List.length_map, List.map_take, List.map_drop]
theorem kp_iff (m : Nat) (rs : List Rule) (k : Nat) (p : Fil) : keeps (rs.filter fun r => decide (last m r = (k : Int))) p = true ↔ ∀ r ∈ rs, last m r = (k : Int) → holds r p = true := by
  unfold keeps
  rw [List.all_eq_true]
  constructor
  · intro h r hr e
    exact h r (List.mem_filter.mpr ⟨hr, decide_eq_true e⟩)
  · intro h r hr
    obtain ⟨h1, h2⟩ := List.mem_filter.mp hr
    exact h r h1 (of_decide_eq_true h2)
theorem len_filling_from : ∀ ds Q, wp_filling_from ds Q → ds.length = 3 := fun ds Q ⟨m, rs, t, e, _⟩ => by rw [e]; rfl
section
variable (m : Nat) (rs : List Rule) (t : List Lit)
def ffG (fil : Fil) (stk : List (List Bool)) (x y : Option O) : Ga := [some (.fz (dS m rs)), some (.fz (dR t)), some (.fz (dF (List.replicate m false))), some (.fz (.tuple (levels m rs))), some (.fz (.dict (tkD t))), some (.ls (fil.map .bool)), some (.tr (chs stk)), x, y]
end
theorem rd_filling_from : ∀ ds Q, wp_filling_from ds Q → τ_filling_from (ends0 Q) (fzs ds ++ List.replicate (9 - ds.length) none) := fun ds Q ⟨m, rs, t, e, ⟨h1, h2, h3, wf⟩, tk, q⟩ => by
  subst e
  refine st_nrm rfl ?_
  unfold τ_filling_from
  walk_at "go"
  refine ⟨m, rs, rfl, ⟨h1, h2, h3, wf⟩, ?_⟩
  walk_at "go"
  refine op_ixT m rfl (lev_get m rs m (Nat.le_refl _)) ?_
  walk_at "go"
  refine br2 (fun c => ?_) (fun c => ?_)
  · walk_at "go"
    have : firstF m rs t = none := by
      rw [List.length_map] at c
      have c : 0 < (rs.filter fun r => decide (last m r = (m : Int))).length := by simpa using c
      obtain ⟨r, hr⟩ := List.exists_mem_of_length_pos c
      obtain ⟨hr, hl⟩ := List.mem_filter.mp hr
      have hl := of_decide_eq_true hl
      have : r = [] := Classical.byContradiction fun z => by have := last_lt (wf r hr) z; omega
      subst this
      unfold firstF
      apply List.find?_eq_none.mpr
      intro f _ z
      unfold good keeps at z
      rw [Bool.and_eq_true, List.all_eq_true] at z
      have := z.1 [] hr
      simp [holds] at this
    rw [this] at q
    exact q
  have ne0 : ∀ r ∈ rs, r ≠ [] := fun r hr z => by
    subst z
    rw [List.length_map] at c
    have c : ¬ 0 < (rs.filter fun r => decide (last m r = (m : Int))).length := by simpa using c
    apply c
    exact List.length_pos_of_mem (List.mem_filter.mpr ⟨hr, by simp [last]⟩)
  walk_at "go"
  refine ⟨tkk t, tk_pr t, ?_⟩
  rw [tk_merge tk]
  walk_at "go"
  rw [tk_frz]
  refine op_ixT 0 rfl (beg_get m 0 h1) ?_
  walk_at "go"
  refine ⟨0, t, rfl, ?_⟩
  walk_at "go"
  have init : St m rs t [signs t 0] [] := St.start h1 ne0 wf tk.tr tk.td
  refine while_inv (fun n Γ' => ∃ stk fil x y, Γ' = ffG m rs t fil stk x y ∧ FM.St m rs t stk fil ∧ n = meas m stk) (meas m [signs t 0]) ⟨[signs t 0], [], none, none, rfl, init, rfl⟩ ?_
  rintro n Γ' ⟨stk, fil, x, y, rfl, st, rfl⟩
  cases stk with
  | nil =>
    have fn : firstF m rs t = none := by rw [st.fnd]; rfl
    rw [fn] at q
    unfold ffG
    walk_at "go"
    refine br_f ?_
    walk_at "go"
    exact q
  | cons S up =>
    have eb : (((chs (S :: up)).length : Nat) : Int) - 1 = ((up.length : Nat) : Int) := by rw [chs_len]; simp
    have lb : up.length < m := by have := st.le; simp at this; omega
    unfold ffG
    walk_at "go"
    refine br2 (fun _ => ?_) (fun c => by rw [chs_len] at c; simp at c)
    walk_at "go"
    rw [eb]
    refine ⟨_, up.length, _, rfl, rfl, rfl, ?_⟩
    rw [show List.take up.length (List.map PyData.bool fil) = (fil.take up.length).map .bool from List.map_take.symm]
    walk_at "go"
    refine ⟨_, _, up.length, rfl, rfl, ixN_nat (by rw [chs_len]; simp), ?_⟩
    refine ⟨_, _, chs_get S up, rfl, ?_⟩
    walk_at "go"
    cases S with
    | nil =>
      refine br_t ?_
      refine st_seq (st_drop (st_popT rfl (chs_last [] up) rfl ?_))
      rw [chs_drop]
      walk_at "go"
      exact ⟨meas m up, meas_pop, up, fil.take up.length, _, _, rfl, st.pop, rfl⟩
    | cons s S =>
      refine br2 (fun c => by simp at c; omega) (fun _ => ?_)
      have lp := st.lenp
      walk_at "go"
      refine ⟨_, _, up.length, rfl, rfl, ixN_nat (by rw [chs_len]; simp), ?_⟩
      refine ⟨_, _, _, _, rfl, rfl, rfl, chs_get (s :: S) up, ?_⟩
      walk_at "go"
      refine ⟨0, 0, .bool s, rfl, ⟨by decide, by decide, by simp [seqIndex?]⟩, rfl, ?_⟩
      rw [show ((s :: S).map PyData.bool).eraseIdx 0 = S.map .bool from rfl]
      refine ⟨_, rfl, ?_⟩
      rw [chs_set]
      walk_at "go"
      refine st_appL rfl (by rw [List.length_map]; exact sz' (by rw [List.length_append] at lp; simp at lp; have := List.length_take_le up.length fil; omega)) rfl rfl ?_
      rw [show (fil.take up.length).map PyData.bool ++ [.bool s] = (fil.take up.length ++ [s]).map .bool by simp]
      walk_at "go"
      refine op_ixT up.length rfl (lev_get m rs up.length (by omega)) ?_
      walk_at "go"
      refine ⟨rs.filter fun r => decide (last m r = (up.length : Int)), fil.take up.length ++ [s], rfl, ?_, fun r hr => ?_, ?_⟩
      · have := List.length_filter_le (fun r => decide (last m r = (up.length : Int))) rs
        omega
      · obtain ⟨hr, hl⟩ := List.mem_filter.mp hr
        have hl := of_decide_eq_true hl
        refine ⟨by have := (wf r hr).len; omega, fun l hm => ?_⟩
        have := last_le (wf r hr) (ne0 r hr) l hm
        have := ((wf r hr).rng l hm).1
        rw [lp]; omega
      refine ⟨_, rfl, rfl, ?_⟩
      walk_at "go"
      refine br2 (fun c => ?_) (fun c => ?_)
      · have bad : ¬ ∀ r ∈ rs, last m r = (up.length : Int) → holds r (fil.take up.length ++ [s]) = true := fun z => by
          rw [(kp_iff m rs up.length _).mpr z] at c
          cases c
        walk_at "go"
        exact ⟨meas m (S :: up), meas_fail lb, S :: up, fil.take up.length ++ [s], _, _, rfl, st.fail bad, rfl⟩
      have kp : ∀ r ∈ rs, last m r = (up.length : Int) → holds r (fil.take up.length ++ [s]) = true := (kp_iff m rs up.length _).mp (by simpa using c)
      walk_at "go"
      refine br2 (fun c => ?_) (fun c => ?_)
      · have em : up.length + 1 = m := by have := of_decide_eq_true c; omega
        rw [st.done kp em] at q
        walk_at "go"
        exact q
      have lm : up.length + 1 < m := by have := of_decide_eq_false c; omega
      walk_at "go"
      rw [cutL_map]
      refine op_eqE (enc := dF) enc_F (by decide) (a := fil.take up.length ++ [s]) (b := cutL (List.replicate m false) none (some ((up.length : Int) + 1))) ?_
      refine ⟨_, rfl, ?_⟩
      walk_at "go"
      refine br2 (fun _ => ?_) (fun _ => ?_)
      · walk_at "go"
        refine op_ixT (up.length + 1) (by omega) (beg_get m _ lm) ?_
        walk_at "go"
        refine ⟨up.length + 1, t, by rw [show ((up.length : Nat) : Int) + 1 = ((up.length + 1 : Nat) : Int) by omega]; rfl, ?_⟩
        walk_at "go"
        refine st_appT rfl (by rw [chs_len]; exact sz' (by have := st.le; simp only [List.length_cons] at this ⊢; omega)) rfl ?_
        rw [chs_push]
        walk_at "go"
        exact ⟨meas m (signs t (up.length + 1) :: S :: up), meas_push lm, signs t (up.length + 1) :: S :: up, fil.take up.length ++ [s], _, _, rfl, st.push kp lm, rfl⟩
      · walk_at "go"
        refine ⟨up.length + 1, t, by rw [show ((up.length : Nat) : Int) + 1 = ((up.length + 1 : Nat) : Int) by omega]; rfl, ?_⟩
        walk_at "go"
        refine st_appT rfl (by rw [chs_len]; exact sz' (by have := st.le; simp only [List.length_cons] at this ⊢; omega)) rfl ?_
        rw [chs_push]
        walk_at "go"
        exact ⟨meas m (signs t (up.length + 1) :: S :: up), meas_push lm, signs t (up.length + 1) :: S :: up, fil.take up.length ++ [s], _, _, rfl, st.push kp lm, rfl⟩
end K18
namespace K18
open FM
theorem rep_flat (n : Nat) : (List.replicate n [PyData.bool false]).flatten = (List.replicate n false).map PyData.bool := by
  induction n with
  | zero => rfl
  | succ n ih => rw [List.replicate_succ, List.replicate_succ, List.flatten_cons, List.map_cons, ih]; rfl
theorem len_first_filling : ∀ ds Q, wp_first_filling ds Q → ds.length = 2 := fun ds Q ⟨m, rs, t, e, _⟩ => by rw [e]; rfl
theorem rd_first_filling : ∀ ds Q, wp_first_filling ds Q → τ_first_filling (ends0 Q) (fzs ds ++ List.replicate (2 - ds.length) none) := fun ds Q ⟨m, rs, t, e, sm, tk, q⟩ => by
  subst e
  refine st_nrm rfl ?_
  unfold τ_first_filling
  walk_at "go"
  refine ⟨⟨by simp, by have := sm.1; omega, by have := sm.2.1; omega, by simp⟩, ?_⟩
  walk_at "go"
  refine ⟨m, rs, t, ?_, sm, tk, ?_⟩
  · have : (List.replicate ((m : Int)).toNat [PyData.bool false]).flatten = (List.replicate m false).map PyData.bool := by
      rw [Int.toNat_natCast]; exact rep_flat m
    rw [this]; rfl
  · walk_at "go"
    exact q
theorem len_breaking_filling : ∀ ds Q, wp_breaking_filling ds Q → ds.length = 2 := fun ds Q ⟨m, rs, t, e, _⟩ => by rw [e]; rfl
theorem ctr_tk {m : Nat} {r : Rule} (w : Wf m r) : Tk m (ctr r) := ⟨(ctr_wf w).rng, (ctr_wf w).inc.imp fun {a b} h => by omega⟩
theorem rd_breaking_filling : ∀ ds Q, wp_breaking_filling ds Q → τ_breaking_filling (ends0 Q) (fzs ds ++ List.replicate (2 - ds.length) none) := fun ds Q ⟨m, rs, r, e, sm, w, q⟩ => by
  subst e
  refine st_nrm rfl ?_
  unfold τ_breaking_filling
  walk_at "go"
  refine ⟨m, r, rfl, w, sm.2.1, ?_⟩
  walk_at "go"
  refine ⟨m, rs, ctr r, rfl, sm, ctr_tk w, ?_⟩
  walk_at "go"
  exact q
theorem len_follows : ∀ ds Q, wp_follows ds Q → ds.length = 2 := fun ds Q ⟨m, rs, t, e, _⟩ => by rw [e]; rfl
theorem rd_follows : ∀ ds Q, wp_follows ds Q → τ_follows (ends0 Q) (fzs ds ++ List.replicate (2 - ds.length) none) := fun ds Q ⟨m, rs, r, e, sm, w, q⟩ => by
  subst e
  refine st_nrm rfl ?_
  unfold τ_follows
  walk_at "go"
  refine ⟨m, rs, r, rfl, sm, w, ?_⟩
  walk_at "go"
  refine ⟨rfl, ?_⟩
  cases h : firstF m rs (ctr r) with
  | none => rw [h] at q; exact q
  | some f => rw [h] at q; exact q
end K18
namespace K18
open FM
theorem map_erase {α β : Type} (f : α → β) : ∀ (l : List α) (i : Nat), (l.map f).eraseIdx i = (l.eraseIdx i).map f
  | [], _ => by simp
  | _ :: _, 0 => by simp
  | x :: l, i + 1 => by simp [map_erase f l i]
/-- drawn literals sorted are a rule -/
theorem srt_wf {m : Nat} {ls : List Lit} (hr : ∀ l ∈ ls, 0 ≤ l.1 ∧ l.1 < m) (hd : ls.Pairwise fun a b => a.1 ≠ b.1) : ∃ r, (ls.map dL).mergeSort (PySem.W.dataLe false id) = r.map dL ∧ Wf m r ∧ r.Perm ls := by
  refine ⟨ls.mergeSort (fun a b => PySem.W.dataLe false id (dL a) (dL b)), (List.map_mergeSort (f := dL) (s := PySem.W.dataLe false id) (l := ls) (fun a _ b _ => rfl)).symm, ⟨fun l hl => hr l ((List.mergeSort_perm _ _).mem_iff.mp hl), ?_⟩, List.mergeSort_perm _ _⟩
  have tot : PySem.W.TotalLe (fun a b : Lit => PySem.W.dataLe false id (dL a) (dL b)) := PySem.W.sortLe_total (PyProof.Rows.listOrd PyProof.Rows.itemOrd) false (fun a : Lit => PySem.W.keyToks (dL a))
  have srt := List.pairwise_mergeSort (le := fun a b : Lit => PySem.W.dataLe false id (dL a) (dL b)) (fun a b c h1 h2 => tot.trans a b c h1 h2) (fun a b => Bool.or_eq_true_iff.mpr (tot.total a b)) ls
  have hd' : (ls.mergeSort (fun a b => PySem.W.dataLe false id (dL a) (dL b))).Pairwise fun a b => a.1 ≠ b.1 := (List.mergeSort_perm _ _).symm.pairwise hd (fun h => fun e => h e.symm)
  exact srt.imp₂ (fun a b h1 h2 => by have := dL_le_iff a b h1; omega) hd'
end K18
end
section
open VL PySem L2
local macro_rules | `(tactic| walk_at "vs") => `(tactic| first
  | with_reducible (first | refine st_seq ?_ | refine st_ret ?_ | refine st_set ?_ | refine st_if ?_ | refine st_drop ?_ | refine st_next ?_ | refine st_par ?_ | refine st_asg ?_ | refine st_rt0 ?_ | refine st_nx0 ?_ | refine st_brk ?_ | refine st_cnt ?_ | refine st_retN ?_ | refine st_op ?_ | refine st_op1 ?_ | refine st_an ?_ | refine st_ac ?_ | refine st_cb ?_ | refine st_tup ?_ | refine st_lst ?_ | refine st_to ?_ | refine st_tru ?_ | refine st_tnot ?_ | refine st_tand ?_ | refine st_tor ?_ | refine st_and ?_ | refine st_or ?_ | refine st_not ?_ | refine st_eif ?_ | refine st_chain ?_ | refine st_call ?_ | refine st_calli ?_ | refine st_isi ?_ | refine st_lrg ?_ | refine st_trg ?_ | refine st_sl ?_ | refine st_pn ?_ | refine st_ps ?_ | refine st_iseq ?_ | refine st_ir1 ?_ | refine st_ir2 ?_ | refine st_yes ?_ | refine st_c ?_ | refine st_xo ?_ | refine st_ox ?_ | refine st_cbe ?_ | refine st_true ?_ | refine st_ixe ?_ | refine st_dnew ?_ | refine st_ao0 ?_ | refine st_ao ?_ | refine st_trl ?_ | refine st_callk ?_ | refine st_callB ?_ | refine st_put ?_ | refine st_dput ?_ | refine st_g0 ?_ | refine st_sme ?_ | refine st_sme0 ?_ | refine st_pute ?_ | refine st_par3 ?_ | refine st_xelD ?_ | refine st_cbd ?_ | refine st_truDE ?_ | refine st_ixD' ?_ | refine st_smd ?_ | refine st_smd0 ?_ | refine st_putD ?_ | refine st_tdl ?_ | refine st_idx ?_ | refine st_rev ?_)
  | (with_reducible show (sAugI _ _ _ _ _)); refine st_augI rfl ?_
  | (with_reducible show (xVar _ _ _)); refine st_var rfl ?_
  | (with_reducible show (xVal _ _ _)); (first | refine st_val rfl ?_ | refine st_valL rfl rfl rfl ?_)
  | (with_reducible show (oMv _ _ _)); (first | refine st_mv rfl ?_ | refine st_mvL rfl rfl ?_)
  | (with_reducible show (eIxS _ _ _ _)); (first | refine st_ixT rfl ?_ | refine st_ixLs rfl ?_ | refine st_ixF rfl ?_ | refine st_ixTr rfl ?_ | refine st_ixDic rfl rfl ?_)
  | (with_reducible show (eLenS _ _ _)); (first | refine st_lenT rfl ?_ | refine st_lenD _ rfl ?_)
  | (with_reducible show (eEl _ _ _ _)); refine st_el rfl ?_
  | (with_reducible show (eApp _ _ _ _ _)); (first | refine st_app (listG_ls rfl) ?_ | refine st_app (listG_tr rfl) ?_)
  | (with_reducible show (sPutS _ _ _ _ _ _)); (first | refine st_putS rfl ?_ | refine st_putSD rfl ?_)
  | (with_reducible show (eInS _ _ _ _)); (first | refine st_in rfl ?_ | refine st_din rfl ?_)
  | (with_reducible show (eNotInS _ _ _ _)); (first | refine st_notin rfl ?_ | refine st_dnotin rfl ?_)
  | (with_reducible show (tInS _ _ _ _)); (first | refine st_tin rfl ?_ | refine st_tdin rfl ?_)
  | (with_reducible show (tNotInS _ _ _ _)); (first | refine st_tnotin rfl ?_ | refine st_tdnotin rfl ?_)
  | (with_reducible show (sDel _ _ _ _)); refine st_del rfl ?_
  | (with_reducible show (eSM _ _ _ _ _)); refine st_sm rfl ?_
  | (with_reducible show (gN _ _ _ _)); refine st_gn rfl ?_
  | (with_reducible show (gConss _ _ _ _ _)); refine st_gc ?_
  | (with_reducible show (gTupD _ _ _ _ _)); refine st_gt rfl ?_
  | (with_reducible show (∃ d b, _ = some d ∧ kitD d _ = some b ∧ _)); (first | refine ⟨_, true, rfl, (rfl : kitD _ _ = some true), ?_⟩ | refine ⟨_, false, rfl, (rfl : kitD _ _ = some false), ?_⟩)
  | (with_reducible show (∃ _, _)); (first | refine ⟨_, rfl, ?_⟩ | refine ⟨_, _, rfl, rfl, ?_⟩ | refine ⟨_, _, _, rfl, rfl, rfl, ?_⟩ | refine ⟨_, _, _, _, rfl, rfl, rfl, ?_⟩ | refine ⟨_, _, _, _, rfl, rfl, rfl, rfl, ?_⟩ | refine ⟨_, _, _, rfl, .inl ⟨_, rfl, rfl, rfl⟩, ?_⟩)
  | (with_reducible show ((∃ _, _) ∧ _)); (first | refine ⟨⟨_, rfl, _, .inl rfl⟩, ?_⟩ | refine ⟨⟨_, rfl, [], .inr ⟨_, rfl⟩⟩, ?_⟩)
  | (with_reducible show (_ ≤ sizeLine ∧ _)); refine ⟨Evl.sz_of (Nat.le_of_ble_eq_true rfl), ?_⟩)
local macro_rules | `(tactic| walk_at "op") => `(tactic| first
  | (with_reducible show (opAdd _ _ _)); (first | refine op_addI ?_)
  | (with_reducible show (opSub _ _ _)); (first | refine op_subI ?_)
  | (with_reducible show (opLt _ _ _)); (first | refine op_ltI ?_)
  | (with_reducible show (opLe _ _ _)); (first | refine op_leI ?_)
  | (with_reducible show (opGt _ _ _)); (first | refine op_gtI ?_)
  | (with_reducible show (opGe _ _ _)); (first | refine op_geI ?_)
  | (with_reducible show (opEq _ _ _)); (first | refine op_eqI ?_ | refine op_eqB ?_)
  | (with_reducible show (opNe _ _ _)); (first | refine op_neI ?_ | refine op_neB ?_)
  | (with_reducible show (opIsN _ _ _)); (first | refine op_isNone ?_ | refine op_isInt ?_ | refine op_isTup ?_ | refine op_isBl ?_ | refine op_isSt ?_ | refine op_isLs ?_)
  | (with_reducible show (opNotN _ _ _)); (first | refine op_notNone ?_ | refine op_notTup ?_)
  | (with_reducible show (opIx _ _ _)); (first | refine op_ixT0 rfl ?_ | refine op_ixT1 rfl ?_ | refine op_ixT2 rfl ?_ | refine op_ixL0 rfl ?_ | refine op_ixL1 rfl ?_)
  | (with_reducible show (op1Neg _ _)); refine op1_negI ?_
  | (with_reducible show (cdLen _ _)); (first | refine cd_lenL ?_ | refine cd_lenT ?_)
  | (with_reducible show (cdInt _ _)); (first | refine cd_intI ?_ | refine cd_intB ?_)
  | (with_reducible show (cdTuple _ _)); (first | refine cd_tupL ?_ | refine cd_tupT ?_)
  | (with_reducible show (cdList _ _)); (first | refine cd_listL ?_ | refine cd_listT ?_)
  | (with_reducible show (cdAbs _ _)); (first | refine cd_absI ?_)
  | (with_reducible show (cdMin2 _ _)); (first | refine cd_min2I ?_)
  | (with_reducible show (cdMax2 _ _)); (first | refine cd_max2I ?_)
  | (with_reducible show (sdAll _ _ _ _)); (first | refine sd_T ?_ | refine sd_L ?_))
local macro_rules | `(tactic| walk_at "go") => `(tactic| repeat (first | walk_at "vs" | walk_at "op"))
local macro_rules | `(tactic| walk_at "gb") => `(tactic| repeat (first | walk_at "vs" | walk_at "op" | with_reducible (first | refine br_t ?_ | refine br_f ?_ | refine br_nt ?_ | refine br_nf ?_)))
namespace K18
open FM
theorem Sml.erase {m : Nat} {rs : List Rule} (h : Sml m rs) (k : Nat) : Sml m (rs.eraseIdx k) := ⟨h.1, h.2.1, Nat.le_trans (List.length_eraseIdx_le _ _) h.2.2.1, fun r hr => h.2.2.2 r ((List.eraseIdx_sublist _ _).subset hr)⟩
theorem len_without_number : ∀ ds Q, wp_without_number ds Q → ds.length = 2 := fun ds Q ⟨m, rs, t, e, _⟩ => by rw [e]; rfl
theorem rd_without_number : ∀ ds Q, wp_without_number ds Q → τ_without_number (ends0 Q) (fzs ds ++ List.replicate (2 - ds.length) none) := fun ds Q ⟨m, rs, k, e, hk, hl, q⟩ => by
  subst e
  refine st_nrm rfl ?_
  unfold τ_without_number
  walk_at "go"
  rw [cut_upto, show ((k : Nat) : Int) + 1 = ((k + 1 : Nat) : Int) by omega, cut_after, ← List.map_take, ← List.map_drop]
  refine op_addT (Evl.sz_of (by rw [List.length_map, List.length_map, List.length_take, List.length_drop]; omega)) ?_
  walk_at "go"
  rw [← List.map_append, ← List.eraseIdx_eq_take_drop_succ]
  exact q
theorem len_is_idle : ∀ ds Q, wp_is_idle ds Q → ds.length = 2 := fun ds Q ⟨m, rs, t, e, _⟩ => by rw [e]; rfl
theorem rd_is_idle : ∀ ds Q, wp_is_idle ds Q → τ_is_idle (ends0 Q) (fzs ds ++ List.replicate (2 - ds.length) none) := fun ds Q ⟨m, rs, k, e, sm, hk, q⟩ => by
  subst e
  refine st_nrm rfl ?_
  unfold τ_is_idle
  walk_at "go"
  refine ⟨m, rs, k, rfl, hk, sm.2.2.1, ?_⟩
  walk_at "go"
  refine op_ixT k rfl (by rw [List.getElem?_map, List.getElem?_eq_getElem hk]; rfl) ?_
  walk_at "go"
  refine ⟨m, rs.eraseIdx k, rs[k], rfl, sm.erase k, sm.2.2.2 _ (List.getElem_mem hk), ?_⟩
  have e : idl m rs k = (firstF m (rs.eraseIdx k) (ctr rs[k])).isNone := by
    unfold idl fol
    rw [List.getD_eq_getElem?_getD, List.getElem?_eq_getElem hk]; rfl
  rw [← e]
  exact q
theorem len_idle_rules : ∀ ds Q, wp_idle_rules ds Q → ds.length = 1 := fun ds Q ⟨m, rs, e, _⟩ => by rw [e]; rfl
theorem rd_idle_rules : ∀ ds Q, wp_idle_rules ds Q → τ_idle_rules (ends0 Q) (fzs ds ++ List.replicate (2 - ds.length) none) := fun ds Q ⟨m, rs, e, sm, q⟩ => by
  subst e
  have l1000 := sm.2.2.1
  refine st_nrm rfl ?_
  unfold τ_idle_rules
  walk_at "go"
  refine lc_go (List.range rs.length) (fun (i : Nat) => PyData.int (i : Nat)) (idl m rs) (fun (i : Nat) => PyData.int (i : Nat)) (Γ1 := [some (.fz (dS (m : Nat) rs)), none]) (fun QI q => ?_) (Evl.sz_of (by rw [List.length_range]; omega)) (by exact plain1 (.inl rfl)) (fun i hi => ⟨_, _, rfl, fun QG q => ⟨_, rfl, q⟩, rfl, fun Q q => ?_, fun _ Q q => ?_⟩) ?_
  · walk_at "go"
    rw [List.length_map]
    exact ⟨szI (by omega) (by omega), q⟩
  · walk_at "go"
    refine ⟨m, rs, i, rfl, sm, List.mem_range.mp hi, ?_⟩
    walk_at "go"
    exact q
  · walk_at "go"
    exact q
  walk_at "go"
  exact q
/-! fewer rules: what is not idle stays so -/
theorem fol_iff (m : Nat) (rs : List Rule) (r : Rule) : fol m rs r = true ↔ ∀ f ∈ allF m, good rs (ctr r) f = false := by
  unfold fol firstF
  rw [Option.isNone_iff_eq_none, List.find?_eq_none]
  exact ⟨fun h f hf => by simpa using h f hf, fun h f hf => by rw [h f hf]; simp⟩
theorem fol_mono {m : Nat} {rs ss : List Rule} {r : Rule} (hs : ∀ x ∈ rs, x ∈ ss) (h : fol m rs r = true) : fol m ss r = true := by
  rw [fol_iff] at h ⊢
  intro f hf
  have := h f hf
  unfold good at this ⊢
  rw [Bool.and_eq_false_iff] at this ⊢
  rcases this with z | z
  · left
    rw [Bool.eq_false_iff] at z ⊢
    intro c
    apply z
    unfold keeps at c ⊢
    rw [List.all_eq_true] at c ⊢
    exact fun x hx => c x (hs x hx)
  · exact .inr z
/-- the rule at k, the one at i taken out ahead of it or behind it -/
theorem idl_erase {m : Nat} {rs : List Rule} {i k : Nat} (hi : i < rs.length) (hk : k < i) (h : idl m (rs.eraseIdx i) k = true) : idl m rs k = true := by
  unfold idl at h ⊢
  rw [List.getD_eq_getElem?_getD, List.getElem?_eraseIdx_of_lt hk, ← List.getD_eq_getElem?_getD] at h
  refine fol_mono (fun x hx => ?_) h
  obtain ⟨j, hj, e⟩ := List.getElem_of_mem hx
  have e2 : ((rs.eraseIdx i).eraseIdx k)[j]? = some x := by rw [List.getElem?_eq_getElem hj, e]
  have key : ∃ n, n ≠ k ∧ rs[n]? = some x := by
    rw [List.getElem?_eraseIdx] at e2
    split at e2
    · rename_i z
      rw [List.getElem?_eraseIdx] at e2
      split at e2
      · exact ⟨j, by omega, e2⟩
      · exact ⟨j + 1, by omega, e2⟩
    · rename_i z
      rw [List.getElem?_eraseIdx] at e2
      split at e2
      · exact ⟨j + 1, by omega, e2⟩
      · exact ⟨j + 1 + 1, by omega, e2⟩
  obtain ⟨n, hn, en⟩ := key
  rcases Nat.lt_or_ge n k with z | z
  · exact List.mem_of_getElem? (i := n) (by rw [List.getElem?_eraseIdx_of_lt z]; exact en)
  · exact List.mem_of_getElem? (i := n - 1) (by rw [List.getElem?_eraseIdx_of_ge (by omega), show n - 1 + 1 = n by omega]; exact en)
theorem find_range {n a : Nat} {p : Nat → Bool} (ha : a < n) (hp : p a = true) (hb : ∀ k, k < a → p k = false) : (List.range n).find? p = some a := by
  rw [List.find?_eq_some_iff_getElem]
  refine ⟨hp, a, by simpa using ha, by simp, fun j hj => ?_⟩
  rw [List.getElem_range]
  simpa using hb j hj
theorem find_none {n : Nat} {p : Nat → Bool} (hb : ∀ k, k < n → p k = false) : (List.range n).find? p = none := by
  rw [List.find?_eq_none]
  intro x hx
  rw [hb x (List.mem_range.mp hx)]; simp
/-- more laps change nothing once none is idle -/
theorem outS_stop {I : List Rule → Nat → Bool} {rs : List Rule} (h : ∀ k, k < rs.length → I rs k = false) : ∀ n, outS I n rs = rs
  | 0 => rfl
  | n + 1 => by unfold outS; rw [find_none h]
theorem outS_step {I : List Rule → Nat → Bool} {rs : List Rule} {a : Nat} (ha : a < rs.length) (hp : I rs a = true) (hb : ∀ k, k < a → I rs k = false) (n : Nat) : outS I (n + 1) rs = outS I n (rs.eraseIdx a) := by
  rw [outS, find_range ha hp hb]
theorem len_lean_sheet : ∀ ds Q, wp_lean_sheet ds Q → ds.length = 1 := fun ds Q ⟨m, rs, e, _⟩ => by rw [e]; rfl
theorem rd_lean_sheet : ∀ ds Q, wp_lean_sheet ds Q → τ_lean_sheet (ends0 Q) (fzs ds ++ List.replicate (3 - ds.length) none) := fun ds Q ⟨m, rs, e, sm, q⟩ => by
  subst e
  refine st_nrm rfl ?_
  unfold τ_lean_sheet
  walk_at "go"
  refine while_inv (fun n Γ' => ∃ (ss : List Rule) (k j : Nat), Γ' = [some (.fz (dS (m : Nat) rs)), some (.fz (dS (m : Nat) ss)), some (.fz (.int (k : Nat)))] ∧ Sml m ss ∧ k ≤ ss.length ∧ ss.length ≤ j ∧ (∀ i, i < k → idl m ss i = false) ∧ leanS m rs = outS (idl m) j ss ∧ n = 2 * ss.length - k) (2 * rs.length) ⟨rs, 0, rs.length, rfl, sm, by omega, Nat.le_refl _, by omega, rfl, by omega⟩ ?_
  rintro n Γ' ⟨ss, k, j, rfl, sms, hk, hj, hb, es, rfl⟩
  walk_at "go"
  rw [List.length_map]
  refine br2 (fun c => ?_) (fun c => ?_)
  · have c : k < ss.length := by have := of_decide_eq_true c; omega
    walk_at "go"
    refine ⟨m, ss, k, rfl, sms, c, ?_⟩
    walk_at "go"
    refine br2 (fun d => ?_) (fun d => ?_)
    · walk_at "go"
      refine ⟨m, ss, k, rfl, c, sms.2.2.1, ?_⟩
      walk_at "go"
      obtain ⟨j', rfl⟩ : ∃ j', j = j' + 1 := ⟨j - 1, by omega⟩
      have le : (ss.eraseIdx k).length = ss.length - 1 := List.length_eraseIdx_of_lt c
      have hb' : ∀ i, i < k → idl m (ss.eraseIdx k) i = false := fun i hi => by
        rw [Bool.eq_false_iff]
        intro z
        have := idl_erase c hi z
        rw [hb i hi] at this
        cases this
      exact ⟨2 * (ss.eraseIdx k).length - k, by rw [le]; omega, ss.eraseIdx k, k, j', rfl, sms.erase k, by omega, by omega, hb', (by rw [es, outS_step c d hb]), rfl⟩
    · walk_at "go"
      have hb' : ∀ i, i < k + 1 → idl m ss i = false := fun i hi => by
        rcases Nat.lt_or_ge i k with z | z
        · exact hb i z
        · rw [show i = k by omega]; exact d
      exact ⟨2 * ss.length - (k + 1), by omega, ss, k + 1, j, rfl, sms, by omega, hj, hb', es, rfl⟩
  · have c : ¬ k < ss.length := by have := of_decide_eq_false c; omega
    walk_at "go"
    rw [es, outS_stop (fun i hi => hb i (by omega))] at q
    exact q
end K18
end
section
open VL PySem L2
local macro_rules | `(tactic| walk_at "vs") => `(tactic| first
  | with_reducible (first | refine st_seq ?_ | refine st_ret ?_ | refine st_set ?_ | refine st_if ?_ | refine st_drop ?_ | refine st_next ?_ | refine st_par ?_ | refine st_asg ?_ | refine st_rt0 ?_ | refine st_nx0 ?_ | refine st_brk ?_ | refine st_cnt ?_ | refine st_retN ?_ | refine st_op ?_ | refine st_op1 ?_ | refine st_an ?_ | refine st_ac ?_ | refine st_cb ?_ | refine st_tup ?_ | refine st_lst ?_ | refine st_to ?_ | refine st_tru ?_ | refine st_tnot ?_ | refine st_tand ?_ | refine st_tor ?_ | refine st_and ?_ | refine st_or ?_ | refine st_not ?_ | refine st_eif ?_ | refine st_chain ?_ | refine st_call ?_ | refine st_calli ?_ | refine st_isi ?_ | refine st_lrg ?_ | refine st_trg ?_ | refine st_sl ?_ | refine st_pn ?_ | refine st_ps ?_ | refine st_iseq ?_ | refine st_ir1 ?_ | refine st_ir2 ?_ | refine st_yes ?_ | refine st_c ?_ | refine st_xo ?_ | refine st_ox ?_ | refine st_cbe ?_ | refine st_true ?_ | refine st_ixe ?_ | refine st_dnew ?_ | refine st_ao0 ?_ | refine st_ao ?_ | refine st_trl ?_ | refine st_callk ?_ | refine st_callB ?_ | refine st_put ?_ | refine st_dput ?_ | refine st_g0 ?_ | refine st_sme ?_ | refine st_sme0 ?_ | refine st_pute ?_ | refine st_par3 ?_ | refine st_xelD ?_ | refine st_cbd ?_ | refine st_truDE ?_ | refine st_ixD' ?_ | refine st_smd ?_ | refine st_smd0 ?_ | refine st_putD ?_ | refine st_tdl ?_ | refine st_idx ?_ | refine st_rev ?_)
  | (with_reducible show (sAugI _ _ _ _ _)); refine st_augI rfl ?_
  | (with_reducible show (xVar _ _ _)); refine st_var rfl ?_
  | (with_reducible show (xVal _ _ _)); (first | refine st_val rfl ?_ | refine st_valL rfl rfl rfl ?_)
  | (with_reducible show (oMv _ _ _)); (first | refine st_mv rfl ?_ | refine st_mvL rfl rfl ?_)
  | (with_reducible show (eIxS _ _ _ _)); (first | refine st_ixT rfl ?_ | refine st_ixLs rfl ?_ | refine st_ixF rfl ?_ | refine st_ixTr rfl ?_ | refine st_ixDic rfl rfl ?_)
  | (with_reducible show (eLenS _ _ _)); (first | refine st_lenT rfl ?_ | refine st_lenD _ rfl ?_)
  | (with_reducible show (eEl _ _ _ _)); refine st_el rfl ?_
  | (with_reducible show (eApp _ _ _ _ _)); (first | refine st_app (listG_ls rfl) ?_ | refine st_app (listG_tr rfl) ?_)
  | (with_reducible show (sPutS _ _ _ _ _ _)); (first | refine st_putS rfl ?_ | refine st_putSD rfl ?_)
  | (with_reducible show (eInS _ _ _ _)); (first | refine st_in rfl ?_ | refine st_din rfl ?_)
  | (with_reducible show (eNotInS _ _ _ _)); (first | refine st_notin rfl ?_ | refine st_dnotin rfl ?_)
  | (with_reducible show (tInS _ _ _ _)); (first | refine st_tin rfl ?_ | refine st_tdin rfl ?_)
  | (with_reducible show (tNotInS _ _ _ _)); (first | refine st_tnotin rfl ?_ | refine st_tdnotin rfl ?_)
  | (with_reducible show (sDel _ _ _ _)); refine st_del rfl ?_
  | (with_reducible show (eSM _ _ _ _ _)); refine st_sm rfl ?_
  | (with_reducible show (gN _ _ _ _)); refine st_gn rfl ?_
  | (with_reducible show (gConss _ _ _ _ _)); refine st_gc ?_
  | (with_reducible show (gTupD _ _ _ _ _)); refine st_gt rfl ?_
  | (with_reducible show (∃ d b, _ = some d ∧ kitD d _ = some b ∧ _)); (first | refine ⟨_, true, rfl, (rfl : kitD _ _ = some true), ?_⟩ | refine ⟨_, false, rfl, (rfl : kitD _ _ = some false), ?_⟩)
  | (with_reducible show (∃ _, _)); (first | refine ⟨_, rfl, ?_⟩ | refine ⟨_, _, rfl, rfl, ?_⟩ | refine ⟨_, _, _, rfl, rfl, rfl, ?_⟩ | refine ⟨_, _, _, _, rfl, rfl, rfl, ?_⟩ | refine ⟨_, _, _, _, rfl, rfl, rfl, rfl, ?_⟩ | refine ⟨_, _, _, rfl, .inl ⟨_, rfl, rfl, rfl⟩, ?_⟩)
  | (with_reducible show ((∃ _, _) ∧ _)); (first | refine ⟨⟨_, rfl, _, .inl rfl⟩, ?_⟩ | refine ⟨⟨_, rfl, [], .inr ⟨_, rfl⟩⟩, ?_⟩)
  | (with_reducible show (_ ≤ sizeLine ∧ _)); refine ⟨Evl.sz_of (Nat.le_of_ble_eq_true rfl), ?_⟩)
local macro_rules | `(tactic| walk_at "op") => `(tactic| first
  | (with_reducible show (opAdd _ _ _)); (first | refine op_addI ?_)
  | (with_reducible show (opSub _ _ _)); (first | refine op_subI ?_)
  | (with_reducible show (opLt _ _ _)); (first | refine op_ltI ?_)
  | (with_reducible show (opLe _ _ _)); (first | refine op_leI ?_)
  | (with_reducible show (opGt _ _ _)); (first | refine op_gtI ?_)
  | (with_reducible show (opGe _ _ _)); (first | refine op_geI ?_)
  | (with_reducible show (opEq _ _ _)); (first | refine op_eqI ?_ | refine op_eqB ?_)
  | (with_reducible show (opNe _ _ _)); (first | refine op_neI ?_ | refine op_neB ?_)
  | (with_reducible show (opIsN _ _ _)); (first | refine op_isNone ?_ | refine op_isInt ?_ | refine op_isTup ?_ | refine op_isBl ?_ | refine op_isSt ?_ | refine op_isLs ?_)
  | (with_reducible show (opNotN _ _ _)); (first | refine op_notNone ?_ | refine op_notTup ?_)
  | (with_reducible show (opIx _ _ _)); (first | refine op_ixT0 rfl ?_ | refine op_ixT1 rfl ?_ | refine op_ixT2 rfl ?_ | refine op_ixL0 rfl ?_ | refine op_ixL1 rfl ?_)
  | (with_reducible show (op1Neg _ _)); refine op1_negI ?_
  | (with_reducible show (cdLen _ _)); (first | refine cd_lenL ?_ | refine cd_lenT ?_)
  | (with_reducible show (cdInt _ _)); (first | refine cd_intI ?_ | refine cd_intB ?_)
  | (with_reducible show (cdTuple _ _)); (first | refine cd_tupL ?_ | refine cd_tupT ?_)
  | (with_reducible show (cdList _ _)); (first | refine cd_listL ?_ | refine cd_listT ?_)
  | (with_reducible show (cdAbs _ _)); (first | refine cd_absI ?_)
  | (with_reducible show (cdMin2 _ _)); (first | refine cd_min2I ?_)
  | (with_reducible show (cdMax2 _ _)); (first | refine cd_max2I ?_)
  | (with_reducible show (sdAll _ _ _ _)); (first | refine sd_T ?_ | refine sd_L ?_))
local macro_rules | `(tactic| walk_at "go") => `(tactic| repeat (first | walk_at "vs" | walk_at "op"))
local macro_rules | `(tactic| walk_at "gb") => `(tactic| repeat (first | walk_at "vs" | walk_at "op" | with_reducible (first | refine br_t ?_ | refine br_f ?_ | refine br_nt ?_ | refine br_nf ?_)))
namespace K18
open FM
theorem op_shlI {i j : Int} {Q : O → Prop} (hc : CShl i j) (h : Q (.fz (.int (i * 2 ^ j.toNat)))) : opShl (.int i) (.int j) Q := ⟨hc, h⟩
theorem op_powI {i j : Int} {Q : O → Prop} (hc : CPow i j) (h : Q (.fz (.int (i ^ j.toNat)))) : opPow (.int i) (.int j) Q := ⟨hc, h⟩
theorem bits_of {i : Int} {k : Nat} (h : i.natAbs < 2 ^ k) : PySem.Builtin.Int.intBits i ≤ k := by
  unfold PySem.Builtin.Int.intBits
  split
  · omega
  · rename_i c
    have hn : i.natAbs ≠ 0 := by intro z; apply c; simp; omega
    have := (Nat.log2_lt hn).mpr h
    omega
theorem mulx {i j : Int} (h1 : i.natAbs < 2 ^ 64) (h2 : j.natAbs < 2 ^ 64) : CMulX i j := by
  unfold CMulX
  have a := bits_of h1
  have b := bits_of h2
  omega
theorem divw {i : Int} {j : Nat} (h : 0 < j) (h2 : j < 2 ^ 64) : CDivW i (j : Nat) := by
  refine ⟨by omega, ?_⟩
  rw [Int.natAbs_natCast]
  have := (Nat.log2_lt (by omega)).mpr h2
  omega
theorem cutHi {α : Type} (ns : List α) (k : Nat) : (cutL ns none (some (k : Nat))).length ≤ k := by
  unfold cutL
  rw [HT.sIx_nat, HT.sIx_none, List.length_take]
  omega
theorem op_modR {i j : Int} {Q : O → Prop} (hj : 0 < j) (h : ∀ r, 0 ≤ r → r < j → Q (.fz (.int r))) : opMod (.int i) (.int j) Q :=
  op_modI hj (h _ (Int.emod_nonneg _ (by omega)) (Int.emod_lt_of_pos _ hj))
theorem ksNd : ksC.Nodup := by decide
theorem k0 : kIx ksC (.inr (Str.ofString "great")) = some 0 := by decide
theorem k1 : kIx ksC (.inr (Str.ofString "mixed")) = some 1 := by decide
theorem k2 : kIx ksC (.inr (Str.ofString "turn")) = some 2 := by decide
theorem k3 : kIx ksC (.inr (Str.ofString "tilts")) = some 3 := by decide
theorem len__law_crate : ∀ ds Q, wp__law_crate ds Q → ds.length = 1 := fun ds Q ⟨ns, e, _⟩ => by rw [e]; rfl
theorem rd__law_crate : ∀ ds Q, wp__law_crate ds Q → τ__law_crate (ends0 Q) (fzs ds ++ List.replicate (7 - ds.length) none) := fun ds Q ⟨ns, e, hn, q⟩ => by
  subst e
  refine st_nrm rfl ?_
  unfold τ__law_crate
  walk_at "go"
  have l58 : (cutL ns none (some 58)).length ≤ 58 := cutHi ns 58
  refine for_inv (cutL ns none (some 58)) PyData.int (fun i Γ' => ∃ mx gs x3 x4, Γ' = [some (.fz (scD ns)), some (.ls (gs.map .int)), some (.fz (.int mx)), x3, x4, none, none] ∧ 0 ≤ mx ∧ mx < 2147483497 ∧ (∀ g ∈ gs, 0 ≤ g) ∧ gs.length ≤ i)
    (Γ1 := [some (.fz (scD ns)), some (.ls (([] : List Int).map .int)), some (.fz (.int 18013)), none, none, none, none]) (fun QI q => ?_) ⟨18013, [], none, none, rfl, by omega, by omega, by simp, by simp⟩ (fun i c Γ' ec w => ?_) (fun Γ' w => ?_)
  · walk_at "go"
    refine ⟨ns, rfl, ?_⟩
    walk_at "go"
    rw [cutL_map]
    exact q
  · obtain ⟨mx, gs, x3, x4, rfl, m0, m1, g0, gl⟩ := w
    have il : i < 58 := by have := (List.getElem?_eq_some_iff.mp ec).1; omega
    walk_at "go"
    refine op_shlI ⟨by omega, by have := bits_of (i := 1) (k := 1) (by decide); omega⟩ ?_
    have hM : (0 : Int) < 1 * 2 ^ (1580 : Int).toNat := by rw [Int.one_mul]; exact Int.pow_pos (by omega)
    generalize (1 : Int) * 2 ^ (1580 : Int).toNat = M at hM
    walk_at "go"
    refine op_modR hM fun sz s0 _ => ?_
    walk_at "go"
    refine op_mulI (mulx (by omega) (by omega)) ?_
    walk_at "go"
    refine op_modR (by omega) fun a a0 a1 => ?_
    walk_at "go"
    refine op_mulI (mulx (by omega) (by omega)) ?_
    walk_at "go"
    refine op_modR (by omega) fun mx2 n0 n1 => ?_
    walk_at "go"
    refine op_powI ⟨by omega, by omega, by decide⟩ ?_
    generalize (10 : Int) ^ (18 : Int).toNat = T
    walk_at "go"
    refine br2 (fun _ => ?_) (fun _ => ?_)
    · walk_at "go"
      refine st_appL rfl (by rw [List.length_map]; exact sz' (by omega)) rfl rfl ?_
      walk_at "go"
      exact ⟨mx2, gs ++ [sz], _, _, by rw [List.map_append]; rfl, n0, n1, fun z hz => by rcases List.mem_append.mp hz with h | h; exact g0 z h; simp at h; omega, by simp; omega⟩
    · walk_at "go"
      exact ⟨mx2, gs, _, _, rfl, n0, n1, g0, by omega⟩
  · obtain ⟨mx, gs, x3, x4, rfl, m0, m1, g0, gl⟩ := w
    walk_at "go"
    refine for_inv (List.range 6) (fun (k : Nat) => PyData.int (k : Nat)) (fun i Γ' => ∃ hs mx x6, Γ' = [some (.fz (scD ns)), some (.ls (gs.map .int)), some (.fz (.int mx)), x3, x4, some (.ls (hs.map .int)), x6] ∧ 0 ≤ mx ∧ mx < 2147483497 ∧ hs.length = i ∧ ∀ h ∈ hs, 0 ≤ h ∧ h < 84)
      (Γ1 := [some (.fz (scD ns)), some (.ls (gs.map .int)), some (.fz (.int mx)), x3, x4, some (.ls (([] : List Int).map .int)), none]) (fun QI q => ?_) ⟨[], mx, none, rfl, m0, m1, rfl, by simp⟩ (fun i k Γ' ek w => ?_) (fun Γ' w => ?_)
    · walk_at "go"
      exact ⟨szI (by omega) (by omega), q⟩
    · obtain ⟨hs, mx, x6, rfl, m0, m1, hl, hb⟩ := w
      obtain ⟨il, rfl⟩ : i < 6 ∧ i = k := by
        obtain ⟨h1, h2⟩ := List.getElem?_eq_some_iff.mp ek
        rw [List.length_range] at h1
        rw [List.getElem_range] at h2
        exact ⟨h1, h2⟩
      walk_at "go"
      refine op_mulI (mulx (by omega) (by omega)) ?_
      walk_at "go"
      refine op_mulI (mulx (by omega) (by omega)) ?_
      walk_at "go"
      refine op_modR (by omega) fun mx2 n0 n1 => ?_
      walk_at "go"
      refine op_divI (divw (j := 71) (by omega) (by omega)) ?_
      walk_at "go"
      refine op_modR (by omega) fun h h0 h1 => ?_
      refine st_appL rfl (by rw [List.length_map]; exact sz' (by omega)) rfl rfl ?_
      walk_at "go"
      refine ⟨hs ++ [h], mx2, _, by rw [List.map_append]; rfl, n0, n1, by simp [hl], fun z hz => ?_⟩
      rcases List.mem_append.mp hz with c | c
      · exact hb z c
      · rw [List.mem_singleton.mp c]; exact ⟨h0, h1⟩
    · obtain ⟨hs, mx, x6, rfl, m0, m1, hl, hb⟩ := w
      rw [List.length_range] at hl
      walk_at "go"
      exact ⟨ksNd, by decide, q _ ⟨gs, mx, 1, hs, rfl, m0, m1, by omega, by omega, g0, by omega, hl, hb⟩⟩
theorem ksL : ksC.length < sizeLine := sz' (by decide)
theorem len__law_lift : ∀ o ds Q, wp__law_lift o ds Q → ds.length + 1 = 3 := fun o ds Q ⟨c, p, m, _, _, e, _⟩ => by rw [e]; rfl
theorem rd__law_lift : ∀ o ds Q, wp__law_lift o ds Q → τ__law_lift (ends1 Q) (some o :: fzs ds ++ List.replicate (5 - (ds.length + 1)) none) := fun o ds Q ⟨c, place, many, pk, hc, e, hp, hm1, hm, q⟩ => by
  subst e
  obtain ⟨gs, x, y, hs, rfl, x0, x1, y0, y1, g0, gl, hl, hb⟩ := pk
  have hc : c < 1000000 := hc
  have hm : many ≤ 1000000 := hm
  refine st_nrm rfl ?_
  unfold τ__law_lift pool
  walk_at "go"
  refine st_elD rfl k2 (Nat.le_of_ble_eq_true rfl) ?_
  walk_at "go"
  refine ⟨ksC, _, 2, _, rfl, k2, ksNd, Nat.le_of_ble_eq_true rfl, ksL, rfl, ?_⟩
  walk_at "go"
  refine st_elD rfl k0 (Nat.le_of_ble_eq_true rfl) ?_
  walk_at "go"
  rcases List.eq_nil_or_concat gs with rfl | ⟨gs', g, rfl⟩
  · refine br2 (fun c => absurd c (by simp)) (fun _ => ?_)
    walk_at "gb"
    refine st_elD rfl k1 (Nat.le_of_ble_eq_true rfl) ?_
    walk_at "gb"
    refine op_mulI (mulx (by omega) (by omega)) ?_
    walk_at "gb"
    refine st_elD rfl k2 (Nat.le_of_ble_eq_true rfl) ?_
    walk_at "gb"
    refine op_mulI (mulx (by omega) (by omega)) ?_
    walk_at "gb"
    refine op_modR (by omega) fun x2 n0 n1 => ?_
    refine ⟨ksC, _, 1, _, rfl, k1, ksNd, Nat.le_of_ble_eq_true rfl, ksL, rfl, ?_⟩
    walk_at "gb"
    refine st_elD rfl k3 (Nat.le_of_ble_eq_true rfl) ?_
    walk_at "gb"
    have hj : place < hs.length := by omega
    have eh : (hs.map PyData.int)[place]? = some (.int hs[place]) := by rw [List.getElem?_map, List.getElem?_eq_getElem hj]; rfl
    obtain ⟨hb0, hb1⟩ := hb hs[place] (List.getElem_mem hj)
    refine op_ixL place rfl eh ?_
    walk_at "gb"
    have fin : ∀ n : Nat, n < many → Q (.fz (.int (n : Nat))) (.td ksC [.ls (([] : List Int).map .int), .fz (.int x2), .fz (.int (y + 1)), .ls (hs.map .int)]) := fun n hn => q n (pool [] x2 (y + 1) hs) hn ⟨[], x2, y + 1, hs, rfl, n0, n1, by omega, by omega, by simp, by simp, hl, hb⟩
    have finI : ∀ n : Int, 0 ≤ n → n < many → Q (.fz (.int n)) (.td ksC [.ls (([] : List Int).map .int), .fz (.int x2), .fz (.int (y + 1)), .ls (hs.map .int)]) := fun n h0 h1 => by
      have := fin n.toNat (by omega)
      rwa [show ((n.toNat : Nat) : Int) = n by omega] at this
    refine br2 (fun _ => ?_) (fun _ => ?_)
    · walk_at "gb"
      exact ⟨_, rfl, finI 0 (by omega) (by omega)⟩
    walk_at "gb"
    refine br2 (fun _ => ?_) (fun _ => ?_)
    · walk_at "gb"
      exact ⟨_, rfl, finI _ (by omega) (by omega)⟩
    walk_at "gb"
    refine br2 (fun _ => ?_) (fun _ => ?_)
    · walk_at "gb"
      refine op_mulI (mulx (by omega) (by omega)) ?_
      walk_at "gb"
      refine op_modR (by omega) fun n h0 h1 => ?_
      exact ⟨_, rfl, finI n h0 h1⟩
    walk_at "gb"
    refine st_elD rfl k1 (Nat.le_of_ble_eq_true rfl) ?_
    walk_at "gb"
    refine op_divI (divw (j := 73) (by omega) (by omega)) ?_
    walk_at "gb"
    refine op_modR (by omega) fun n h0 h1 => ?_
    exact ⟨_, rfl, finI n h0 h1⟩
  · refine br2 (fun _ => ?_) (fun c => absurd c (by simp))
    have hg : 0 ≤ g := g0 g (by simp)
    have hg' : ∀ z ∈ gs', 0 ≤ z := fun z hz => g0 z (by simp [hz])
    have lg : gs'.length + 1 ≤ 58 := by simpa using gl
    walk_at "gb"
    refine st_elD rfl k0 (Nat.le_of_ble_eq_true rfl) ?_
    walk_at "gb"
    refine ⟨.int g, by simp, ?_⟩
    refine ⟨_, rfl, ?_⟩
    rw [show ((gs'.concat g).map PyData.int).dropLast = gs'.map .int by simp]
    walk_at "gb"
    have fin : ∀ (n : Int) (gs2 : List Int), 0 ≤ n → n < many → (∀ z ∈ gs2, 0 ≤ z) → gs2.length ≤ 58 → Q (.fz (.int n)) (.td ksC [.ls (gs2.map .int), .fz (.int x), .fz (.int (y + 1)), .ls (hs.map .int)]) := fun n gs2 h0 h1 a1 a2 => by
      have := q n.toNat (pool gs2 x (y + 1) hs) (by omega) ⟨gs2, x, y + 1, hs, rfl, x0, x1, by omega, by omega, a1, a2, hl, hb⟩
      rwa [show ((n.toNat : Nat) : Int) = n by omega] at this
    refine br2 (fun _ => ?_) (fun _ => ?_)
    · walk_at "gb"
      refine st_elD rfl k0 (Nat.le_of_ble_eq_true rfl) ?_
      refine ⟨_, _, _, _, _, rfl, rfl, rfl, rfl, ?_⟩
      walk_at "gb"
      refine op_divI (divw (by omega) (by omega)) ?_
      walk_at "gb"
      refine sm_app (by rw [List.length_map]; exact sz' (by omega)) ⟨_, rfl, ?_⟩
      walk_at "gb"
      refine op_modR (by omega) fun n h0 h1 => ?_
      have := fin n (gs' ++ [g / (many : Int)]) h0 h1 (fun z hz => by
        rcases List.mem_append.mp hz with h | h
        · exact hg' z h
        · rw [List.mem_singleton.mp h]; exact Int.ediv_nonneg hg (by omega)) (by simp; omega)
      rw [List.map_append] at this
      exact ⟨_, rfl, this⟩
    · walk_at "gb"
      refine op_modR (by omega) fun n h0 h1 => ?_
      exact ⟨_, rfl, fin n gs' h0 h1 hg' (by omega)⟩
end K18
end
section
open VL PySem L2
local macro_rules | `(tactic| walk_at "vs") => `(tactic| first
  | with_reducible (first | refine st_seq ?_ | refine st_ret ?_ | refine st_set ?_ | refine st_if ?_ | refine st_drop ?_ | refine st_next ?_ | refine st_par ?_ | refine st_asg ?_ | refine st_rt0 ?_ | refine st_nx0 ?_ | refine st_brk ?_ | refine st_cnt ?_ | refine st_retN ?_ | refine st_op ?_ | refine st_op1 ?_ | refine st_an ?_ | refine st_ac ?_ | refine st_cb ?_ | refine st_tup ?_ | refine st_lst ?_ | refine st_to ?_ | refine st_tru ?_ | refine st_tnot ?_ | refine st_tand ?_ | refine st_tor ?_ | refine st_and ?_ | refine st_or ?_ | refine st_not ?_ | refine st_eif ?_ | refine st_chain ?_ | refine st_call ?_ | refine st_calli ?_ | refine st_isi ?_ | refine st_lrg ?_ | refine st_trg ?_ | refine st_sl ?_ | refine st_pn ?_ | refine st_ps ?_ | refine st_iseq ?_ | refine st_ir1 ?_ | refine st_ir2 ?_ | refine st_yes ?_ | refine st_c ?_ | refine st_xo ?_ | refine st_ox ?_ | refine st_cbe ?_ | refine st_true ?_ | refine st_ixe ?_ | refine st_dnew ?_ | refine st_ao0 ?_ | refine st_ao ?_ | refine st_trl ?_ | refine st_callk ?_ | refine st_callB ?_ | refine st_put ?_ | refine st_dput ?_ | refine st_g0 ?_ | refine st_sme ?_ | refine st_sme0 ?_ | refine st_pute ?_ | refine st_par3 ?_ | refine st_xelD ?_ | refine st_cbd ?_ | refine st_truDE ?_ | refine st_ixD' ?_ | refine st_smd ?_ | refine st_smd0 ?_ | refine st_putD ?_ | refine st_tdl ?_ | refine st_idx ?_ | refine st_rev ?_)
  | (with_reducible show (sAugI _ _ _ _ _)); refine st_augI rfl ?_
  | (with_reducible show (xVar _ _ _)); refine st_var rfl ?_
  | (with_reducible show (xVal _ _ _)); (first | refine st_val rfl ?_ | refine st_valL rfl rfl rfl ?_)
  | (with_reducible show (oMv _ _ _)); (first | refine st_mv rfl ?_ | refine st_mvL rfl rfl ?_)
  | (with_reducible show (eIxS _ _ _ _)); (first | refine st_ixT rfl ?_ | refine st_ixLs rfl ?_ | refine st_ixF rfl ?_ | refine st_ixTr rfl ?_ | refine st_ixDic rfl rfl ?_)
  | (with_reducible show (eLenS _ _ _)); (first | refine st_lenT rfl ?_ | refine st_lenD _ rfl ?_)
  | (with_reducible show (eEl _ _ _ _)); refine st_el rfl ?_
  | (with_reducible show (eApp _ _ _ _ _)); (first | refine st_app (listG_ls rfl) ?_ | refine st_app (listG_tr rfl) ?_)
  | (with_reducible show (sPutS _ _ _ _ _ _)); (first | refine st_putS rfl ?_ | refine st_putSD rfl ?_)
  | (with_reducible show (eInS _ _ _ _)); (first | refine st_in rfl ?_ | refine st_din rfl ?_)
  | (with_reducible show (eNotInS _ _ _ _)); (first | refine st_notin rfl ?_ | refine st_dnotin rfl ?_)
  | (with_reducible show (tInS _ _ _ _)); (first | refine st_tin rfl ?_ | refine st_tdin rfl ?_)
  | (with_reducible show (tNotInS _ _ _ _)); (first | refine st_tnotin rfl ?_ | refine st_tdnotin rfl ?_)
  | (with_reducible show (sDel _ _ _ _)); refine st_del rfl ?_
  | (with_reducible show (eSM _ _ _ _ _)); refine st_sm rfl ?_
  | (with_reducible show (gN _ _ _ _)); refine st_gn rfl ?_
  | (with_reducible show (gConss _ _ _ _ _)); refine st_gc ?_
  | (with_reducible show (gTupD _ _ _ _ _)); refine st_gt rfl ?_
  | (with_reducible show (∃ d b, _ = some d ∧ kitD d _ = some b ∧ _)); (first | refine ⟨_, true, rfl, (rfl : kitD _ _ = some true), ?_⟩ | refine ⟨_, false, rfl, (rfl : kitD _ _ = some false), ?_⟩)
  | (with_reducible show (∃ _, _)); (first | refine ⟨_, rfl, ?_⟩ | refine ⟨_, _, rfl, rfl, ?_⟩ | refine ⟨_, _, _, rfl, rfl, rfl, ?_⟩ | refine ⟨_, _, _, _, rfl, rfl, rfl, ?_⟩ | refine ⟨_, _, _, _, rfl, rfl, rfl, rfl, ?_⟩ | refine ⟨_, _, _, rfl, .inl ⟨_, rfl, rfl, rfl⟩, ?_⟩)
  | (with_reducible show ((∃ _, _) ∧ _)); (first | refine ⟨⟨_, rfl, _, .inl rfl⟩, ?_⟩ | refine ⟨⟨_, rfl, [], .inr ⟨_, rfl⟩⟩, ?_⟩)
  | (with_reducible show (_ ≤ sizeLine ∧ _)); refine ⟨Evl.sz_of (Nat.le_of_ble_eq_true rfl), ?_⟩)
local macro_rules | `(tactic| walk_at "op") => `(tactic| first
  | (with_reducible show (opAdd _ _ _)); (first | refine op_addI ?_)
  | (with_reducible show (opSub _ _ _)); (first | refine op_subI ?_)
  | (with_reducible show (opLt _ _ _)); (first | refine op_ltI ?_)
  | (with_reducible show (opLe _ _ _)); (first | refine op_leI ?_)
  | (with_reducible show (opGt _ _ _)); (first | refine op_gtI ?_)
  | (with_reducible show (opGe _ _ _)); (first | refine op_geI ?_)
  | (with_reducible show (opEq _ _ _)); (first | refine op_eqI ?_ | refine op_eqB ?_)
  | (with_reducible show (opNe _ _ _)); (first | refine op_neI ?_ | refine op_neB ?_)
  | (with_reducible show (opIsN _ _ _)); (first | refine op_isNone ?_ | refine op_isInt ?_ | refine op_isTup ?_ | refine op_isBl ?_ | refine op_isSt ?_ | refine op_isLs ?_)
  | (with_reducible show (opNotN _ _ _)); (first | refine op_notNone ?_ | refine op_notTup ?_)
  | (with_reducible show (opIx _ _ _)); (first | refine op_ixT0 rfl ?_ | refine op_ixT1 rfl ?_ | refine op_ixT2 rfl ?_ | refine op_ixL0 rfl ?_ | refine op_ixL1 rfl ?_)
  | (with_reducible show (op1Neg _ _)); refine op1_negI ?_
  | (with_reducible show (cdLen _ _)); (first | refine cd_lenL ?_ | refine cd_lenT ?_)
  | (with_reducible show (cdInt _ _)); (first | refine cd_intI ?_ | refine cd_intB ?_)
  | (with_reducible show (cdTuple _ _)); (first | refine cd_tupL ?_ | refine cd_tupT ?_)
  | (with_reducible show (cdList _ _)); (first | refine cd_listL ?_ | refine cd_listT ?_)
  | (with_reducible show (cdAbs _ _)); (first | refine cd_absI ?_)
  | (with_reducible show (cdMin2 _ _)); (first | refine cd_min2I ?_)
  | (with_reducible show (cdMax2 _ _)); (first | refine cd_max2I ?_)
  | (with_reducible show (sdAll _ _ _ _)); (first | refine sd_T ?_ | refine sd_L ?_))
local macro_rules | `(tactic| walk_at "go") => `(tactic| repeat (first | walk_at "vs" | walk_at "op"))
local macro_rules | `(tactic| walk_at "gb") => `(tactic| repeat (first | walk_at "vs" | walk_at "op" | with_reducible (first | refine br_t ?_ | refine br_f ?_ | refine br_nt ?_ | refine br_nf ?_)))
namespace K18
open FM
theorem len__law_tossed : ∀ o ds Q, wp__law_tossed o ds Q → ds.length + 1 = 2 := fun o ds Q ⟨c, xs, _, _, e, _⟩ => by rw [e]; rfl
theorem rd__law_tossed : ∀ o ds Q, wp__law_tossed o ds Q → τ__law_tossed (ends1 Q) (some o :: fzs ds ++ List.replicate (4 - (ds.length + 1)) none) := fun o ds Q ⟨c, xs, pk, hc, e, hx, q⟩ => by
  subst e
  have hc : c + 2000 < 1000000 := hc
  refine st_nrm rfl ?_
  unfold τ__law_tossed
  walk_at "go"
  refine while_inv (fun n Γ' => ∃ o' rest found, Γ' = [some o', some (.fz (.list xs)), some (.ls rest), some (.ls found)] ∧ PoolOk (c + found.length) o' ∧ (found ++ rest).Perm xs ∧ n = rest.length) xs.length ⟨o, xs, [], rfl, pk, .refl _, rfl⟩ ?_
  rintro n Γ' ⟨o', rest, found, rfl, pk', pm, rfl⟩
  have lr : found.length + rest.length = xs.length := by rw [← List.length_append, pm.length_eq]
  walk_at "go"
  refine br2 (fun c1 => ?_) (fun c1 => ?_)
  · have r1 : 1 ≤ rest.length := by
      cases rest with
      | nil => simp at c1
      | cons _ _ => simp
    walk_at "go"
    refine ⟨c + found.length, 0, rest.length, pk', (by show _ < 1000000; omega), rfl, by omega, by omega, (by show _ ≤ 1000000; omega), fun n o2 hn pk2 => ?_⟩
    walk_at "go"
    refine ⟨n, n, rest[n], rfl, ⟨by omega, by omega, ?_⟩, List.getElem?_eq_getElem hn, ?_⟩
    · unfold seqIndex?
      simp
      omega
    refine ⟨_, rfl, ?_⟩
    walk_at "go"
    refine st_appL rfl (sz' (by omega)) rfl rfl ?_
    walk_at "go"
    have er : rest.eraseIdx n = rest.take n ++ rest.drop (n + 1) := List.eraseIdx_eq_take_drop_succ ..
    have rr : rest = rest.take n ++ rest[n] :: rest.drop (n + 1) := by
      rw [List.getElem_cons_drop, List.take_append_drop]
    have le : (rest.eraseIdx n).length = rest.length - 1 := List.length_eraseIdx_of_lt hn
    refine ⟨(rest.eraseIdx n).length, by rw [le]; omega, o2, rest.eraseIdx n, found ++ [rest[n]], rfl, by rw [List.length_append]; exact pk2, List.Perm.trans ?_ pm, rfl⟩
    rw [er, List.append_assoc]
    refine List.Perm.append_left _ ?_
    conv => rhs; rw [rr]
    show (rest[n] :: (rest.take n ++ rest.drop (n + 1))).Perm _
    exact (List.perm_middle).symm
  · have e0 : rest = [] := by
      cases rest with
      | nil => rfl
      | cons _ _ => simp at c1
    subst e0
    rw [List.append_nil] at pm
    walk_at "go"
    exact ⟨_, rfl, q found o' pm (by rw [← pm.length_eq]; exact pk')⟩
/-! literals in their sequence -/
theorem insL_perm (l : Lit) : ∀ r : List Lit, (insL l r).Perm (l :: r)
  | [] => .refl _
  | x :: r => by
    unfold insL
    split
    · exact .refl _
    · exact ((insL_perm l r).cons x).trans (.swap l x r)
theorem insR_perm : ∀ ls : List Lit, (insR ls).Perm ls
  | [] => .refl _
  | l :: ls => (insL_perm l (insR ls)).trans ((insR_perm ls).cons l)
theorem insL_le (l : Lit) : ∀ r : List Lit, r.Pairwise (fun a b => a.1 ≤ b.1) → (insL l r).Pairwise (fun a b => a.1 ≤ b.1)
  | [], _ => by simp [insL]
  | x :: r, h => by
    obtain ⟨h1, h2⟩ := List.pairwise_cons.mp h
    unfold insL
    split
    · rename_i c
      exact List.pairwise_cons.mpr ⟨fun y hy => by
        rcases List.mem_cons.mp hy with rfl | z
        · exact c
        · have := h1 y z; omega, h⟩
    · rename_i c
      exact List.pairwise_cons.mpr ⟨fun y hy => by
        rcases List.mem_cons.mp ((insL_perm l r).mem_iff.mp hy) with rfl | z
        · omega
        · exact h1 y z, insL_le l r h2⟩
theorem insR_le : ∀ ls : List Lit, (insR ls).Pairwise (fun a b => a.1 ≤ b.1)
  | [] => .nil
  | l :: ls => insL_le l _ (insR_le ls)
theorem insR_wf {m : Nat} {ls : List Lit} (hr : ∀ l ∈ ls, 0 ≤ l.1 ∧ l.1 < m) (hd : ls.Pairwise fun a b => a.1 ≠ b.1) : Wf m (insR ls) :=
  ⟨fun l hl => hr l ((insR_perm ls).mem_iff.mp hl), (insR_le ls).imp₂ (fun a b h1 h2 => by omega) ((insR_perm ls).symm.pairwise hd (fun h e => h e.symm))⟩
theorem inc_uniq : ∀ {r s : Rule}, r.Pairwise (fun a b => a.1 < b.1) → s.Pairwise (fun a b => a.1 < b.1) → r.Perm s → r = s
  | [], s, _, _, p => (List.nil_perm.mp p).symm
  | x :: r, [], _, _, p => by have := p.length_eq; simp at this
  | x :: r, y :: s, h1, h2, p => by
    obtain ⟨a1, a2⟩ := List.pairwise_cons.mp h1
    obtain ⟨b1, b2⟩ := List.pairwise_cons.mp h2
    have e : x = y := by
      rcases List.mem_cons.mp (p.mem_iff.mp List.mem_cons_self) with e | e
      · exact e
      rcases List.mem_cons.mp (p.mem_iff.mpr List.mem_cons_self) with e' | e'
      · exact e'.symm
      have := b1 x e
      have := a1 y e'
      omega
    subst e
    rw [inc_uniq a2 b2 (List.perm_cons x |>.mp p)]
theorem len__law_rule : ∀ ds Q, wp__law_rule ds Q → ds.length = 1 := fun ds Q ⟨m, ls, e, _⟩ => by rw [e]; rfl
theorem rd__law_rule : ∀ ds Q, wp__law_rule ds Q → τ__law_rule (ends0 Q) (fzs ds ++ List.replicate (1 - ds.length) none) := fun ds Q ⟨m, ls, e, hr, hd, hl, q⟩ => by
  subst e
  refine st_nrm rfl ?_
  unfold τ__law_rule
  walk_at "go"
  obtain ⟨r, e1, wr, pm⟩ := srt_wf (m := m) hr hd
  refine cd_sortedAL (srtOk _ hl) ?_
  rw [e1]
  walk_at "go"
  rw [inc_uniq wr.inc (insR_wf hr hd).inc (pm.trans (insR_perm ls).symm)]
  exact q
theorem len__law_shut : ∀ ds Q, wp__law_shut ds Q → ds.length = 1 := fun ds Q ⟨l, e, _⟩ => by rw [e]; rfl
theorem rd__law_shut : ∀ ds Q, wp__law_shut ds Q → τ__law_shut (ends0 Q) (fzs ds ++ List.replicate (1 - ds.length) none) := fun ds Q ⟨l, e, q⟩ => by
  subst e
  refine st_nrm rfl ?_
  unfold τ__law_shut
  walk_at "go"
  exact q
end K18
end
section
open VL PySem L2
local macro_rules | `(tactic| walk_at "vs") => `(tactic| first
  | with_reducible (first | refine st_seq ?_ | refine st_ret ?_ | refine st_set ?_ | refine st_if ?_ | refine st_drop ?_ | refine st_next ?_ | refine st_par ?_ | refine st_asg ?_ | refine st_rt0 ?_ | refine st_nx0 ?_ | refine st_brk ?_ | refine st_cnt ?_ | refine st_retN ?_ | refine st_op ?_ | refine st_op1 ?_ | refine st_an ?_ | refine st_ac ?_ | refine st_cb ?_ | refine st_tup ?_ | refine st_lst ?_ | refine st_to ?_ | refine st_tru ?_ | refine st_tnot ?_ | refine st_tand ?_ | refine st_tor ?_ | refine st_and ?_ | refine st_or ?_ | refine st_not ?_ | refine st_eif ?_ | refine st_chain ?_ | refine st_call ?_ | refine st_calli ?_ | refine st_isi ?_ | refine st_lrg ?_ | refine st_trg ?_ | refine st_sl ?_ | refine st_pn ?_ | refine st_ps ?_ | refine st_iseq ?_ | refine st_ir1 ?_ | refine st_ir2 ?_ | refine st_yes ?_ | refine st_c ?_ | refine st_xo ?_ | refine st_ox ?_ | refine st_cbe ?_ | refine st_true ?_ | refine st_ixe ?_ | refine st_dnew ?_ | refine st_ao0 ?_ | refine st_ao ?_ | refine st_trl ?_ | refine st_callk ?_ | refine st_callB ?_ | refine st_put ?_ | refine st_dput ?_ | refine st_g0 ?_ | refine st_sme ?_ | refine st_sme0 ?_ | refine st_pute ?_ | refine st_par3 ?_ | refine st_xelD ?_ | refine st_cbd ?_ | refine st_truDE ?_ | refine st_ixD' ?_ | refine st_smd ?_ | refine st_smd0 ?_ | refine st_putD ?_ | refine st_tdl ?_ | refine st_idx ?_ | refine st_rev ?_)
  | (with_reducible show (sAugI _ _ _ _ _)); refine st_augI rfl ?_
  | (with_reducible show (xVar _ _ _)); refine st_var rfl ?_
  | (with_reducible show (xVal _ _ _)); (first | refine st_val rfl ?_ | refine st_valL rfl rfl rfl ?_)
  | (with_reducible show (oMv _ _ _)); (first | refine st_mv rfl ?_ | refine st_mvL rfl rfl ?_)
  | (with_reducible show (eIxS _ _ _ _)); (first | refine st_ixT rfl ?_ | refine st_ixLs rfl ?_ | refine st_ixF rfl ?_ | refine st_ixTr rfl ?_ | refine st_ixDic rfl rfl ?_)
  | (with_reducible show (eLenS _ _ _)); (first | refine st_lenT rfl ?_ | refine st_lenD _ rfl ?_)
  | (with_reducible show (eEl _ _ _ _)); refine st_el rfl ?_
  | (with_reducible show (eApp _ _ _ _ _)); (first | refine st_app (listG_ls rfl) ?_ | refine st_app (listG_tr rfl) ?_)
  | (with_reducible show (sPutS _ _ _ _ _ _)); (first | refine st_putS rfl ?_ | refine st_putSD rfl ?_)
  | (with_reducible show (eInS _ _ _ _)); (first | refine st_in rfl ?_ | refine st_din rfl ?_)
  | (with_reducible show (eNotInS _ _ _ _)); (first | refine st_notin rfl ?_ | refine st_dnotin rfl ?_)
  | (with_reducible show (tInS _ _ _ _)); (first | refine st_tin rfl ?_ | refine st_tdin rfl ?_)
  | (with_reducible show (tNotInS _ _ _ _)); (first | refine st_tnotin rfl ?_ | refine st_tdnotin rfl ?_)
  | (with_reducible show (sDel _ _ _ _)); refine st_del rfl ?_
  | (with_reducible show (eSM _ _ _ _ _)); refine st_sm rfl ?_
  | (with_reducible show (gN _ _ _ _)); refine st_gn rfl ?_
  | (with_reducible show (gConss _ _ _ _ _)); refine st_gc ?_
  | (with_reducible show (gTupD _ _ _ _ _)); refine st_gt rfl ?_
  | (with_reducible show (∃ d b, _ = some d ∧ kitD d _ = some b ∧ _)); (first | refine ⟨_, true, rfl, (rfl : kitD _ _ = some true), ?_⟩ | refine ⟨_, false, rfl, (rfl : kitD _ _ = some false), ?_⟩)
  | (with_reducible show (∃ _, _)); (first | refine ⟨_, rfl, ?_⟩ | refine ⟨_, _, rfl, rfl, ?_⟩ | refine ⟨_, _, _, rfl, rfl, rfl, ?_⟩ | refine ⟨_, _, _, _, rfl, rfl, rfl, ?_⟩ | refine ⟨_, _, _, _, rfl, rfl, rfl, rfl, ?_⟩ | refine ⟨_, _, _, rfl, .inl ⟨_, rfl, rfl, rfl⟩, ?_⟩)
  | (with_reducible show ((∃ _, _) ∧ _)); (first | refine ⟨⟨_, rfl, _, .inl rfl⟩, ?_⟩ | refine ⟨⟨_, rfl, [], .inr ⟨_, rfl⟩⟩, ?_⟩)
  | (with_reducible show (_ ≤ sizeLine ∧ _)); refine ⟨Evl.sz_of (Nat.le_of_ble_eq_true rfl), ?_⟩)
local macro_rules | `(tactic| walk_at "op") => `(tactic| first
  | (with_reducible show (opAdd _ _ _)); (first | refine op_addI ?_)
  | (with_reducible show (opSub _ _ _)); (first | refine op_subI ?_)
  | (with_reducible show (opLt _ _ _)); (first | refine op_ltI ?_)
  | (with_reducible show (opLe _ _ _)); (first | refine op_leI ?_)
  | (with_reducible show (opGt _ _ _)); (first | refine op_gtI ?_)
  | (with_reducible show (opGe _ _ _)); (first | refine op_geI ?_)
  | (with_reducible show (opEq _ _ _)); (first | refine op_eqI ?_ | refine op_eqB ?_)
  | (with_reducible show (opNe _ _ _)); (first | refine op_neI ?_ | refine op_neB ?_)
  | (with_reducible show (opIsN _ _ _)); (first | refine op_isNone ?_ | refine op_isInt ?_ | refine op_isTup ?_ | refine op_isBl ?_ | refine op_isSt ?_ | refine op_isLs ?_)
  | (with_reducible show (opNotN _ _ _)); (first | refine op_notNone ?_ | refine op_notTup ?_)
  | (with_reducible show (opIx _ _ _)); (first | refine op_ixT0 rfl ?_ | refine op_ixT1 rfl ?_ | refine op_ixT2 rfl ?_ | refine op_ixL0 rfl ?_ | refine op_ixL1 rfl ?_)
  | (with_reducible show (op1Neg _ _)); refine op1_negI ?_
  | (with_reducible show (cdLen _ _)); (first | refine cd_lenL ?_ | refine cd_lenT ?_)
  | (with_reducible show (cdInt _ _)); (first | refine cd_intI ?_ | refine cd_intB ?_)
  | (with_reducible show (cdTuple _ _)); (first | refine cd_tupL ?_ | refine cd_tupT ?_)
  | (with_reducible show (cdList _ _)); (first | refine cd_listL ?_ | refine cd_listT ?_)
  | (with_reducible show (cdAbs _ _)); (first | refine cd_absI ?_)
  | (with_reducible show (cdMin2 _ _)); (first | refine cd_min2I ?_)
  | (with_reducible show (cdMax2 _ _)); (first | refine cd_max2I ?_)
  | (with_reducible show (sdAll _ _ _ _)); (first | refine sd_T ?_ | refine sd_L ?_))
local macro_rules | `(tactic| walk_at "go") => `(tactic| repeat (first | walk_at "vs" | walk_at "op"))
local macro_rules | `(tactic| walk_at "gb") => `(tactic| repeat (first | walk_at "vs" | walk_at "op" | with_reducible (first | refine br_t ?_ | refine br_f ?_ | refine br_nt ?_ | refine br_nf ?_)))
namespace K18
open FM
theorem perm_map {α β : Type} {f : α → β} {xs : List α} {ys : List β} (p : ys.Perm (xs.map f)) : ∃ zs : List α, ys = zs.map f ∧ zs.Perm xs := by
  have key : ∀ {ys us : List β}, ys.Perm us → ∀ xs : List α, us = xs.map f → ∃ zs : List α, ys = zs.map f ∧ zs.Perm xs := fun p => by
    induction p with
    | nil => intro xs e; exact ⟨[], rfl, by cases xs with
      | nil => exact .nil
      | cons _ _ => cases e⟩
    | cons x p ih =>
      intro xs e
      cases xs with
      | nil => cases e
      | cons y xs =>
        obtain ⟨h1, h2⟩ := List.cons.inj e
        obtain ⟨zs, z1, z2⟩ := ih xs h2
        exact ⟨y :: zs, by rw [List.map_cons, z1, h1], z2.cons y⟩
    | swap x y l =>
      intro xs e
      match xs, e with
      | a :: b :: xs, e =>
        obtain ⟨h1, h2⟩ := List.cons.inj e
        obtain ⟨h3, h4⟩ := List.cons.inj h2
        exact ⟨b :: a :: xs, by subst h1; subst h3; subst h4; rfl, .swap a b xs⟩
    | trans p1 p2 ih1 ih2 =>
      intro xs e
      obtain ⟨zs, z1, z2⟩ := ih2 xs e
      obtain ⟨ws, w1, w2⟩ := ih1 zs z1
      exact ⟨ws, w1, w2.trans z2⟩
  exact key p xs rfl
theorem some_perm {m : Nat} {bs cs : List Int} (s : Some' m bs) (p : cs.Perm bs) : Some' m cs := ⟨fun b hb => s.rg b (p.mem_iff.mp hb), p.symm.pairwise s.nd fun h e => h e.symm⟩
theorem some_sub {m : Nat} {bs cs : List Int} (s : Some' m bs) (p : cs.Sublist bs) : Some' m cs := ⟨fun b hb => s.rg b (p.subset hb), s.nd.sublist p⟩
theorem some_len {m : Nat} {bs : List Int} (s : Some' m bs) : bs.length ≤ m := by
  have h : (bs.map Int.toNat).Nodup := List.pairwise_map.mpr (s.nd.imp_of_mem fun {a b} ha hb hne e => hne (by have := s.rg a ha; have := s.rg b hb; omega))
  have := List.Nodup.length_le_of_subset h (l₂ := List.range m) fun x hx => by
    obtain ⟨b, hb, e⟩ := List.mem_map.mp hx
    have := s.rg b hb
    exact List.mem_range.mpr (by omega)
  simpa using this
/-- literals with these boxes -/
theorem lits_of {m : Nat} {bs : List Int} (s : Some' m bs) {ls : List Lit} (e : ls.map (·.1) = bs) : (∀ l ∈ ls, 0 ≤ l.1 ∧ l.1 < m) ∧ ls.Pairwise fun a b => a.1 ≠ b.1 :=
  ⟨fun l hl => s.rg l.1 (by rw [← e]; exact List.mem_map.mpr ⟨l, hl, rfl⟩), List.pairwise_map.mp (by rw [e]; exact s.nd)⟩
theorem Over.add {m : Nat} {bs : List Int} {rs : List Rule} {r : Rule} (h : Over m bs rs) (w : Wf m r) (b : ∀ l ∈ r, l.1 ∈ bs) : Over m bs (rs ++ [r]) := fun x hx => by
  rcases List.mem_append.mp hx with z | z
  · exact h x z
  · rw [List.mem_singleton.mp z]; exact ⟨w, b⟩
theorem Over.wf {m : Nat} {bs : List Int} {rs : List Rule} (h : Over m bs rs) (hm : m ≤ 12) : ∀ r ∈ rs, r.length ≤ 12 := fun r hr => Nat.le_trans (h r hr).1.len hm
theorem len__law_grown : ∀ o ds Q, wp__law_grown o ds Q → ds.length + 1 = 3 := fun o ds Q ⟨c, m, bs, rs, _, _, e, _⟩ => by rw [e]; rfl
theorem rd__law_grown : ∀ o ds Q, wp__law_grown o ds Q → τ__law_grown (ends1 Q) (some o :: fzs ds ++ List.replicate (10 - (ds.length + 1)) none) := fun o ds Q ⟨c, m, bs, rs, pk, hc, e, sm, hm, ov, lrs, q⟩ => by
  subst e
  have hc : c + 3000 < 1000000 := hc
  have lb := some_len sm
  refine st_nrm rfl ?_
  unfold τ__law_grown
  walk_at "go"
  refine st_for ?_
  walk_at "go"
  refine ⟨c, 1, 4, pk, (by show _ < 1000000; omega), rfl, by omega, by omega, (by show _ ≤ 1000000; omega), fun n o1 hn pk1 => ?_⟩
  walk_at "go"
  refine ⟨szI (by omega) (by omega), ?_⟩
  rw [Int.toNat_natCast]
  refine forB_inv (List.range n) (fun (k : Nat) => PyData.int (k : Nat)) (fun i Γ' => ∃ (o' : O) (ss : List Rule) (x4 x5 x6 x7 : Option O), Γ' = [some o', some (.fz (.list (bs.map .int))), some (.fz (.list (rs.map dR))), some (.ls (ss.map dR)), x4, x5, x6, x7, none, none] ∧ PoolOk (c + 1 + 15 * i) o' ∧ ss.length ≤ i ∧ Over m bs ss) rfl ⟨o1, [], none, none, none, none, rfl, pk1, by simp, fun r hr => by simp at hr⟩ (fun i k Γ' ek w => ?_) (fun Γ' w => ?_)
  · obtain ⟨o2, ss, x4, x5, x6, x7, rfl, pk2, ls1, ov1⟩ := w
    have il : i < n := by have := (List.getElem?_eq_some_iff.mp ek).1; simpa using this
    walk_at "go"
    rw [List.length_map]
    refine br2 (fun c1 => ?_) (fun _ => ?_)
    · have r1 : 0 < rs.length := by have := of_decide_eq_true c1; omega
      walk_at "go"
      refine ⟨c + 1 + 15 * i, 2, rs.length, pk2, (by show _ < 1000000; omega), by rw [List.length_map]; rfl, by omega, by omega, (by show _ ≤ 1000000; omega), fun j o3 hj pk3 => ?_⟩
      walk_at "go"
      refine op_ixL j rfl (by rw [List.getElem?_map, List.getElem?_eq_getElem hj]; rfl) ?_
      have mr := ov rs[j] (List.getElem_mem hj)
      generalize rs[j] = r at mr
      obtain ⟨wr, br⟩ := mr
      have lr := wr.len
      walk_at "go"
      refine lc_map r dL (fun l => .int l.1) (fun QI q => by walk_at "go"; exact q) (Evl.sz_of (by omega)) (by exact plain1 (.inl rfl)) (fun l hl => ⟨_, _, rfl, fun QG q => ⟨_, rfl, q⟩, rfl, fun Q q => ?_⟩) ?_
      · walk_at "go"
        exact q
      walk_at "go"
      rw [show r.map (fun l => PyData.int l.1) = (r.map (·.1)).map PyData.int by rw [List.map_map]; rfl]
      refine lc_inv bs PyData.int (fun n acc Γ' => ∃ o' ls, Γ' = [some o', some (.fz (.list (bs.map .int))), some (.fz (.list (rs.map dR))), some (.ls (ss.map dR)), some (.fz (.int (k : Nat))), some (.fz (dR r)), some (.ls ((r.map (·.1)).map .int)), x7, none, none] ∧ acc = ls.map dL ∧ PoolOk (c + 1 + 15 * i + 1 + n) o' ∧ (ls.map (·.1)).Sublist (bs.take n) ∧ ∀ l ∈ ls, l.1 ∉ r.map (·.1)) (Γ1 := [some o3, some (.fz (.list (bs.map .int))), some (.fz (.list (rs.map dR))), some (.ls (ss.map dR)), some (.fz (.int (k : Nat))), some (.fz (dR r)), some (.ls ((r.map (·.1)).map .int)), x7, none, none]) (fun QI q => by walk_at "go"; exact q) (by exact plain1 (.inl rfl)) ⟨o3, [], rfl, rfl, pk3, by simp, by simp⟩ (fun n x acc Γ' ex' w _ => ?_) (fun acc Γ' w => ?_)
      · obtain ⟨o', ls, rfl, rfl, pk', sb, nh⟩ := w
        have il := (List.getElem?_eq_some_iff.mp ex').1
        have tk : bs.take (n + 1) = bs.take n ++ [x] := by rw [List.take_add_one, ex']; rfl
        have ll : ls.length ≤ n := by have := sb.length_le; rw [List.length_map, List.length_take] at this; omega
        refine ⟨_, rfl, ?_⟩
        walk_at "gb"
        refine op_notInLE (enc := PyData.int) enc_int (by decide) ?_
        walk_at "gb"
        refine br2 (fun c1 => ?_) (fun _ => ?_)
        · have nx : x ∉ r.map (·.1) := isIn_false.mp (by simpa using c1)
          walk_at "gb"
          refine ⟨c + 1 + 15 * i + 1 + n, 3, 2, pk', (by show _ < 1000000; omega), rfl, by omega, by omega, (by show _ ≤ 1000000; omega), fun n2 o4 hn2 pk4 => ?_⟩
          walk_at "go"
          exact ⟨by rw [List.length_map]; exact sz' (by omega), _, rfl, o4, ls ++ [(x, decide (((n2 : Nat) : Int) = 1))], rfl, by rw [List.map_append]; rfl, pk4, by rw [tk, List.map_append]; exact sb.append (List.Sublist.refl _), fun l hl => by
            rcases List.mem_append.mp hl with z | z
            · exact nh l z
            · rw [List.mem_singleton.mp z]; exact nx⟩
        · exact ⟨_, rfl, o', ls, rfl, rfl, pk'.mono (by omega), by rw [tk]; exact sb.trans (List.sublist_append_left _ _), nh⟩
      · obtain ⟨o', ls, rfl, rfl, pk', sb, nh⟩ := w
        rw [List.take_length] at sb
        walk_at "go"
        refine ⟨c + 1 + 15 * i + 1 + bs.length, 1, 3, pk', (by show _ < 1000000; omega), rfl, by omega, by omega, (by show _ ≤ 1000000; omega), fun t o4 ht pk4 => ?_⟩
        walk_at "go"
        rw [cut_upto, ← List.map_take]
        have sb2 : ((ls.take t).map (·.1)).Sublist bs := ((List.take_sublist _ _).map _).trans sb
        have nh2 : ∀ l ∈ ls.take t, l.1 ∉ r.map (·.1) := fun l hl => nh l (List.mem_of_mem_take hl)
        have l12 : (ls.take t).length ≤ 12 := by have := sb2.length_le; rw [List.length_map] at this; omega
        generalize hls : ls.take t = l2 at sb2 nh2 l12
        refine op_addL (Evl.sz_of (by rw [List.length_map, List.length_map]; omega)) ?_
        walk_at "go"
        have hrg : ∀ l ∈ r ++ l2, 0 ≤ l.1 ∧ l.1 < m := fun l hl => by
          rcases List.mem_append.mp hl with z | z
          · exact wr.rng l z
          · exact sm.rg _ (sb2.subset (List.mem_map.mpr ⟨l, z, rfl⟩))
        have hpw : (r ++ l2).Pairwise fun a b => a.1 ≠ b.1 := List.pairwise_append.mpr ⟨wr.inc.imp fun {a b} h => by omega, List.pairwise_map.mp (sm.nd.sublist sb2), fun a ha b hb e => nh2 b hb (by rw [← e]; exact List.mem_map.mpr ⟨a, ha, rfl⟩)⟩
        refine ⟨m, r ++ l2, by rw [List.map_append]; rfl, hrg, hpw, by rw [List.length_append]; omega, ?_⟩
        walk_at "go"
        refine st_appL rfl (by rw [List.length_map]; exact sz' (by omega)) rfl rfl ?_
        walk_at "go"
        exact ⟨o4, ss ++ [insR (r ++ l2)], _, _, _, _, (by rw [List.map_append]; rfl), pk4.mono (by omega), by rw [List.length_append]; show _ + 1 ≤ _; omega, ov1.add (insR_wf hrg hpw) fun l hl => by
          rcases List.mem_append.mp ((insR_perm _).mem_iff.mp hl) with z | z
          · exact br l z
          · exact sb2.subset (List.mem_map.mpr ⟨l, z, rfl⟩)⟩
    · walk_at "go"
      exact ⟨o2, ss, _, _, _, _, rfl, pk2.mono (by omega), by omega, ov1⟩
  · obtain ⟨o2, ss, x4, x5, x6, x7, rfl, pk2, ls1, ov1⟩ := w
    rw [List.length_range] at pk2 ls1
    walk_at "go"
    exact ⟨_, rfl, q ss o2 (by omega) ov1 (pk2.mono (by omega))⟩
end K18
end
section
open VL PySem L2
local macro_rules | `(tactic| walk_at "vs") => `(tactic| first
  | with_reducible (first | refine st_seq ?_ | refine st_ret ?_ | refine st_set ?_ | refine st_if ?_ | refine st_drop ?_ | refine st_next ?_ | refine st_par ?_ | refine st_asg ?_ | refine st_rt0 ?_ | refine st_nx0 ?_ | refine st_brk ?_ | refine st_cnt ?_ | refine st_retN ?_ | refine st_op ?_ | refine st_op1 ?_ | refine st_an ?_ | refine st_ac ?_ | refine st_cb ?_ | refine st_tup ?_ | refine st_lst ?_ | refine st_to ?_ | refine st_tru ?_ | refine st_tnot ?_ | refine st_tand ?_ | refine st_tor ?_ | refine st_and ?_ | refine st_or ?_ | refine st_not ?_ | refine st_eif ?_ | refine st_chain ?_ | refine st_call ?_ | refine st_calli ?_ | refine st_isi ?_ | refine st_lrg ?_ | refine st_trg ?_ | refine st_sl ?_ | refine st_pn ?_ | refine st_ps ?_ | refine st_iseq ?_ | refine st_ir1 ?_ | refine st_ir2 ?_ | refine st_yes ?_ | refine st_c ?_ | refine st_xo ?_ | refine st_ox ?_ | refine st_cbe ?_ | refine st_true ?_ | refine st_ixe ?_ | refine st_dnew ?_ | refine st_ao0 ?_ | refine st_ao ?_ | refine st_trl ?_ | refine st_callk ?_ | refine st_callB ?_ | refine st_put ?_ | refine st_dput ?_ | refine st_g0 ?_ | refine st_sme ?_ | refine st_sme0 ?_ | refine st_pute ?_ | refine st_par3 ?_ | refine st_xelD ?_ | refine st_cbd ?_ | refine st_truDE ?_ | refine st_ixD' ?_ | refine st_smd ?_ | refine st_smd0 ?_ | refine st_putD ?_ | refine st_tdl ?_ | refine st_idx ?_ | refine st_rev ?_)
  | (with_reducible show (sAugI _ _ _ _ _)); refine st_augI rfl ?_
  | (with_reducible show (xVar _ _ _)); refine st_var rfl ?_
  | (with_reducible show (xVal _ _ _)); (first | refine st_val rfl ?_ | refine st_valL rfl rfl rfl ?_)
  | (with_reducible show (oMv _ _ _)); (first | refine st_mv rfl ?_ | refine st_mvL rfl rfl ?_)
  | (with_reducible show (eIxS _ _ _ _)); (first | refine st_ixT rfl ?_ | refine st_ixLs rfl ?_ | refine st_ixF rfl ?_ | refine st_ixTr rfl ?_ | refine st_ixDic rfl rfl ?_)
  | (with_reducible show (eLenS _ _ _)); (first | refine st_lenT rfl ?_ | refine st_lenD _ rfl ?_)
  | (with_reducible show (eEl _ _ _ _)); refine st_el rfl ?_
  | (with_reducible show (eApp _ _ _ _ _)); (first | refine st_app (listG_ls rfl) ?_ | refine st_app (listG_tr rfl) ?_)
  | (with_reducible show (sPutS _ _ _ _ _ _)); (first | refine st_putS rfl ?_ | refine st_putSD rfl ?_)
  | (with_reducible show (eInS _ _ _ _)); (first | refine st_in rfl ?_ | refine st_din rfl ?_)
  | (with_reducible show (eNotInS _ _ _ _)); (first | refine st_notin rfl ?_ | refine st_dnotin rfl ?_)
  | (with_reducible show (tInS _ _ _ _)); (first | refine st_tin rfl ?_ | refine st_tdin rfl ?_)
  | (with_reducible show (tNotInS _ _ _ _)); (first | refine st_tnotin rfl ?_ | refine st_tdnotin rfl ?_)
  | (with_reducible show (sDel _ _ _ _)); refine st_del rfl ?_
  | (with_reducible show (eSM _ _ _ _ _)); refine st_sm rfl ?_
  | (with_reducible show (gN _ _ _ _)); refine st_gn rfl ?_
  | (with_reducible show (gConss _ _ _ _ _)); refine st_gc ?_
  | (with_reducible show (gTupD _ _ _ _ _)); refine st_gt rfl ?_
  | (with_reducible show (∃ d b, _ = some d ∧ kitD d _ = some b ∧ _)); (first | refine ⟨_, true, rfl, (rfl : kitD _ _ = some true), ?_⟩ | refine ⟨_, false, rfl, (rfl : kitD _ _ = some false), ?_⟩)
  | (with_reducible show (∃ _, _)); (first | refine ⟨_, rfl, ?_⟩ | refine ⟨_, _, rfl, rfl, ?_⟩ | refine ⟨_, _, _, rfl, rfl, rfl, ?_⟩ | refine ⟨_, _, _, _, rfl, rfl, rfl, ?_⟩ | refine ⟨_, _, _, _, rfl, rfl, rfl, rfl, ?_⟩ | refine ⟨_, _, _, rfl, .inl ⟨_, rfl, rfl, rfl⟩, ?_⟩)
  | (with_reducible show ((∃ _, _) ∧ _)); (first | refine ⟨⟨_, rfl, _, .inl rfl⟩, ?_⟩ | refine ⟨⟨_, rfl, [], .inr ⟨_, rfl⟩⟩, ?_⟩)
  | (with_reducible show (_ ≤ sizeLine ∧ _)); refine ⟨Evl.sz_of (Nat.le_of_ble_eq_true rfl), ?_⟩)
local macro_rules | `(tactic| walk_at "op") => `(tactic| first
  | (with_reducible show (opAdd _ _ _)); (first | refine op_addI ?_)
  | (with_reducible show (opSub _ _ _)); (first | refine op_subI ?_)
  | (with_reducible show (opLt _ _ _)); (first | refine op_ltI ?_)
  | (with_reducible show (opLe _ _ _)); (first | refine op_leI ?_)
  | (with_reducible show (opGt _ _ _)); (first | refine op_gtI ?_)
  | (with_reducible show (opGe _ _ _)); (first | refine op_geI ?_)
  | (with_reducible show (opEq _ _ _)); (first | refine op_eqI ?_ | refine op_eqB ?_)
  | (with_reducible show (opNe _ _ _)); (first | refine op_neI ?_ | refine op_neB ?_)
  | (with_reducible show (opIsN _ _ _)); (first | refine op_isNone ?_ | refine op_isInt ?_ | refine op_isTup ?_ | refine op_isBl ?_ | refine op_isSt ?_ | refine op_isLs ?_)
  | (with_reducible show (opNotN _ _ _)); (first | refine op_notNone ?_ | refine op_notTup ?_)
  | (with_reducible show (opIx _ _ _)); (first | refine op_ixT0 rfl ?_ | refine op_ixT1 rfl ?_ | refine op_ixT2 rfl ?_ | refine op_ixL0 rfl ?_ | refine op_ixL1 rfl ?_)
  | (with_reducible show (op1Neg _ _)); refine op1_negI ?_
  | (with_reducible show (cdLen _ _)); (first | refine cd_lenL ?_ | refine cd_lenT ?_)
  | (with_reducible show (cdInt _ _)); (first | refine cd_intI ?_ | refine cd_intB ?_)
  | (with_reducible show (cdTuple _ _)); (first | refine cd_tupL ?_ | refine cd_tupT ?_)
  | (with_reducible show (cdList _ _)); (first | refine cd_listL ?_ | refine cd_listT ?_)
  | (with_reducible show (cdAbs _ _)); (first | refine cd_absI ?_)
  | (with_reducible show (cdMin2 _ _)); (first | refine cd_min2I ?_)
  | (with_reducible show (cdMax2 _ _)); (first | refine cd_max2I ?_)
  | (with_reducible show (sdAll _ _ _ _)); (first | refine sd_T ?_ | refine sd_L ?_))
local macro_rules | `(tactic| walk_at "go") => `(tactic| repeat (first | walk_at "vs" | walk_at "op"))
local macro_rules | `(tactic| walk_at "gb") => `(tactic| repeat (first | walk_at "vs" | walk_at "op" | with_reducible (first | refine br_t ?_ | refine br_f ?_ | refine br_nt ?_ | refine br_nf ?_)))
namespace K18
open FM
theorem neg_neg' (l : Lit) : neg (neg l) = l := by unfold neg; simp
/-- two rules, but for box b: what they hold together -/
theorem join_ok {m : Nat} {one other : Rule} (w1 : Wf m one) (w2 : Wf m other) {b : Int} (hb : ∀ l ∈ one, neg l ∈ other → l.1 = b) :
    (∀ l ∈ (one.filter fun l => !decide (l.1 = b)) ++ (other.filter fun l => !decide (l.1 = b) && !isIn l (one.filter fun l => !decide (l.1 = b))), (l ∈ one ∨ l ∈ other)) ∧
    ((one.filter fun l => !decide (l.1 = b)) ++ (other.filter fun l => !decide (l.1 = b) && !isIn l (one.filter fun l => !decide (l.1 = b)))).Pairwise fun a b => a.1 ≠ b.1 := by
  refine ⟨fun l hl => ?_, List.pairwise_append.mpr ⟨(w1.inc.imp fun {a b} h => by omega).filter _, (w2.inc.imp fun {a b} h => by omega).filter _, fun x hx y hy e => ?_⟩⟩
  · rcases List.mem_append.mp hl with z | z
    · exact .inl (List.mem_filter.mp z).1
    · exact .inr (List.mem_filter.mp z).1
  · obtain ⟨x1, x2⟩ := List.mem_filter.mp hx
    obtain ⟨y1, y2⟩ := List.mem_filter.mp hy
    rw [Bool.and_eq_true] at y2
    have y3 : y ∉ one.filter fun l => !decide (l.1 = b) := isIn_false.mp (by simpa using y2.2)
    by_cases s : x.2 = y.2
    · exact y3 (by rw [← (Prod.ext e s : x = y)]; exact hx)
    · have en : neg x = y := Prod.ext e (by show (!x.2) = y.2; cases h1 : x.2 <;> cases h2 : y.2 <;> simp_all)
      have := hb x x1 (by rw [en]; exact y1)
      simp [this] at x2
theorem len__law_joins : ∀ o ds Q, wp__law_joins o ds Q → ds.length + 1 = 2 := fun o ds Q ⟨c, m, bs, rs, _, _, e, _⟩ => by rw [e]; rfl
theorem rd__law_joins : ∀ o ds Q, wp__law_joins o ds Q → τ__law_joins (ends1 Q) (some o :: fzs ds ++ List.replicate (8 - (ds.length + 1)) none) := fun o ds Q ⟨c, m, bs, rs, pk, hc, e, hm, ov, lrs, q⟩ => by
  subst e
  have hc : c + 3000 < 1000000 := hc
  refine st_nrm rfl ?_
  unfold τ__law_joins
  walk_at "go"
  refine for_inv rs dR (fun i Γ' => ∃ (ss : List Rule) (x3 x4 x5 x6 : Option O), Γ' = [some o, some (.fz (.list (rs.map dR))), some (.ls (ss.map dR)), x3, x4, x5, x6, none] ∧ ss.length ≤ 12 ∧ Over m bs ss) (Γ1 := [some o, some (.fz (.list (rs.map dR))), some (.ls []), none, none, none, none, none]) (fun QI q => by walk_at "go"; exact q) ⟨[], none, none, none, none, rfl, by simp, fun r hr => by simp at hr⟩ (fun i one Γ' e1 w => ?_) (fun Γ' w => ?_)
  · obtain ⟨ss, x3, x4, x5, x6, rfl, ls1, ov1⟩ := w
    obtain ⟨w1, b1⟩ := ov one (List.mem_of_getElem? e1)
    have l1 := w1.len
    refine st_gn rfl ?_
    refine for_inv rs dR (fun i Γ' => ∃ (ss : List Rule) (x4 x5 x6 : Option O), Γ' = [some o, some (.fz (.list (rs.map dR))), some (.ls (ss.map dR)), some (.fz (dR one)), x4, x5, x6, none] ∧ ss.length ≤ 12 ∧ Over m bs ss) (Γ1 := [some o, some (.fz (.list (rs.map dR))), some (.ls (ss.map dR)), some (.fz (dR one)), x4, x5, x6, none]) (fun QI q => by walk_at "go"; exact q) ⟨ss, x4, x5, x6, rfl, ls1, ov1⟩ (fun i other Γ' e2 w => ?_) (fun Γ' w => ?_)
    · obtain ⟨ss, x4, x5, x6, rfl, ls1, ov1⟩ := w
      obtain ⟨w2, b2⟩ := ov other (List.mem_of_getElem? e2)
      have l2 := w2.len
      walk_at "go"
      refine lc_go one dL (fun l => isIn (neg l) other) (fun l => .int l.1) (fun QI q => by walk_at "go"; exact q) (Evl.sz_of (by omega)) (by exact plain1 (.inl rfl)) (fun l hl => ⟨_, _, rfl, fun QG q => ⟨_, rfl, q⟩, rfl, fun Q q => ?_, fun _ Q q => ?_⟩) ?_
      · refine st_tin rfl ?_
        walk_at "go"
        refine ⟨l, rfl, ?_⟩
        walk_at "go"
        refine op_inE (enc := dL) enc_L (by decide) ?_
        exact ⟨_, rfl, q⟩
      · walk_at "go"
        exact q
      walk_at "go"
      rw [List.length_map]
      refine br2 (fun c1 => ?_) (fun _ => ?_)
      · walk_at "go"
        rw [List.length_map]
        refine br2 (fun c2 => ?_) (fun _ => ?_)
        · have k1 : (one.filter fun l => isIn (neg l) other).length = 1 := by have := of_decide_eq_true c1; omega
          have k2 : ss.length < 12 := by have := of_decide_eq_true c2; omega
          obtain ⟨lb, elb⟩ := List.length_eq_one_iff.mp k1
          rw [elb]
          have hb : ∀ l ∈ one, neg l ∈ other → l.1 = lb.1 := fun l hl hn => by
            have : l ∈ one.filter fun l => isIn (neg l) other := List.mem_filter.mpr ⟨hl, isIn_iff.mpr hn⟩
            rw [elb] at this
            rw [List.mem_singleton.mp this]
          generalize hbb : lb.1 = b at hb
          walk_at "go"
          rw [show (([lb].map fun l => PyData.int l.1)) = [.int b] by rw [← hbb]; rfl]
          refine lc_go one dL (fun l => !decide (l.1 = b)) dL (fun QI q => by walk_at "go"; exact q) (Evl.sz_of (by omega)) (by exact plain1 (.inl rfl)) (fun l hl => ⟨_, _, rfl, fun QG q => ⟨_, rfl, q⟩, rfl, fun Q q => ?_, fun _ Q q => ?_⟩) ?_
          · walk_at "go"
            exact q
          · walk_at "go"
            exact q
          walk_at "go"
          obtain ⟨ok1, ok2⟩ := join_ok w1 w2 hb
          have lf1 : (one.filter fun l => !decide (l.1 = b)).length ≤ 12 := by have := List.length_filter_le (fun l : Lit => !decide (l.1 = b)) one; omega
          have lf2 : (other.filter fun l => !decide (l.1 = b) && !isIn l (one.filter fun l => !decide (l.1 = b))).length ≤ 12 := by have := List.length_filter_le (fun l : Lit => !decide (l.1 = b) && !isIn l (one.filter fun l => !decide (l.1 = b))) other; omega
          generalize eL : (one.filter fun l => !decide (l.1 = b)) = left at ok1 ok2 lf1 lf2
          refine lc_go other dL (fun l => !decide (l.1 = b) && !isIn l left) dL (fun QI q => by walk_at "go"; exact q) (Evl.sz_of (by omega)) (by exact plain1 (.inl rfl)) (fun l hl => ⟨_, _, rfl, fun QG q => ⟨_, rfl, q⟩, rfl, fun Q q => ?_, fun _ Q q => ?_⟩) ?_
          · walk_at "go"
            cases hd : decide (l.1 = b) with
            | true =>
              rw [hd] at q
              walk_at "gb"
              exact q
            | false =>
              rw [hd] at q
              walk_at "gb"
              refine op_notInLE (enc := dL) enc_L (by decide) ?_
              exact ⟨_, rfl, by simpa using q⟩
          · walk_at "go"
            exact q
          walk_at "go"
          refine op_addL (Evl.sz_of (by rw [List.length_map, List.length_map]; omega)) ?_
          walk_at "go"
          have hrg : ∀ l ∈ left ++ other.filter (fun l => !decide (l.1 = b) && !isIn l left), 0 ≤ l.1 ∧ l.1 < m := fun l hl => by
            rcases ok1 l hl with z | z
            · exact w1.rng l z
            · exact w2.rng l z
          refine ⟨m, left ++ other.filter (fun l => !decide (l.1 = b) && !isIn l left), by rw [List.map_append]; rfl, hrg, ok2, by rw [List.length_append]; omega, ?_⟩
          walk_at "go"
          refine st_appL rfl (by rw [List.length_map]; exact sz' (by omega)) rfl rfl ?_
          walk_at "go"
          exact ⟨ss ++ [insR (left ++ other.filter (fun l => !decide (l.1 = b) && !isIn l left))], _, _, _, (by rw [List.map_append]; rfl), by rw [List.length_append]; show _ + 1 ≤ _; omega, ov1.add (insR_wf hrg ok2) fun l hl => by
            rcases ok1 l ((insR_perm _).mem_iff.mp hl) with z | z
            · exact b1 l z
            · exact b2 l z⟩
        · walk_at "go"
          exact ⟨ss, _, _, _, rfl, ls1, ov1⟩
      · walk_at "go"
        refine br2 (fun z => by cases z) (fun _ => ?_)
        walk_at "go"
        exact ⟨ss, _, _, _, rfl, ls1, ov1⟩
    · obtain ⟨ss, x4, x5, x6, rfl, ls1, ov1⟩ := w
      exact ⟨ss, _, _, _, _, rfl, ls1, ov1⟩
  · obtain ⟨ss, x3, x4, x5, x6, rfl, ls1, ov1⟩ := w
    walk_at "go"
    refine ⟨c, ss.map dR, pk, (by show _ < 1000000; omega), rfl, by rw [List.length_map]; omega, fun ys o2 pm pk2 => ?_⟩
    obtain ⟨ts, rfl, pt⟩ := perm_map pm
    rw [List.length_map] at pk2
    walk_at "go"
    refine ⟨c + ss.length, 2, 4, pk2, (by show _ < 1000000; omega), rfl, by omega, by omega, (by show _ ≤ 1000000; omega), fun n o3 hn pk3 => ?_⟩
    walk_at "go"
    rw [cut_upto, ← List.map_take]
    exact ⟨_, rfl, q (ts.take n) o3 (by rw [List.length_take]; omega) (fun r hr => ov1 r (pt.mem_iff.mp (List.mem_of_mem_take hr))) (pk3.mono (by omega))⟩
theorem cut_two {α : Type} (xs : List α) (a b : Nat) (h : a ≤ b) : cutL xs (some ((a : Nat) : Int)) (some ((b : Nat) : Int)) = (xs.drop a).take (b - a) := by
  unfold cutL
  rw [HT.sIx_nat, HT.sIx_nat]
  apply List.ext_getElem?
  intro n
  rw [List.getElem?_take, List.getElem?_take, List.getElem?_drop, List.getElem?_drop]
  rcases Nat.le_total a xs.length with z | z
  · rw [Nat.min_eq_left z]
    by_cases c1 : n < min b xs.length - a
    · rw [if_pos c1, if_pos (by omega)]
    · rw [if_neg c1]
      by_cases c2 : n < b - a
      · rw [if_pos c2, List.getElem?_eq_none (by omega)]
      · rw [if_neg c2]
  · rw [Nat.min_eq_right z, if_neg (by omega)]
    split
    · rw [List.getElem?_eq_none (by omega)]
    · rfl
theorem len__law_fours : ∀ ds Q, wp__law_fours ds Q → ds.length = 1 := fun ds Q ⟨m, row, e, _⟩ => by rw [e]; rfl
theorem rd__law_fours : ∀ ds Q, wp__law_fours ds Q → τ__law_fours (ends0 Q) (fzs ds ++ List.replicate (3 - ds.length) none) := fun ds Q ⟨m, row, e, h3, h12, hr, hd, q⟩ => by
  subst e
  obtain ⟨a, b, c, rest, rfl⟩ : ∃ a b c rest, row = a :: b :: c :: rest := by
    match row, h3 with
    | a :: b :: c :: rest, _ => exact ⟨a, b, c, rest, rfl⟩
  have ha := hr a (by simp)
  have hb := hr b (by simp)
  have hc := hr c (by simp)
  obtain ⟨d1, d2⟩ := List.pairwise_cons.mp hd
  obtain ⟨d3, d4⟩ := List.pairwise_cons.mp d2
  have nab := d1 b (by simp)
  have nac := d1 c (by simp)
  have nbc := d3 c (by simp)
  refine st_nrm rfl ?_
  unfold τ__law_fours
  walk_at "go"
  refine for_inv (List.range 4) (fun (i : Nat) => PyData.int (i : Nat)) (fun i Γ' => ∃ x2, Γ' = [some (.fz (.list ((a :: b :: c :: rest).map dL))), some (.ls (((List.range i).map (fun (n : Nat) => insR [a, (b.1, decide (1 < n)), (c.1, decide (n % 2 = 1))])).map dR)), x2]) (Γ1 := [some (.fz (.list ((a :: b :: c :: rest).map dL))), some (.ls []), none]) (fun QI q => ?_) ⟨none, rfl⟩ (fun i k Γ' ek w => ?_) (fun Γ' w => ?_)
  · walk_at "go"
    exact ⟨szI (by omega) (by omega), q⟩
  · obtain ⟨x2, rfl⟩ := w
    obtain ⟨il, rfl⟩ : i < 4 ∧ i = k := by
      obtain ⟨h1, h2⟩ := List.getElem?_eq_some_iff.mp ek
      rw [List.length_range] at h1
      rw [List.getElem_range] at h2
      exact ⟨h1, h2⟩
    walk_at "go"
    refine op_ixL 2 rfl rfl ?_
    walk_at "go"
    refine op_modI (by omega) ?_
    walk_at "go"
    rw [show decide ((1 : Int) < ((i : Nat) : Int)) = decide (1 < i) by congr 1; exact propext ⟨fun h => by omega, fun h => by omega⟩, show decide (((i : Nat) : Int) % 2 = 1) = decide (i % 2 = 1) by congr 1; exact propext ⟨fun h => by omega, fun h => by omega⟩]
    refine ⟨m, [a, (b.1, decide (1 < i)), (c.1, decide (i % 2 = 1))], rfl, fun l hl => ?_, by simp [nab, nac, nbc], by simp, ?_⟩
    · simp only [List.mem_cons, List.not_mem_nil, or_false] at hl
      rcases hl with rfl | rfl | rfl
      · exact ha
      · exact hb
      · exact hc
    walk_at "go"
    refine st_appL rfl (by rw [List.length_map, List.length_map, List.length_range]; exact sz' (by omega)) rfl rfl ?_
    walk_at "go"
    exact ⟨_, by rw [List.range_succ, List.map_append, List.map_append]; rfl⟩
  · obtain ⟨x2, rfl⟩ := w
    rw [List.length_range]
    walk_at "go"
    rw [show (some (1 : Int)) = some (((1 : Nat) : Nat) : Int) from rfl, cut_upto]
    walk_at "go"
    rw [show (some (3 : Int)) = some (((3 : Nat) : Nat) : Int) from rfl, show (some (4 : Int)) = some (((4 : Nat) : Nat) : Int) from rfl, cut_two _ 3 4 (by omega), ← List.map_take, ← List.map_drop, ← List.map_take]
    have s1 : ((a :: b :: c :: rest).take 1 ++ ((a :: b :: c :: rest).drop 3).take (4 - 3)).Sublist (a :: b :: c :: rest) := by
      show ([a] ++ rest.take 1).Sublist (a :: b :: c :: rest)
      exact ((List.take_sublist 1 rest).trans ((List.sublist_cons_self c rest).trans (List.sublist_cons_self b _))).cons₂ a
    have lt : ((a :: b :: c :: rest).take 1 ++ ((a :: b :: c :: rest).drop 3).take (4 - 3)).length ≤ 12 := Nat.le_trans s1.length_le h12
    refine op_addL (Evl.sz_of (by rw [List.length_map, List.length_map, ← List.length_append]; omega)) ?_
    walk_at "go"
    refine ⟨m, (a :: b :: c :: rest).take 1 ++ ((a :: b :: c :: rest).drop 3).take (4 - 3), by rw [List.map_append]; rfl, fun l hl => hr l (s1.subset hl), hd.sublist s1, by omega, ?_⟩
    walk_at "go"
    refine op_addL (Evl.sz_of (by rw [List.length_map, List.length_map, List.length_range]; show 4 + 1 ≤ _; omega)) ?_
    have := q
    unfold foursS at this
    rw [List.map_append] at this
    exact this
end K18
end
section
open VL PySem L2
local macro_rules | `(tactic| walk_at "vs") => `(tactic| first
  | with_reducible (first | refine st_seq ?_ | refine st_ret ?_ | refine st_set ?_ | refine st_if ?_ | refine st_drop ?_ | refine st_next ?_ | refine st_par ?_ | refine st_asg ?_ | refine st_rt0 ?_ | refine st_nx0 ?_ | refine st_brk ?_ | refine st_cnt ?_ | refine st_retN ?_ | refine st_op ?_ | refine st_op1 ?_ | refine st_an ?_ | refine st_ac ?_ | refine st_cb ?_ | refine st_tup ?_ | refine st_lst ?_ | refine st_to ?_ | refine st_tru ?_ | refine st_tnot ?_ | refine st_tand ?_ | refine st_tor ?_ | refine st_and ?_ | refine st_or ?_ | refine st_not ?_ | refine st_eif ?_ | refine st_chain ?_ | refine st_call ?_ | refine st_calli ?_ | refine st_isi ?_ | refine st_lrg ?_ | refine st_trg ?_ | refine st_sl ?_ | refine st_pn ?_ | refine st_ps ?_ | refine st_iseq ?_ | refine st_ir1 ?_ | refine st_ir2 ?_ | refine st_yes ?_ | refine st_c ?_ | refine st_xo ?_ | refine st_ox ?_ | refine st_cbe ?_ | refine st_true ?_ | refine st_ixe ?_ | refine st_dnew ?_ | refine st_ao0 ?_ | refine st_ao ?_ | refine st_trl ?_ | refine st_callk ?_ | refine st_callB ?_ | refine st_put ?_ | refine st_dput ?_ | refine st_g0 ?_ | refine st_sme ?_ | refine st_sme0 ?_ | refine st_pute ?_ | refine st_par3 ?_ | refine st_xelD ?_ | refine st_cbd ?_ | refine st_truDE ?_ | refine st_ixD' ?_ | refine st_smd ?_ | refine st_smd0 ?_ | refine st_putD ?_ | refine st_tdl ?_ | refine st_idx ?_ | refine st_rev ?_)
  | (with_reducible show (sAugI _ _ _ _ _)); refine st_augI rfl ?_
  | (with_reducible show (xVar _ _ _)); refine st_var rfl ?_
  | (with_reducible show (xVal _ _ _)); (first | refine st_val rfl ?_ | refine st_valL rfl rfl rfl ?_)
  | (with_reducible show (oMv _ _ _)); (first | refine st_mv rfl ?_ | refine st_mvL rfl rfl ?_)
  | (with_reducible show (eIxS _ _ _ _)); (first | refine st_ixT rfl ?_ | refine st_ixLs rfl ?_ | refine st_ixF rfl ?_ | refine st_ixTr rfl ?_ | refine st_ixDic rfl rfl ?_)
  | (with_reducible show (eLenS _ _ _)); (first | refine st_lenT rfl ?_ | refine st_lenD _ rfl ?_)
  | (with_reducible show (eEl _ _ _ _)); refine st_el rfl ?_
  | (with_reducible show (eApp _ _ _ _ _)); (first | refine st_app (listG_ls rfl) ?_ | refine st_app (listG_tr rfl) ?_)
  | (with_reducible show (sPutS _ _ _ _ _ _)); (first | refine st_putS rfl ?_ | refine st_putSD rfl ?_)
  | (with_reducible show (eInS _ _ _ _)); (first | refine st_in rfl ?_ | refine st_din rfl ?_)
  | (with_reducible show (eNotInS _ _ _ _)); (first | refine st_notin rfl ?_ | refine st_dnotin rfl ?_)
  | (with_reducible show (tInS _ _ _ _)); (first | refine st_tin rfl ?_ | refine st_tdin rfl ?_)
  | (with_reducible show (tNotInS _ _ _ _)); (first | refine st_tnotin rfl ?_ | refine st_tdnotin rfl ?_)
  | (with_reducible show (sDel _ _ _ _)); refine st_del rfl ?_
  | (with_reducible show (eSM _ _ _ _ _)); refine st_sm rfl ?_
  | (with_reducible show (gN _ _ _ _)); refine st_gn rfl ?_
  | (with_reducible show (gConss _ _ _ _ _)); refine st_gc ?_
  | (with_reducible show (gTupD _ _ _ _ _)); refine st_gt rfl ?_
  | (with_reducible show (∃ d b, _ = some d ∧ kitD d _ = some b ∧ _)); (first | refine ⟨_, true, rfl, (rfl : kitD _ _ = some true), ?_⟩ | refine ⟨_, false, rfl, (rfl : kitD _ _ = some false), ?_⟩)
  | (with_reducible show (∃ _, _)); (first | refine ⟨_, rfl, ?_⟩ | refine ⟨_, _, rfl, rfl, ?_⟩ | refine ⟨_, _, _, rfl, rfl, rfl, ?_⟩ | refine ⟨_, _, _, _, rfl, rfl, rfl, ?_⟩ | refine ⟨_, _, _, _, rfl, rfl, rfl, rfl, ?_⟩ | refine ⟨_, _, _, rfl, .inl ⟨_, rfl, rfl, rfl⟩, ?_⟩)
  | (with_reducible show ((∃ _, _) ∧ _)); (first | refine ⟨⟨_, rfl, _, .inl rfl⟩, ?_⟩ | refine ⟨⟨_, rfl, [], .inr ⟨_, rfl⟩⟩, ?_⟩)
  | (with_reducible show (_ ≤ sizeLine ∧ _)); refine ⟨Evl.sz_of (Nat.le_of_ble_eq_true rfl), ?_⟩)
local macro_rules | `(tactic| walk_at "op") => `(tactic| first
  | (with_reducible show (opAdd _ _ _)); (first | refine op_addI ?_)
  | (with_reducible show (opSub _ _ _)); (first | refine op_subI ?_)
  | (with_reducible show (opLt _ _ _)); (first | refine op_ltI ?_)
  | (with_reducible show (opLe _ _ _)); (first | refine op_leI ?_)
  | (with_reducible show (opGt _ _ _)); (first | refine op_gtI ?_)
  | (with_reducible show (opGe _ _ _)); (first | refine op_geI ?_)
  | (with_reducible show (opEq _ _ _)); (first | refine op_eqI ?_ | refine op_eqB ?_)
  | (with_reducible show (opNe _ _ _)); (first | refine op_neI ?_ | refine op_neB ?_)
  | (with_reducible show (opIsN _ _ _)); (first | refine op_isNone ?_ | refine op_isInt ?_ | refine op_isTup ?_ | refine op_isBl ?_ | refine op_isSt ?_ | refine op_isLs ?_)
  | (with_reducible show (opNotN _ _ _)); (first | refine op_notNone ?_ | refine op_notTup ?_)
  | (with_reducible show (opIx _ _ _)); (first | refine op_ixT0 rfl ?_ | refine op_ixT1 rfl ?_ | refine op_ixT2 rfl ?_ | refine op_ixL0 rfl ?_ | refine op_ixL1 rfl ?_)
  | (with_reducible show (op1Neg _ _)); refine op1_negI ?_
  | (with_reducible show (cdLen _ _)); (first | refine cd_lenL ?_ | refine cd_lenT ?_)
  | (with_reducible show (cdInt _ _)); (first | refine cd_intI ?_ | refine cd_intB ?_)
  | (with_reducible show (cdTuple _ _)); (first | refine cd_tupL ?_ | refine cd_tupT ?_)
  | (with_reducible show (cdList _ _)); (first | refine cd_listL ?_ | refine cd_listT ?_)
  | (with_reducible show (cdAbs _ _)); (first | refine cd_absI ?_)
  | (with_reducible show (cdMin2 _ _)); (first | refine cd_min2I ?_)
  | (with_reducible show (cdMax2 _ _)); (first | refine cd_max2I ?_)
  | (with_reducible show (sdAll _ _ _ _)); (first | refine sd_T ?_ | refine sd_L ?_))
local macro_rules | `(tactic| walk_at "go") => `(tactic| repeat (first | walk_at "vs" | walk_at "op"))
local macro_rules | `(tactic| walk_at "gb") => `(tactic| repeat (first | walk_at "vs" | walk_at "op" | with_reducible (first | refine br_t ?_ | refine br_f ?_ | refine br_nt ?_ | refine br_nf ?_)))
namespace K18
open FM
theorem op_ixLast {ds : List PyData} {d : PyData} {Q : O → Prop} (e : ds.getLast? = some d) (h : Q (.fz d)) : opIx (.tuple ds) (.int (-1)) Q := by
  refine ⟨d, ?_, h⟩
  rcases List.eq_nil_or_concat ds with rfl | ⟨ds', x, rfl⟩
  · cases e
  · rw [List.concat_eq_append] at e ⊢
    rw [List.getLast?_append] at e
    have e : x = d := by simpa using e
    rw [e]
    exact atI_last _ _
theorem op_ixLastL {ds : List PyData} {d : PyData} {Q : O → Prop} (e : ds.getLast? = some d) (h : Q (.fz d)) : opIx (.list ds) (.int (-1)) Q := op_ixLast (ds := ds) e h
/-- two literals of a row -/
theorem pair_ok {m : Nat} {bs : List Int} {a b : Lit} (ha : 0 ≤ a.1 ∧ a.1 < m) (hb : 0 ≤ b.1 ∧ b.1 < m) (ia : a.1 ∈ bs) (ib : b.1 ∈ bs) (ne : a.1 ≠ b.1) :
    (∀ l ∈ [a, b], 0 ≤ l.1 ∧ l.1 < m) ∧ [a, b].Pairwise (fun x y => x.1 ≠ y.1) ∧ Wf m (insR [a, b]) ∧ ∀ l ∈ insR [a, b], l.1 ∈ bs := by
  have h1 : ∀ l ∈ [a, b], 0 ≤ l.1 ∧ l.1 < m := fun l hl => by
    rcases List.mem_cons.mp hl with e | e
    · rw [e]; exact ha
    · rw [List.mem_singleton.mp e]; exact hb
  have h2 : [a, b].Pairwise fun x y => x.1 ≠ y.1 := by simp [ne]
  refine ⟨h1, h2, insR_wf h1 h2, fun l hl => ?_⟩
  rcases List.mem_cons.mp ((insR_perm _).mem_iff.mp hl) with e | e
  · rw [e]; exact ia
  · rw [List.mem_singleton.mp e]; exact ib
theorem one_wf {m : Nat} {a : Lit} (ha : 0 ≤ a.1 ∧ a.1 < m) : Wf m [a] := ⟨fun l hl => by rw [List.mem_singleton.mp hl]; exact ha, by simp⟩
theorem fours_over {m : Nat} {bs : List Int} {row : List Lit} (h3 : 3 ≤ row.length) (hr : ∀ l ∈ row, 0 ≤ l.1 ∧ l.1 < m) (hd : row.Pairwise fun a b => a.1 ≠ b.1) (hb : ∀ l ∈ row, l.1 ∈ bs) : Over m bs (foursS row) := by
  obtain ⟨a, b, c, rest, rfl⟩ : ∃ a b c rest, row = a :: b :: c :: rest := by
    match row, h3 with
    | a :: b :: c :: rest, _ => exact ⟨a, b, c, rest, rfl⟩
  obtain ⟨d1, d2⟩ := List.pairwise_cons.mp hd
  obtain ⟨d3, d4⟩ := List.pairwise_cons.mp d2
  have nab := d1 b (by simp)
  have nac := d1 c (by simp)
  have nbc := d3 c (by simp)
  intro r hr2
  unfold foursS at hr2
  rcases List.mem_append.mp hr2 with z | z
  · obtain ⟨n, hn, rfl⟩ := List.mem_map.mp z
    have key : ∀ l ∈ [a, (b.1, decide (1 < n)), (c.1, decide (n % 2 = 1))], (0 ≤ l.1 ∧ l.1 < m) ∧ l.1 ∈ bs := fun l hl => by
      simp only [List.mem_cons, List.not_mem_nil, or_false] at hl
      rcases hl with rfl | rfl | rfl
      · exact ⟨hr l (by simp), hb l (by simp)⟩
      · exact ⟨hr b (by simp), hb b (by simp)⟩
      · exact ⟨hr c (by simp), hb c (by simp)⟩
    exact ⟨insR_wf (fun l hl => (key l hl).1) (by simp [nab, nac, nbc]), fun l hl => (key l ((insR_perm _).mem_iff.mp hl)).2⟩
  · rw [List.mem_singleton.mp z]
    have s1 : ((a :: b :: c :: rest).take 1 ++ ((a :: b :: c :: rest).drop 3).take 1).Sublist (a :: b :: c :: rest) := by
      show ([a] ++ rest.take 1).Sublist (a :: b :: c :: rest)
      exact ((List.take_sublist 1 rest).trans ((List.sublist_cons_self c rest).trans (List.sublist_cons_self b _))).cons₂ a
    exact ⟨insR_wf (fun l hl => hr l (s1.subset hl)) (hd.sublist s1), fun l hl => hb l (s1.subset ((insR_perm _).mem_iff.mp hl))⟩
theorem op_ixPrev {row : List Lit} {k : Nat} (hk : k < row.length) {Q : O → Prop} (h : ∀ p (hp : p < row.length), (1 < row.length → p ≠ k) → Q (.fz (dL row[p]))) : opIx (.list (row.map dL)) (.int (((k : Nat) : Int) - 1)) Q := by
  cases k with
  | zero =>
    have hp : row.length - 1 < row.length := by omega
    have e : (row.map dL).getLast? = some (dL row[row.length - 1]) := by rw [List.getLast?_eq_getElem?, List.length_map, List.getElem?_map, List.getElem?_eq_getElem hp]; rfl
    exact op_ixLastL e (h (row.length - 1) hp (by omega))
  | succ k => exact op_ixL k (by omega) (by rw [List.getElem?_map, List.getElem?_eq_getElem (by omega : k < row.length)]; rfl) (h k _ fun _ => Nat.ne_of_lt (Nat.lt_succ_self k))
theorem len__law_made : ∀ o ds Q, wp__law_made o ds Q → ds.length + 1 = 2 := fun o ds Q ⟨c, m, bs, _, _, e, _⟩ => by rw [e]; rfl
theorem rd__law_made : ∀ o ds Q, wp__law_made o ds Q → τ__law_made (ends1 Q) (some o :: fzs ds ++ List.replicate (9 - (ds.length + 1)) none) := fun o ds Q ⟨c, m, bs, pk, hc, e, sm, hm, h1, q⟩ => by
  subst e
  have hc : c + 4000 < 1000000 := hc
  have lb := some_len sm
  refine st_nrm rfl ?_
  unfold τ__law_made
  refine seq_cut (fun Γ' => ∃ (o' : O) (row : List Lit), Γ' = [some o', some (.fz (.list (bs.map .int))), some (.ls (row.map dL)), none, none, none, none, none, none] ∧ PoolOk (c + 24) o' ∧ (row.map (·.1)).Perm bs) (fun nx hnx => ?_) (fun Γ' w => ?_)
  · refine st_set ?_
    refine st_lc ?_
    walk_at "go"
    refine ⟨c, bs.map .int, pk, (by show _ < 1000000; omega), rfl, by rw [List.length_map]; omega, fun ys o2 pm pk2 => ?_⟩
    rw [List.length_map] at pk2
    obtain ⟨cs, rfl, pc⟩ := perm_map pm
    have lc := pc.length_eq
    walk_at "go"
    refine lcB_inv cs PyData.int (fun i acc Γ' => ∃ (o' : O) (ls : List Lit), Γ' = [some o', some (.fz (.list (bs.map .int))), none, none, none, none, none, none, none] ∧ acc = ls.map dL ∧ PoolOk (c + bs.length + i) o' ∧ ls.map (·.1) = cs.take i) rfl (by exact plain1 (.inl rfl)) ⟨o2, [], rfl, rfl, pk2, rfl⟩ (fun i x acc Γ' ex w _ => ?_) (fun acc Γ' w => ?_)
    · obtain ⟨o', ls, rfl, rfl, pk', el⟩ := w
      have il := (List.getElem?_eq_some_iff.mp ex).1
      have tk : cs.take (i + 1) = cs.take i ++ [x] := by rw [List.take_add_one, ex]; rfl
      have ll : ls.length ≤ i := by have := congrArg List.length el; rw [List.length_map, List.length_take] at this; omega
      refine ⟨_, rfl, ?_⟩
      walk_at "gb"
      refine ⟨c + bs.length + i, 3, 2, pk', (by show _ < 1000000; omega), rfl, by omega, by omega, (by show _ ≤ 1000000; omega), fun n2 o4 hn2 pk4 => ?_⟩
      walk_at "go"
      exact ⟨by rw [List.length_map]; exact sz' (by omega), _, rfl, o4, ls ++ [(x, decide (((n2 : Nat) : Int) = 1))], rfl, by rw [List.map_append]; rfl, pk4, by rw [tk, List.map_append, el]; rfl⟩
    · obtain ⟨o', ls, rfl, rfl, pk', el⟩ := w
      rw [List.take_length] at el
      exact ⟨_, rfl, hnx _ ⟨o', ls, rfl, pk'.mono (by omega), by rw [el]; exact pc⟩⟩
  obtain ⟨o1, row, rfl, pk1, rp⟩ := w
  have lr : row.length = bs.length := by have := rp.length_eq; rwa [List.length_map] at this
  have sr : Some' m (row.map (·.1)) := some_perm sm rp
  obtain ⟨rg, nd⟩ := lits_of sr rfl
  have inb : ∀ l ∈ row, l.1 ∈ bs := fun l hl => rp.mem_iff.mp (List.mem_map.mpr ⟨l, hl, rfl⟩)
  have ndj : ∀ i j : Nat, (hi : i < row.length) → (hj : j < row.length) → i ≠ j → row[i].1 ≠ row[j].1 := fun i j hi hj ne => by
    rcases Nat.lt_or_gt_of_ne ne with z | z
    · exact (List.pairwise_iff_getElem.mp nd) i j hi hj z
    · exact fun e => (List.pairwise_iff_getElem.mp nd) j i hj hi z e.symm
  have l3 : (∀ a b cc rest, row = a :: b :: cc :: rest → (0 ≤ a.1 ∧ a.1 < m) ∧ (0 ≤ b.1 ∧ b.1 < m) ∧ (0 ≤ cc.1 ∧ cc.1 < m) ∧ a.1 ∈ bs ∧ b.1 ∈ bs ∧ cc.1 ∈ bs ∧ a.1 ≠ b.1 ∧ a.1 ≠ cc.1 ∧ b.1 ≠ cc.1) := fun a b cc rest e => by
    subst e
    obtain ⟨d1, d2⟩ := List.pairwise_cons.mp nd
    obtain ⟨d3, d4⟩ := List.pairwise_cons.mp d2
    exact ⟨rg a (by simp), rg b (by simp), rg cc (by simp), inb a (by simp), inb b (by simp), inb cc (by simp), d1 b (by simp), d1 cc (by simp), d3 cc (by simp)⟩
  have l2 : (∀ a b rest, row = a :: b :: rest → (0 ≤ a.1 ∧ a.1 < m) ∧ (0 ≤ b.1 ∧ b.1 < m) ∧ a.1 ∈ bs ∧ b.1 ∈ bs ∧ a.1 ≠ b.1) := fun a b rest e => by
    subst e
    obtain ⟨d1, d2⟩ := List.pairwise_cons.mp nd
    exact ⟨rg a (by simp), rg b (by simp), inb a (by simp), inb b (by simp), d1 b (by simp)⟩
  refine seq_cut (fun Γ' => ∃ (o' : O) (way : Nat), Γ' = [some o', some (.fz (.list (bs.map .int))), some (.ls (row.map dL)), some (.fz (.int (way : Nat))), none, none, none, none, none] ∧ PoolOk (c + 25) o') (fun nx hnx => ?_) (fun Γ' w => ?_)
  · walk_at "go"
    refine ⟨c + 24, 4, 9, pk1, (by show _ < 1000000; omega), rfl, by omega, by omega, (by show _ ≤ 1000000; omega), fun way o2 hw pk2 => ?_⟩
    walk_at "go"
    exact hnx _ ⟨o2, way, rfl, pk2⟩
  obtain ⟨o2, way, rfl, pk2⟩ := w
  refine seq_cut (fun Γ' => Γ' = [some o2, some (.fz (.list (bs.map .int))), some (.ls (row.map dL)), some (.fz (.int (way : Nat))), some (.ls []), none, none, none, none]) (fun nx hnx => ?_) (fun Γ' w => ?_)
  · walk_at "go"
    exact hnx _ rfl
  subst w
  refine seq_cut (fun Γ' => ∃ (o' : O) (rs : List Rule) (x2 x5 : Option O), Γ' = [some o', some (.fz (.list (bs.map .int))), x2, some (.fz (.int (way : Nat))), some (.ls (rs.map dR)), x5, none, none, none] ∧ (x2 = some (.ls (row.map dL)) ∨ x2 = some (.fz (.list (row.map dL))) ∧ 6 < way) ∧ rs.length ≤ 5 ∧ Over m bs rs ∧ PoolOk (c + 26) o') (fun nx hnx => ?_) (fun Γ' w => ?_)
  · walk_at "go"
    refine br2 (fun c1 => ?_) (fun _ => ?_)
    case refine_2 =>
      walk_at "go"
      refine br2 (fun z => by cases z) (fun _ => ?_)
      walk_at "go"
      exact hnx _ ⟨o2, [], _, none, rfl, .inl rfl, by simp, fun r hr => by simp at hr, pk2.mono (by omega)⟩
    have h6 : 6 < way := by have := of_decide_eq_true c1; omega
    walk_at "go"
    rw [List.length_map]
    refine br2 (fun c2 => ?_) (fun _ => ?_)
    case refine_2 =>
      walk_at "go"
      exact hnx _ ⟨o2, [], _, none, rfl, .inl rfl, by simp, fun r hr => by simp at hr, pk2.mono (by omega)⟩
    have g3 : 3 ≤ row.length := by have := of_decide_eq_true c2; omega
    walk_at "go"
    refine ⟨m, row, rfl, g3, by omega, rg, nd, ?_⟩
    walk_at "go"
    exact hnx _ ⟨o2, foursS row, _, none, rfl, .inr ⟨rfl, h6⟩, by simp [foursS], fours_over g3 rg nd inb, pk2.mono (by omega)⟩
  obtain ⟨o2, rs, x2, x5, rfl, hx, lrs, ov, pk2⟩ := w
  refine seq_cut (fun Γ' => ∃ (o' : O) (rs : List Rule) (x2 x5 : Option O), Γ' = [some o', some (.fz (.list (bs.map .int))), x2, some (.fz (.int (way : Nat))), some (.ls (rs.map dR)), x5, none, none, none] ∧ (x2 = some (.ls (row.map dL)) ∨ x2 = some (.fz (.list (row.map dL))) ∧ 6 < way) ∧ rs.length ≤ 18 ∧ Over m bs rs ∧ PoolOk (c + 27) o') (fun nx hnx => ?_) (fun Γ' w => ?_)
  · rcases hx with rfl | ⟨rfl, h6⟩
    case inr =>
      walk_at "go"
      refine br2 (fun z => by have := of_decide_eq_true z; omega) (fun _ => ?_)
      walk_at "go"
      refine br2 (fun z => by cases z) (fun _ => ?_)
      walk_at "go"
      exact hnx _ ⟨o2, rs, _, x5, rfl, .inr ⟨rfl, h6⟩, by omega, ov, pk2.mono (by omega)⟩
    walk_at "go"
    refine br2 (fun _ => ?_) (fun _ => ?_)
    case refine_2 =>
      walk_at "go"
      refine br2 (fun z => by cases z) (fun _ => ?_)
      walk_at "go"
      exact hnx _ ⟨o2, rs, _, x5, rfl, .inl rfl, by omega, ov, pk2.mono (by omega)⟩
    walk_at "go"
    rw [List.length_map]
    refine br2 (fun c2 => ?_) (fun _ => ?_)
    case refine_2 =>
      walk_at "go"
      exact hnx _ ⟨o2, rs, _, x5, rfl, .inl rfl, by omega, ov, pk2.mono (by omega)⟩
    have g2 : 2 ≤ row.length := by have := of_decide_eq_true c2; omega
    walk_at "go"
    refine for_inv (List.range row.length) (fun (k : Nat) => PyData.int (k : Nat)) (fun k Γ' => ∃ (ss : List Rule) (x5 : Option O), Γ' = [some o2, some (.fz (.list (bs.map .int))), some (.ls (row.map dL)), some (.fz (.int (way : Nat))), some (.ls (ss.map dR)), x5, none, none, none] ∧ ss.length ≤ 5 + k ∧ Over m bs ss) (Γ1 := [some o2, some (.fz (.list (bs.map .int))), some (.ls (row.map dL)), some (.fz (.int (way : Nat))), some (.ls (rs.map dR)), x5, none, none, none]) (fun QI q => ?_) ⟨rs, x5, rfl, lrs, ov⟩ (fun i k Γ' ek w => ?_) (fun Γ' w => ?_)
    · walk_at "go"
      rw [List.length_map]
      exact ⟨szI (by omega) (by omega), q⟩
    · obtain ⟨ss, x5, rfl, ls1, ov1⟩ := w
      obtain ⟨il, rfl⟩ : i < row.length ∧ i = k := by
        obtain ⟨h1, h2⟩ := List.getElem?_eq_some_iff.mp ek
        rw [List.length_range] at h1
        rw [List.getElem_range] at h2
        exact ⟨h1, h2⟩
      walk_at "go"
      refine op_ixPrev il fun p hp ne => ?_
      have ne := ndj p i hp il (ne (by omega))
      walk_at "go"
      refine ⟨row[p], rfl, ?_⟩
      walk_at "go"
      refine op_ixL i rfl (by rw [List.getElem?_map, List.getElem?_eq_getElem il]; rfl) ?_
      walk_at "go"
      obtain ⟨p1, p2, p3, p4⟩ := pair_ok (m := m) (bs := bs) (a := neg row[p]) (b := row[i]) (rg row[p] (List.getElem_mem hp)) (rg _ (List.getElem_mem il)) (inb row[p] (List.getElem_mem hp)) (inb _ (List.getElem_mem il)) ne
      refine ⟨m, [neg row[p], row[i]], rfl, p1, p2, by simp, ?_⟩
      walk_at "go"
      refine st_appL rfl (by rw [List.length_map]; exact sz' (by omega)) rfl rfl ?_
      walk_at "go"
      exact ⟨ss ++ [insR [neg row[p], row[i]]], _, (by rw [List.map_append]; rfl), by rw [List.length_append]; show _ + 1 ≤ _; omega, ov1.add p3 p4⟩
    · obtain ⟨ss, x5, rfl, ls1, ov1⟩ := w
      rw [List.length_range] at ls1
      obtain ⟨p, ep⟩ : ∃ p, p = row.length - 1 := ⟨_, rfl⟩
      have hp : p < row.length := by omega
      have h0 : 0 < row.length := by omega
      have ne := ndj 0 p h0 hp (by omega)
      walk_at "go"
      refine op_ixL 0 rfl (by rw [List.getElem?_map, List.getElem?_eq_getElem h0]; rfl) ?_
      walk_at "go"
      refine ⟨row[0], rfl, ?_⟩
      walk_at "go"
      refine op_ixLastL (d := dL row[p]) (by rw [List.getLast?_eq_getElem?, List.length_map, List.getElem?_map, ← ep, List.getElem?_eq_getElem hp]; rfl) ?_
      walk_at "go"
      obtain ⟨p1, p2, p3, p4⟩ := pair_ok (m := m) (bs := bs) (a := neg row[0]) (b := row[p]) (rg row[0] (List.getElem_mem h0)) (rg _ (List.getElem_mem hp)) (inb row[0] (List.getElem_mem h0)) (inb _ (List.getElem_mem hp)) ne
      refine ⟨m, [neg row[0], row[p]], rfl, p1, p2, by simp, ?_⟩
      walk_at "go"
      refine st_appL rfl (by rw [List.length_map]; exact sz' (by omega)) rfl rfl ?_
      walk_at "go"
      exact hnx _ ⟨o2, ss ++ [insR [neg row[0], row[p]]], _, _, (by rw [List.map_append]; rfl), .inl rfl, by rw [List.length_append]; show _ + 1 ≤ _; omega, ov1.add p3 p4, pk2.mono (by omega)⟩
  obtain ⟨o2, rs, x2, x5, rfl, hx, lrs, ov, pk2⟩ := w
  refine seq_cut (fun Γ' => ∃ (o' : O) (rs : List Rule) (x2 x5 : Option O), Γ' = [some o', some (.fz (.list (bs.map .int))), x2, some (.fz (.int (way : Nat))), some (.ls (rs.map dR)), x5, none, none, none] ∧ (x2 = some (.ls (row.map dL)) ∨ x2 = some (.fz (.list (row.map dL))) ∧ 6 < way) ∧ rs.length ≤ 18 ∧ Over m bs rs ∧ PoolOk (c + 28) o') (fun nx hnx => ?_) (fun Γ' w => ?_)
  · rcases hx with rfl | ⟨rfl, h6⟩
    case inr =>
      walk_at "go"
      refine br2 (fun z => by have := of_decide_eq_true z; omega) (fun _ => ?_)
      walk_at "go"
      refine br2 (fun z => by cases z) (fun _ => ?_)
      walk_at "go"
      exact hnx _ ⟨o2, rs, _, x5, rfl, .inr ⟨rfl, h6⟩, by omega, ov, pk2.mono (by omega)⟩
    walk_at "go"
    refine br2 (fun _ => ?_) (fun _ => ?_)
    case refine_2 =>
      walk_at "go"
      refine br2 (fun z => by cases z) (fun _ => ?_)
      walk_at "go"
      exact hnx _ ⟨o2, rs, _, x5, rfl, .inl rfl, by omega, ov, pk2.mono (by omega)⟩
    walk_at "go"
    rw [List.length_map]
    refine br2 (fun c2 => ?_) (fun _ => ?_)
    case refine_2 =>
      walk_at "go"
      exact hnx _ ⟨o2, rs, _, x5, rfl, .inl rfl, by omega, ov, pk2.mono (by omega)⟩
    have g3 : 3 ≤ row.length := by have := of_decide_eq_true c2; omega
    obtain ⟨a, b, cc, rest, er⟩ : ∃ a b cc rest, row = a :: b :: cc :: rest := by
      match row, g3 with
      | a :: b :: cc :: rest, _ => exact ⟨a, b, cc, rest, rfl⟩
    obtain ⟨ra, rb, rc, ia, ib, ic, nab, nac, nbc⟩ := l3 a b cc rest er
    subst er
    obtain ⟨p1, p2, p3, p4⟩ := pair_ok (m := m) (bs := bs) (a := a) (b := b) ra rb ia ib nab
    obtain ⟨q1, q2, q3, q4⟩ := pair_ok (m := m) (bs := bs) (a := neg a) (b := cc) ra rc ia ic nac
    obtain ⟨u1, u2, u3, u4⟩ := pair_ok (m := m) (bs := bs) (a := neg b) (b := cc) rb rc ib ic nbc
    walk_at "go"
    rw [show (some (2 : Int)) = some (((2 : Nat) : Nat) : Int) from rfl, cut_upto]
    refine ⟨m, [a, b], rfl, p1, p2, by simp, ?_⟩
    walk_at "go"
    refine ⟨a, rfl, ?_⟩
    walk_at "go"
    refine op_ixL 2 rfl rfl ?_
    walk_at "go"
    refine ⟨m, [neg a, cc], rfl, q1, q2, by simp, ?_⟩
    walk_at "go"
    refine ⟨b, rfl, ?_⟩
    walk_at "go"
    refine op_ixL 2 rfl rfl ?_
    walk_at "go"
    refine ⟨m, [neg b, cc], rfl, u1, u2, by simp, ?_⟩
    walk_at "go"
    refine op_ixL 2 rfl rfl ?_
    walk_at "go"
    exact hnx _ ⟨o2, [insR [a, b], insR [neg a, cc], insR [neg b, cc], [cc]], _, x5, rfl, .inl rfl, by simp, fun r hr => by
      simp only [List.mem_cons, List.not_mem_nil, or_false] at hr
      rcases hr with rfl | rfl | rfl | rfl
      · exact ⟨p3, p4⟩
      · exact ⟨q3, q4⟩
      · exact ⟨u3, u4⟩
      · exact ⟨one_wf rc, fun l hl => by rw [List.mem_singleton.mp hl]; exact ic⟩, pk2.mono (by omega)⟩
  obtain ⟨o2, rs, x2, x5, rfl, hx, lrs, ov, pk2⟩ := w
  refine seq_cut (fun Γ' => ∃ (o' : O) (rs : List Rule) (x2 x5 : Option O), Γ' = [some o', some (.fz (.list (bs.map .int))), x2, some (.fz (.int (way : Nat))), some (.ls (rs.map dR)), x5, none, none, none] ∧ (x2 = some (.ls (row.map dL)) ∨ x2 = some (.fz (.list (row.map dL))) ∧ 6 < way) ∧ rs.length ≤ 18 ∧ Over m bs rs ∧ PoolOk (c + 29) o') (fun nx hnx => ?_) (fun Γ' w => ?_)
  · rcases hx with rfl | ⟨rfl, h6⟩
    case inr =>
      walk_at "go"
      refine br2 (fun z => by have := of_decide_eq_true z; omega) (fun _ => ?_)
      walk_at "go"
      refine br2 (fun z => by cases z) (fun _ => ?_)
      walk_at "go"
      exact hnx _ ⟨o2, rs, _, x5, rfl, .inr ⟨rfl, h6⟩, by omega, ov, pk2.mono (by omega)⟩
    walk_at "go"
    refine br2 (fun _ => ?_) (fun _ => ?_)
    case refine_2 =>
      walk_at "go"
      refine br2 (fun z => by cases z) (fun _ => ?_)
      walk_at "go"
      exact hnx _ ⟨o2, rs, _, x5, rfl, .inl rfl, by omega, ov, pk2.mono (by omega)⟩
    walk_at "go"
    rw [List.length_map]
    refine br2 (fun c2 => ?_) (fun _ => ?_)
    case refine_2 =>
      walk_at "go"
      exact hnx _ ⟨o2, rs, _, x5, rfl, .inl rfl, by omega, ov, pk2.mono (by omega)⟩
    have g3 : 3 ≤ row.length := by have := of_decide_eq_true c2; omega
    obtain ⟨a, b, cc, rest, er⟩ : ∃ a b cc rest, row = a :: b :: cc :: rest := by
      match row, g3 with
      | a :: b :: cc :: rest, _ => exact ⟨a, b, cc, rest, rfl⟩
    obtain ⟨ra, rb, rc, ia, ib, ic, nab, nac, nbc⟩ := l3 a b cc rest er
    subst er
    obtain ⟨q1, q2, q3, q4⟩ := pair_ok (m := m) (bs := bs) (a := neg a) (b := b) ra rb ia ib nab
    obtain ⟨u1, u2, u3, u4⟩ := pair_ok (m := m) (bs := bs) (a := neg b) (b := a) rb ra ib ia (Ne.symm nab)
    obtain ⟨v1, v2, v3, v4⟩ := pair_ok (m := m) (bs := bs) (a := a) (b := cc) ra rc ia ic nac
    walk_at "go"
    refine ⟨a, rfl, ?_⟩
    walk_at "go"
    refine ⟨m, [neg a, b], rfl, q1, q2, by simp, ?_⟩
    walk_at "go"
    refine ⟨b, rfl, ?_⟩
    walk_at "go"
    refine ⟨m, [neg b, a], rfl, u1, u2, by simp, ?_⟩
    walk_at "go"
    refine op_ixL 2 rfl rfl ?_
    walk_at "go"
    refine ⟨m, [a, cc], rfl, v1, v2, by simp, ?_⟩
    walk_at "go"
    exact hnx _ ⟨o2, [[a], insR [neg a, b], [b], insR [neg b, a], insR [a, cc]], _, x5, rfl, .inl rfl, by simp, fun r hr => by
      simp only [List.mem_cons, List.not_mem_nil, or_false] at hr
      rcases hr with rfl | rfl | rfl | rfl | rfl
      · exact ⟨one_wf ra, fun l hl => by rw [List.mem_singleton.mp hl]; exact ia⟩
      · exact ⟨q3, q4⟩
      · exact ⟨one_wf rb, fun l hl => by rw [List.mem_singleton.mp hl]; exact ib⟩
      · exact ⟨u3, u4⟩
      · exact ⟨v3, v4⟩, pk2.mono (by omega)⟩
  obtain ⟨o2, rs, x2, x5, rfl, hx, lrs, ov, pk2⟩ := w
  refine seq_cut (fun Γ' => ∃ (o' : O) (rs : List Rule) (x2 x5 : Option O), Γ' = [some o', some (.fz (.list (bs.map .int))), x2, some (.fz (.int (way : Nat))), some (.ls (rs.map dR)), x5, none, none, none] ∧ (x2 = some (.ls (row.map dL)) ∨ x2 = some (.fz (.list (row.map dL))) ∧ 6 < way) ∧ rs.length ≤ 18 ∧ Over m bs rs ∧ PoolOk (c + 30) o') (fun nx hnx => ?_) (fun Γ' w => ?_)
  · rcases hx with rfl | ⟨rfl, h6⟩
    case inr =>
      walk_at "go"
      refine br2 (fun z => by have := of_decide_eq_true z; omega) (fun _ => ?_)
      walk_at "go"
      refine br2 (fun z => by cases z) (fun _ => ?_)
      walk_at "go"
      exact hnx _ ⟨o2, rs, _, x5, rfl, .inr ⟨rfl, h6⟩, by omega, ov, pk2.mono (by omega)⟩
    walk_at "go"
    refine br2 (fun _ => ?_) (fun _ => ?_)
    case refine_2 =>
      walk_at "go"
      refine br2 (fun z => by cases z) (fun _ => ?_)
      walk_at "go"
      exact hnx _ ⟨o2, rs, _, x5, rfl, .inl rfl, by omega, ov, pk2.mono (by omega)⟩
    walk_at "go"
    rw [List.length_map]
    refine br2 (fun c2 => ?_) (fun _ => ?_)
    case refine_2 =>
      walk_at "go"
      exact hnx _ ⟨o2, rs, _, x5, rfl, .inl rfl, by omega, ov, pk2.mono (by omega)⟩
    have g2 : 2 ≤ row.length := by have := of_decide_eq_true c2; omega
    obtain ⟨a, b, rest, er⟩ : ∃ a b rest, row = a :: b :: rest := by
      match row, g2 with
      | a :: b :: rest, _ => exact ⟨a, b, rest, rfl⟩
    obtain ⟨ra, rb, ia, ib, nab⟩ := l2 a b rest er
    subst er
    obtain ⟨p1, p2, p3, p4⟩ := pair_ok (m := m) (bs := bs) (a := a) (b := b) ra rb ia ib nab
    obtain ⟨q1, q2, q3, q4⟩ := pair_ok (m := m) (bs := bs) (a := a) (b := neg b) ra rb ia ib nab
    obtain ⟨u1, u2, u3, u4⟩ := pair_ok (m := m) (bs := bs) (a := neg a) (b := b) ra rb ia ib nab
    obtain ⟨v1, v2, v3, v4⟩ := pair_ok (m := m) (bs := bs) (a := neg a) (b := neg b) ra rb ia ib nab
    walk_at "go"
    rw [show (some (2 : Int)) = some (((2 : Nat) : Nat) : Int) from rfl, cut_upto]
    refine ⟨m, [a, b], rfl, p1, p2, by simp, ?_⟩
    walk_at "go"
    refine ⟨b, rfl, ?_⟩
    walk_at "go"
    refine ⟨m, [a, neg b], rfl, q1, q2, by simp, ?_⟩
    walk_at "go"
    refine ⟨a, rfl, ?_⟩
    walk_at "go"
    refine ⟨m, [neg a, b], rfl, u1, u2, by simp, ?_⟩
    walk_at "go"
    refine ⟨a, rfl, ?_⟩
    walk_at "go"
    refine ⟨b, rfl, ?_⟩
    walk_at "go"
    refine ⟨m, [neg a, neg b], rfl, v1, v2, by simp, ?_⟩
    walk_at "go"
    refine ⟨c + 29, 3, 2, pk2, (by show _ < 1000000; omega), rfl, by omega, by omega, (by show _ ≤ 1000000; omega), fun n o3 hn pk3 => ?_⟩
    walk_at "go"
    rw [show (3 : Int) + ((n : Nat) : Int) = ((3 + n : Nat) : Int) by omega, cut_upto]
    exact hnx _ ⟨o3, [insR [a, b], insR [a, neg b], insR [neg a, b], insR [neg a, neg b]].take (3 + n), _, x5, (by rw [List.map_take]; rfl), .inl rfl, Nat.le_trans (List.length_take_le _ _) (by omega), fun r hr => by
      have hr := List.mem_of_mem_take hr
      simp only [List.mem_cons, List.not_mem_nil, or_false] at hr
      rcases hr with rfl | rfl | rfl | rfl
      · exact ⟨p3, p4⟩
      · exact ⟨q3, q4⟩
      · exact ⟨u3, u4⟩
      · exact ⟨v3, v4⟩, pk3.mono (by omega)⟩
  obtain ⟨o2, rs, x2, x5, rfl, hx, lrs, ov, pk2⟩ := w
  refine seq_cut (fun Γ' => ∃ (o' : O) (rs : List Rule) (x2 x5 : Option O), Γ' = [some o', some (.fz (.list (bs.map .int))), x2, some (.fz (.int (way : Nat))), some (.ls (rs.map dR)), x5, none, none, none] ∧ rs.length ≤ 18 ∧ Over m bs rs ∧ PoolOk (c + 31) o') (fun nx hnx => ?_) (fun Γ' w => ?_)
  · walk_at "go"
    refine br2 (fun _ => ?_) (fun _ => ?_)
    · walk_at "go"
      refine ⟨c + 30, 1, 3, pk2, (by show _ < 1000000; omega), rfl, by omega, by omega, (by show _ ≤ 1000000; omega), fun n o3 hn pk3 => ?_⟩
      walk_at "go"
      refine ⟨⟨by omega, by omega, Evl.sz_of (by rw [Int.toNat_natCast, List.length_singleton]; omega)⟩, ?_⟩
      rw [Int.toNat_natCast, List.flatten_replicate_singleton]
      walk_at "go"
      exact hnx _ ⟨o3, List.replicate n [], x2, x5, (by rw [List.map_replicate]; rfl), by rw [List.length_replicate]; omega, fun r hr => by rw [List.eq_of_mem_replicate hr]; exact ⟨⟨by simp, by simp⟩, by simp⟩, pk3⟩
    · walk_at "go"
      exact hnx _ ⟨o2, rs, x2, x5, rfl, lrs, ov, pk2.mono (by omega)⟩
  clear hx pk2 ov lrs
  obtain ⟨o3, rs, x2, x5, rfl, lrs, ov, pk3⟩ := w
  refine seq_cut (fun Γ' => ∃ (o' : O) (rs : List Rule) (x6 x7 : Option O), Γ' = [some o', some (.fz (.list (bs.map .int))), x2, some (.fz (.int (way : Nat))), some (.ls (rs.map dR)), x5, x6, x7, none] ∧ rs.length ≤ 22 ∧ Over m bs rs ∧ PoolOk (c + 200) o') (fun nx hnx => ?_) (fun Γ' w => ?_)
  · refine st_for ?_
    walk_at "go"
    refine ⟨c + 31, 5, 5, pk3, (by show _ < 1000000; omega), rfl, by omega, by omega, (by show _ ≤ 1000000; omega), fun n o4 hn pk4 => ?_⟩
    walk_at "go"
    refine ⟨szI (by omega) (by omega), ?_⟩
    rw [Int.toNat_natCast]
    refine forB_inv (List.range n) (fun (k : Nat) => PyData.int (k : Nat)) (fun i Γ' => ∃ (o' : O) (rs : List Rule) (x6 x7 : Option O), Γ' = [some o', some (.fz (.list (bs.map .int))), x2, some (.fz (.int (way : Nat))), some (.ls (rs.map dR)), x5, x6, x7, none] ∧ rs.length ≤ 18 + i ∧ Over m bs rs ∧ PoolOk (c + 32 + 30 * i) o') rfl ⟨o4, rs, none, none, rfl, lrs, ov, pk4⟩ (fun i k Γ' ek w => ?_) (fun Γ' w => ?_)
    · obtain ⟨o5, rs, x6, x7, rfl, lrs, ov, pk5⟩ := w
      have il : i < n := by have := (List.getElem?_eq_some_iff.mp ek).1; simpa using this
      refine st_gn rfl ?_
      refine seq_cut (fun Γ' => ∃ (o' : O) (ds : List Int), Γ' = [some o', some (.fz (.list (bs.map .int))), x2, some (.fz (.int (way : Nat))), some (.ls (rs.map dR)), x5, some (.fz (.int (k : Nat))), some (.ls (ds.map .int)), none] ∧ PoolOk (c + 32 + 30 * i + 13) o' ∧ Some' m ds ∧ (∀ b ∈ ds, b ∈ bs) ∧ ds.length ≤ 12) (fun nx hnx => ?_) (fun Γ' w => ?_)
      · walk_at "go"
        refine ⟨c + 32 + 30 * i, bs.map .int, pk5, (by show _ < 1000000; omega), rfl, by rw [List.length_map]; omega, fun ys o6 pm pk6 => ?_⟩
        rw [List.length_map] at pk6
        obtain ⟨cs, rfl, pc⟩ := perm_map pm
        have lc := pc.length_eq
        walk_at "go"
        obtain ⟨k2, ek2, hk2⟩ : ∃ k : Nat, (if (((bs.map PyData.int).length : Nat) : Int) < 3 then (((bs.map PyData.int).length : Nat) : Int) else 3) = ((k : Nat) : Int) ∧ 1 ≤ k ∧ k ≤ 3 ∧ k ≤ bs.length := by
          rw [List.length_map]
          split
          · exact ⟨bs.length, rfl, by omega, by omega, by omega⟩
          · exact ⟨3, rfl, by omega, by omega, by omega⟩
        rw [ek2]
        refine ⟨c + 32 + 30 * i + bs.length, 1, k2, pk6, (by show _ < 1000000; omega), rfl, by omega, by omega, (by show _ ≤ 1000000; omega), fun n o7 hn pk7 => ?_⟩
        walk_at "go"
        rw [show (1 : Int) + ((n : Nat) : Int) = ((n + 1 : Nat) : Int) by omega, cut_upto, ← List.map_take]
        exact hnx _ ⟨o7, cs.take (n + 1), rfl, pk7.mono (by omega), some_sub (some_perm sm pc) (List.take_sublist _ _), fun b hb => pc.mem_iff.mp (List.mem_of_mem_take hb), by rw [List.length_take]; omega⟩
      obtain ⟨o6, ds, rfl, pk6, sc, sub, lt⟩ := w
      walk_at "go"
      refine lc_inv ds PyData.int (fun j acc Γ' => ∃ o' ls, Γ' = [some o', some (.fz (.list (bs.map .int))), x2, some (.fz (.int (way : Nat))), some (.ls (rs.map dR)), x5, some (.fz (.int (k : Nat))), some (.fz (.list (ds.map .int))), none] ∧ acc = ls.map dL ∧ PoolOk (c + 32 + 30 * i + 13 + j) o' ∧ ls.map (·.1) = ds.take j) (Γ1 := [some o6, some (.fz (.list (bs.map .int))), x2, some (.fz (.int (way : Nat))), some (.ls (rs.map dR)), x5, some (.fz (.int (k : Nat))), some (.fz (.list (ds.map .int))), none]) (fun QI q => by walk_at "go"; exact q) (by exact plain1 (.inl rfl)) ⟨o6, [], rfl, rfl, pk6, rfl⟩ (fun j x acc Γ' ex w _ => ?_) (fun acc Γ' w => ?_)
      · obtain ⟨o', ls, rfl, rfl, pk', el⟩ := w
        have il := (List.getElem?_eq_some_iff.mp ex).1
        have tk : ds.take (j + 1) = ds.take j ++ [x] := by rw [List.take_add_one, ex]; rfl
        have ll : ls.length ≤ j := by have := congrArg List.length el; rw [List.length_map, List.length_take] at this; omega
        refine ⟨_, rfl, ?_⟩
        walk_at "gb"
        refine ⟨c + 32 + 30 * i + 13 + j, 3, 2, pk', (by show _ < 1000000; omega), rfl, by omega, by omega, (by show _ ≤ 1000000; omega), fun n2 o4 hn2 pk4 => ?_⟩
        walk_at "go"
        exact ⟨by rw [List.length_map]; exact sz' (by omega), _, rfl, o4, ls ++ [(x, decide (((n2 : Nat) : Int) = 1))], rfl, by rw [List.map_append]; rfl, pk4, by rw [tk, List.map_append, el]; rfl⟩
      · obtain ⟨o', ls, rfl, rfl, pk', el⟩ := w
        rw [List.take_length] at el
        obtain ⟨e1, e2⟩ := lits_of sc el
        have ll : ls.length = ds.length := by have := congrArg List.length el; rwa [List.length_map] at this
        walk_at "go"
        refine ⟨m, ls, rfl, e1, e2, by omega, ?_⟩
        walk_at "go"
        refine st_appL rfl (by rw [List.length_map]; exact sz' (by omega)) rfl rfl ?_
        walk_at "go"
        exact ⟨o', rs ++ [insR ls], _, _, (by rw [List.map_append]; rfl), by rw [List.length_append]; show _ + 1 ≤ _; omega, ov.add (insR_wf e1 e2) fun l hl => sub _ (by rw [← el]; exact List.mem_map.mpr ⟨l, (insR_perm _).mem_iff.mp hl, rfl⟩), pk'.mono (by omega)⟩
    · obtain ⟨o5, rs, x6, x7, rfl, lrs, ov, pk5⟩ := w
      rw [List.length_range] at lrs pk5
      exact hnx _ ⟨o5, rs, x6, x7, rfl, by omega, ov, pk5.mono (by omega)⟩
  clear pk3 ov lrs
  obtain ⟨o3, rs, x6, x7, rfl, lrs, ov, pk3⟩ := w
  walk_at "go"
  refine ⟨c + 200, m, bs, rs, pk3, (by show _ < 1000000; omega), rfl, sm, hm, ov, by omega, fun ss o4 lss ovs pk4 => ?_⟩
  walk_at "go"
  refine op_addL (Evl.sz_of (by rw [List.length_map, List.length_map]; omega)) ?_
  walk_at "go"
  refine ⟨c + 260, m, bs, rs, pk4, (by show _ < 1000000; omega), rfl, hm, ov, by omega, fun ts o5 lts ovt pk5 => ?_⟩
  walk_at "go"
  refine op_addL (Evl.sz_of (by rw [List.length_append, List.length_map, List.length_map, List.length_map]; omega)) ?_
  walk_at "go"
  refine ⟨c + 280, (rs ++ ss ++ ts).map dR, pk5, (by show _ < 1000000; omega), by rw [List.map_append, List.map_append]; rfl, by rw [List.length_map, List.length_append, List.length_append]; omega, fun ys o6 pm pk6 => ?_⟩
  obtain ⟨us, rfl, pu⟩ := perm_map pm
  rw [List.length_map, List.length_append, List.length_append] at pk6
  walk_at "go"
  rw [show (some (14 : Int)) = some (((14 : Nat) : Nat) : Int) from rfl, cut_upto, ← List.map_take]
  exact ⟨_, rfl, q (us.take 14) o6 (by rw [List.length_take]; omega) (fun r hr => by
    rcases List.mem_append.mp (pu.mem_iff.mp (List.mem_of_mem_take hr)) with z | z
    · rcases List.mem_append.mp z with y | y
      · exact ov r y
      · exact ovs r y
    · exact ovt r z) (pk6.mono (by omega))⟩
end K18
end
section
open VL PySem L2
local macro_rules | `(tactic| walk_at "vs") => `(tactic| first
  | with_reducible (first | refine st_seq ?_ | refine st_ret ?_ | refine st_set ?_ | refine st_if ?_ | refine st_drop ?_ | refine st_next ?_ | refine st_par ?_ | refine st_asg ?_ | refine st_rt0 ?_ | refine st_nx0 ?_ | refine st_brk ?_ | refine st_cnt ?_ | refine st_retN ?_ | refine st_op ?_ | refine st_op1 ?_ | refine st_an ?_ | refine st_ac ?_ | refine st_cb ?_ | refine st_tup ?_ | refine st_lst ?_ | refine st_to ?_ | refine st_tru ?_ | refine st_tnot ?_ | refine st_tand ?_ | refine st_tor ?_ | refine st_and ?_ | refine st_or ?_ | refine st_not ?_ | refine st_eif ?_ | refine st_chain ?_ | refine st_call ?_ | refine st_calli ?_ | refine st_isi ?_ | refine st_lrg ?_ | refine st_trg ?_ | refine st_sl ?_ | refine st_pn ?_ | refine st_ps ?_ | refine st_iseq ?_ | refine st_ir1 ?_ | refine st_ir2 ?_ | refine st_yes ?_ | refine st_c ?_ | refine st_xo ?_ | refine st_ox ?_ | refine st_cbe ?_ | refine st_true ?_ | refine st_ixe ?_ | refine st_dnew ?_ | refine st_ao0 ?_ | refine st_ao ?_ | refine st_trl ?_ | refine st_callk ?_ | refine st_callB ?_ | refine st_put ?_ | refine st_dput ?_ | refine st_g0 ?_ | refine st_sme ?_ | refine st_sme0 ?_ | refine st_pute ?_ | refine st_par3 ?_ | refine st_xelD ?_ | refine st_cbd ?_ | refine st_truDE ?_ | refine st_ixD' ?_ | refine st_smd ?_ | refine st_smd0 ?_ | refine st_putD ?_ | refine st_tdl ?_ | refine st_idx ?_ | refine st_rev ?_)
  | (with_reducible show (sAugI _ _ _ _ _)); refine st_augI rfl ?_
  | (with_reducible show (xVar _ _ _)); refine st_var rfl ?_
  | (with_reducible show (xVal _ _ _)); (first | refine st_val rfl ?_ | refine st_valL rfl rfl rfl ?_)
  | (with_reducible show (oMv _ _ _)); (first | refine st_mv rfl ?_ | refine st_mvL rfl rfl ?_)
  | (with_reducible show (eIxS _ _ _ _)); (first | refine st_ixT rfl ?_ | refine st_ixLs rfl ?_ | refine st_ixF rfl ?_ | refine st_ixTr rfl ?_ | refine st_ixDic rfl rfl ?_)
  | (with_reducible show (eLenS _ _ _)); (first | refine st_lenT rfl ?_ | refine st_lenD _ rfl ?_)
  | (with_reducible show (eEl _ _ _ _)); refine st_el rfl ?_
  | (with_reducible show (eApp _ _ _ _ _)); (first | refine st_app (listG_ls rfl) ?_ | refine st_app (listG_tr rfl) ?_)
  | (with_reducible show (sPutS _ _ _ _ _ _)); (first | refine st_putS rfl ?_ | refine st_putSD rfl ?_)
  | (with_reducible show (eInS _ _ _ _)); (first | refine st_in rfl ?_ | refine st_din rfl ?_)
  | (with_reducible show (eNotInS _ _ _ _)); (first | refine st_notin rfl ?_ | refine st_dnotin rfl ?_)
  | (with_reducible show (tInS _ _ _ _)); (first | refine st_tin rfl ?_ | refine st_tdin rfl ?_)
  | (with_reducible show (tNotInS _ _ _ _)); (first | refine st_tnotin rfl ?_ | refine st_tdnotin rfl ?_)
  | (with_reducible show (sDel _ _ _ _)); refine st_del rfl ?_
  | (with_reducible show (eSM _ _ _ _ _)); refine st_sm rfl ?_
  | (with_reducible show (gN _ _ _ _)); refine st_gn rfl ?_
  | (with_reducible show (gConss _ _ _ _ _)); refine st_gc ?_
  | (with_reducible show (gTupD _ _ _ _ _)); refine st_gt rfl ?_
  | (with_reducible show (∃ d b, _ = some d ∧ kitD d _ = some b ∧ _)); (first | refine ⟨_, true, rfl, (rfl : kitD _ _ = some true), ?_⟩ | refine ⟨_, false, rfl, (rfl : kitD _ _ = some false), ?_⟩)
  | (with_reducible show (∃ _, _)); (first | refine ⟨_, rfl, ?_⟩ | refine ⟨_, _, rfl, rfl, ?_⟩ | refine ⟨_, _, _, rfl, rfl, rfl, ?_⟩ | refine ⟨_, _, _, _, rfl, rfl, rfl, ?_⟩ | refine ⟨_, _, _, _, rfl, rfl, rfl, rfl, ?_⟩ | refine ⟨_, _, _, rfl, .inl ⟨_, rfl, rfl, rfl⟩, ?_⟩)
  | (with_reducible show ((∃ _, _) ∧ _)); (first | refine ⟨⟨_, rfl, _, .inl rfl⟩, ?_⟩ | refine ⟨⟨_, rfl, [], .inr ⟨_, rfl⟩⟩, ?_⟩)
  | (with_reducible show (_ ≤ sizeLine ∧ _)); refine ⟨Evl.sz_of (Nat.le_of_ble_eq_true rfl), ?_⟩)
local macro_rules | `(tactic| walk_at "op") => `(tactic| first
  | (with_reducible show (opAdd _ _ _)); (first | refine op_addI ?_)
  | (with_reducible show (opSub _ _ _)); (first | refine op_subI ?_)
  | (with_reducible show (opLt _ _ _)); (first | refine op_ltI ?_)
  | (with_reducible show (opLe _ _ _)); (first | refine op_leI ?_)
  | (with_reducible show (opGt _ _ _)); (first | refine op_gtI ?_)
  | (with_reducible show (opGe _ _ _)); (first | refine op_geI ?_)
  | (with_reducible show (opEq _ _ _)); (first | refine op_eqI ?_ | refine op_eqB ?_)
  | (with_reducible show (opNe _ _ _)); (first | refine op_neI ?_ | refine op_neB ?_)
  | (with_reducible show (opIsN _ _ _)); (first | refine op_isNone ?_ | refine op_isInt ?_ | refine op_isTup ?_ | refine op_isBl ?_ | refine op_isSt ?_ | refine op_isLs ?_)
  | (with_reducible show (opNotN _ _ _)); (first | refine op_notNone ?_ | refine op_notTup ?_)
  | (with_reducible show (opIx _ _ _)); (first | refine op_ixT0 rfl ?_ | refine op_ixT1 rfl ?_ | refine op_ixT2 rfl ?_ | refine op_ixL0 rfl ?_ | refine op_ixL1 rfl ?_)
  | (with_reducible show (op1Neg _ _)); refine op1_negI ?_
  | (with_reducible show (cdLen _ _)); (first | refine cd_lenL ?_ | refine cd_lenT ?_)
  | (with_reducible show (cdInt _ _)); (first | refine cd_intI ?_ | refine cd_intB ?_)
  | (with_reducible show (cdTuple _ _)); (first | refine cd_tupL ?_ | refine cd_tupT ?_)
  | (with_reducible show (cdList _ _)); (first | refine cd_listL ?_ | refine cd_listT ?_)
  | (with_reducible show (cdAbs _ _)); (first | refine cd_absI ?_)
  | (with_reducible show (cdMin2 _ _)); (first | refine cd_min2I ?_)
  | (with_reducible show (cdMax2 _ _)); (first | refine cd_max2I ?_)
  | (with_reducible show (sdAll _ _ _ _)); (first | refine sd_T ?_ | refine sd_L ?_))
local macro_rules | `(tactic| walk_at "go") => `(tactic| repeat (first | walk_at "vs" | walk_at "op"))
local macro_rules | `(tactic| walk_at "gb") => `(tactic| repeat (first | walk_at "vs" | walk_at "op" | with_reducible (first | refine br_t ?_ | refine br_f ?_ | refine br_nt ?_ | refine br_nf ?_)))
namespace K18
open FM
def dup (d : PyData) : PyData := .tuple [d, d]
theorem nodesAll_app (a b : List PyData) : nodesAll (a ++ b) = nodesAll a + nodesAll b := by
  induction a with
  | nil => simp [nodesAll]
  | cons x a ih => simp only [List.cons_append, nodesAll, ih]; omega
theorem plainAll_iff (a : List PyData) : plainAll a = true ↔ ∀ d ∈ a, plain d = true := by
  induction a with
  | nil => simp [plainAll]
  | cons x a ih => simp [plainAll, ih]
theorem nodes_pos (d : PyData) : 1 ≤ nodes d := by
  cases d <;> simp [nodes]
theorem len_nodes (a : List PyData) : a.length ≤ nodesAll a := by
  induction a with
  | nil => simp
  | cons x a ih => have := nodes_pos x; simp only [List.length_cons, nodesAll]; omega
theorem dup_range (ds : List PyData) : (List.range ds.length).map (fun k => dup (ds.getD k .none)) = ds.map dup := by
  apply List.ext_getElem?
  intro i
  by_cases h : i < ds.length
  · rw [List.getElem?_map, List.getElem?_range h, List.getElem?_map, List.getElem?_eq_getElem h]
    simp [List.getD_eq_getElem?_getD, List.getElem?_eq_getElem h]
  · rw [List.getElem?_eq_none (by simp; omega), List.getElem?_eq_none (by simp; omega)]
theorem len__law_same : ∀ ds Q, wp__law_same ds Q → ds.length = 2 := fun ds Q ⟨d, e, _⟩ => by rw [e]; rfl
theorem rd__law_same : ∀ ds Q, wp__law_same ds Q → τ__law_same (ends0 Q) (fzs ds ++ List.replicate (6 - ds.length) none) := fun ds Q ⟨d, e, pl, nd, q⟩ => by
  subst e
  refine st_nrm rfl ?_
  unfold τ__law_same
  walk_at "go"
  refine while_inv (fun n Γ' => ∃ ps x3 x4 x5, Γ' = [some (.fz d), some (.fz d), some (.ls (ps.map dup)), x3, x4, x5] ∧ (∀ p ∈ ps, plain p = true) ∧ n = nodesAll ps ∧ n ≤ 50000 ∧ (x5 = none ∨ ∃ y, x5 = some (.fz y))) (nodes d) ⟨[d], none, none, none, rfl, by simpa using pl, by simp [nodesAll], nd, .inl rfl⟩ ?_
  rintro n Γ' ⟨ps, x3, x4, x5, rfl, hp, rfl, hn, h5⟩
  walk_at "go"
  refine br2 (fun c => ?_) (fun c => ?_)
  · rcases List.eq_nil_or_concat ps with rfl | ⟨ps', p, rfl⟩
    · simp at c
    have pp : plain p = true := hp p (by simp)
    have hp' : ∀ z ∈ ps', plain z = true := fun z hz => hp z (by simp [hz])
    rw [List.concat_eq_append, nodesAll_app] at hn
    have np : nodesAll [p] = nodes p := by simp [nodesAll]
    rw [np] at hn
    have n1 := nodes_pos p
    walk_at "go"
    refine st_popL (d := dup p) rfl (by simp) rfl ?_
    rw [show ((ps'.concat p).map dup).dropLast = ps'.map dup by simp]
    have stop : ∀ y5 : Option O, (y5 = none ∨ ∃ y, y5 = some (.fz y)) → nodesAll ps' < nodesAll (ps'.concat p) ∧ nodesAll ps' ≤ 50000 := fun _ _ => by
      rw [List.concat_eq_append, nodesAll_app, np]
      exact ⟨by omega, by omega⟩
    obtain ⟨s1, s2⟩ := stop _ h5
    cases p with
    | none => simp [plain] at pp
    | bool b =>
      walk_at "gb"
      rw [show (!(b == b)) = false by simp]
      walk_at "gb"
      exact ⟨_, s1, ps', _, _, _, rfl, hp', rfl, s2, h5⟩
    | int i =>
      walk_at "gb"
      rw [show (!decide (i = i)) = false by simp]
      walk_at "gb"
      exact ⟨_, s1, ps', _, _, _, rfl, hp', rfl, s2, h5⟩
    | str x => simp [plain] at pp
    | tuple ds =>
      walk_at "gb"
      rw [show (!decide (((ds.length : Nat) : Int) = ((ds.length : Nat) : Int))) = false by simp]
      walk_at "gb"
      have nd' : nodes (.tuple ds) = 1 + nodesAll ds := by simp [nodes]
      have ld := len_nodes ds
      have lp := len_nodes ps'
      have pd := (plainAll_iff ds).mp (by simpa [plain] using pp)
      refine lc_map (List.range ds.length) (fun (k : Nat) => PyData.int (k : Nat)) (fun (k : Nat) => dup (ds.getD k .none)) (Γ1 := [some (.fz d), some (.fz d), some (.ls (ps'.map dup)), some (.fz (.tuple ds)), some (.fz (.tuple ds)), x5]) (fun QI q => ?_) (Evl.sz_of (by rw [List.length_range]; omega)) (by exact plain1 (by rcases h5 with rfl | ⟨y, rfl⟩; exact .inl rfl; exact .inr ⟨y, rfl⟩)) (fun k hk => ⟨_, [some (.fz d), some (.fz d), some (.ls (ps'.map dup)), some (.fz (.tuple ds)), some (.fz (.tuple ds)), some (.fz (.int (k : Nat)))], rfl, fun QG q => ⟨_, rfl, q⟩, ?_, fun Q q => ?_⟩) ?_
      · walk_at "go"
        exact ⟨szI (by omega) (by omega), q⟩
      · rcases h5 with rfl | ⟨y, rfl⟩ <;> rfl
      · have hk : k < ds.length := List.mem_range.mp hk
        have ek : ds[k]? = some (ds.getD k .none) := by rw [List.getD_eq_getElem?_getD, List.getElem?_eq_getElem hk]; rfl
        walk_at "go"
        refine op_ixT k rfl ek ?_
        walk_at "go"
        refine op_ixT k rfl ek ?_
        walk_at "go"
        exact q
      · rw [dup_range]
        walk_at "go"
        refine op_addL (Evl.sz_of (by rw [List.length_map, List.length_map]; omega)) ?_
        walk_at "go"
        refine ⟨nodesAll (ps' ++ ds), ?_, ps' ++ ds, _, _, _, by rw [List.map_append], fun z hz => ?_, rfl, ?_, h5⟩
        · rw [nodesAll_app, List.concat_eq_append, nodesAll_app, np]; omega
        · rcases List.mem_append.mp hz with h | h
          · exact hp' z h
          · exact pd z h
        · rw [nodesAll_app]; omega
    | list _ => simp [plain] at pp
    | dict _ => simp [plain] at pp
  · walk_at "go"
    exact q
end K18
end
section
open VL PySem L2
local macro_rules | `(tactic| walk_at "vs") => `(tactic| first
  | with_reducible (first | refine st_seq ?_ | refine st_ret ?_ | refine st_set ?_ | refine st_if ?_ | refine st_drop ?_ | refine st_next ?_ | refine st_par ?_ | refine st_asg ?_ | refine st_rt0 ?_ | refine st_nx0 ?_ | refine st_brk ?_ | refine st_cnt ?_ | refine st_retN ?_ | refine st_op ?_ | refine st_op1 ?_ | refine st_an ?_ | refine st_ac ?_ | refine st_cb ?_ | refine st_tup ?_ | refine st_lst ?_ | refine st_to ?_ | refine st_tru ?_ | refine st_tnot ?_ | refine st_tand ?_ | refine st_tor ?_ | refine st_and ?_ | refine st_or ?_ | refine st_not ?_ | refine st_eif ?_ | refine st_chain ?_ | refine st_call ?_ | refine st_calli ?_ | refine st_isi ?_ | refine st_lrg ?_ | refine st_trg ?_ | refine st_sl ?_ | refine st_pn ?_ | refine st_ps ?_ | refine st_iseq ?_ | refine st_ir1 ?_ | refine st_ir2 ?_ | refine st_yes ?_ | refine st_c ?_ | refine st_xo ?_ | refine st_ox ?_ | refine st_cbe ?_ | refine st_true ?_ | refine st_ixe ?_ | refine st_dnew ?_ | refine st_ao0 ?_ | refine st_ao ?_ | refine st_trl ?_ | refine st_callk ?_ | refine st_callB ?_ | refine st_put ?_ | refine st_dput ?_ | refine st_g0 ?_ | refine st_sme ?_ | refine st_sme0 ?_ | refine st_pute ?_ | refine st_par3 ?_ | refine st_xelD ?_ | refine st_cbd ?_ | refine st_truDE ?_ | refine st_ixD' ?_ | refine st_smd ?_ | refine st_smd0 ?_ | refine st_putD ?_ | refine st_tdl ?_ | refine st_idx ?_ | refine st_rev ?_)
  | (with_reducible show (sAugI _ _ _ _ _)); refine st_augI rfl ?_
  | (with_reducible show (xVar _ _ _)); refine st_var rfl ?_
  | (with_reducible show (xVal _ _ _)); (first | refine st_val rfl ?_ | refine st_valL rfl rfl rfl ?_)
  | (with_reducible show (oMv _ _ _)); (first | refine st_mv rfl ?_ | refine st_mvL rfl rfl ?_)
  | (with_reducible show (eIxS _ _ _ _)); (first | refine st_ixT rfl ?_ | refine st_ixLs rfl ?_ | refine st_ixF rfl ?_ | refine st_ixTr rfl ?_ | refine st_ixDic rfl rfl ?_)
  | (with_reducible show (eLenS _ _ _)); (first | refine st_lenT rfl ?_ | refine st_lenD _ rfl ?_)
  | (with_reducible show (eEl _ _ _ _)); refine st_el rfl ?_
  | (with_reducible show (eApp _ _ _ _ _)); (first | refine st_app (listG_ls rfl) ?_ | refine st_app (listG_tr rfl) ?_)
  | (with_reducible show (sPutS _ _ _ _ _ _)); (first | refine st_putS rfl ?_ | refine st_putSD rfl ?_)
  | (with_reducible show (eInS _ _ _ _)); (first | refine st_in rfl ?_ | refine st_din rfl ?_)
  | (with_reducible show (eNotInS _ _ _ _)); (first | refine st_notin rfl ?_ | refine st_dnotin rfl ?_)
  | (with_reducible show (tInS _ _ _ _)); (first | refine st_tin rfl ?_ | refine st_tdin rfl ?_)
  | (with_reducible show (tNotInS _ _ _ _)); (first | refine st_tnotin rfl ?_ | refine st_tdnotin rfl ?_)
  | (with_reducible show (sDel _ _ _ _)); refine st_del rfl ?_
  | (with_reducible show (eSM _ _ _ _ _)); refine st_sm rfl ?_
  | (with_reducible show (gN _ _ _ _)); refine st_gn rfl ?_
  | (with_reducible show (gConss _ _ _ _ _)); refine st_gc ?_
  | (with_reducible show (gTupD _ _ _ _ _)); refine st_gt rfl ?_
  | (with_reducible show (∃ d b, _ = some d ∧ kitD d _ = some b ∧ _)); (first | refine ⟨_, true, rfl, (rfl : kitD _ _ = some true), ?_⟩ | refine ⟨_, false, rfl, (rfl : kitD _ _ = some false), ?_⟩)
  | (with_reducible show (∃ _, _)); (first | refine ⟨_, rfl, ?_⟩ | refine ⟨_, _, rfl, rfl, ?_⟩ | refine ⟨_, _, _, rfl, rfl, rfl, ?_⟩ | refine ⟨_, _, _, _, rfl, rfl, rfl, ?_⟩ | refine ⟨_, _, _, _, rfl, rfl, rfl, rfl, ?_⟩ | refine ⟨_, _, _, rfl, .inl ⟨_, rfl, rfl, rfl⟩, ?_⟩)
  | (with_reducible show ((∃ _, _) ∧ _)); (first | refine ⟨⟨_, rfl, _, .inl rfl⟩, ?_⟩ | refine ⟨⟨_, rfl, [], .inr ⟨_, rfl⟩⟩, ?_⟩)
  | (with_reducible show (_ ≤ sizeLine ∧ _)); refine ⟨Evl.sz_of (Nat.le_of_ble_eq_true rfl), ?_⟩)
local macro_rules | `(tactic| walk_at "op") => `(tactic| first
  | (with_reducible show (opAdd _ _ _)); (first | refine op_addI ?_)
  | (with_reducible show (opSub _ _ _)); (first | refine op_subI ?_)
  | (with_reducible show (opLt _ _ _)); (first | refine op_ltI ?_)
  | (with_reducible show (opLe _ _ _)); (first | refine op_leI ?_)
  | (with_reducible show (opGt _ _ _)); (first | refine op_gtI ?_)
  | (with_reducible show (opGe _ _ _)); (first | refine op_geI ?_)
  | (with_reducible show (opEq _ _ _)); (first | refine op_eqI ?_ | refine op_eqB ?_)
  | (with_reducible show (opNe _ _ _)); (first | refine op_neI ?_ | refine op_neB ?_)
  | (with_reducible show (opIsN _ _ _)); (first | refine op_isNone ?_ | refine op_isInt ?_ | refine op_isTup ?_ | refine op_isBl ?_ | refine op_isSt ?_ | refine op_isLs ?_)
  | (with_reducible show (opNotN _ _ _)); (first | refine op_notNone ?_ | refine op_notTup ?_)
  | (with_reducible show (opIx _ _ _)); (first | refine op_ixT0 rfl ?_ | refine op_ixT1 rfl ?_ | refine op_ixT2 rfl ?_ | refine op_ixL0 rfl ?_ | refine op_ixL1 rfl ?_)
  | (with_reducible show (op1Neg _ _)); refine op1_negI ?_
  | (with_reducible show (cdLen _ _)); (first | refine cd_lenL ?_ | refine cd_lenT ?_)
  | (with_reducible show (cdInt _ _)); (first | refine cd_intI ?_ | refine cd_intB ?_)
  | (with_reducible show (cdTuple _ _)); (first | refine cd_tupL ?_ | refine cd_tupT ?_)
  | (with_reducible show (cdList _ _)); (first | refine cd_listL ?_ | refine cd_listT ?_)
  | (with_reducible show (cdAbs _ _)); (first | refine cd_absI ?_)
  | (with_reducible show (cdMin2 _ _)); (first | refine cd_min2I ?_)
  | (with_reducible show (cdMax2 _ _)); (first | refine cd_max2I ?_)
  | (with_reducible show (sdAll _ _ _ _)); (first | refine sd_T ?_ | refine sd_L ?_))
local macro_rules | `(tactic| walk_at "go") => `(tactic| repeat (first | walk_at "vs" | walk_at "op"))
local macro_rules | `(tactic| walk_at "gb") => `(tactic| repeat (first | walk_at "vs" | walk_at "op" | with_reducible (first | refine br_t ?_ | refine br_f ?_ | refine br_nt ?_ | refine br_nf ?_)))
namespace K18
open FM
theorem shl_eq (n : Nat) : (1 : Int) * 2 ^ ((n : Nat) : Int).toNat = ((2 ^ n : Nat) : Int) := by
  rw [Int.one_mul, Int.toNat_natCast, Int.natCast_pow]; rfl
theorem cshl1 {n : Nat} (h : n ≤ 1000) : CShl 1 ((n : Nat) : Int) := ⟨by omega, by have := bits_of (i := 1) (k := 1) (by decide); omega⟩
def unT (es : List En') (at' w k : Nat) : Nat := (List.range k).foldl (fun a j => if j ≠ at' ∧ (es.getD j (0, 0)).1 = (w : Int) then a ||| (es.getD j (0, 0)).2 else a) 0
theorem unT_all (es : List En') (at' w : Nat) : unT es at' w es.length = unionG es at' w := rfl
theorem unT_succ (es : List En') (at' w k : Nat) : unT es at' w (k + 1) = if k ≠ at' ∧ (es.getD k (0, 0)).1 = (w : Int) then unT es at' w k ||| (es.getD k (0, 0)).2 else unT es at' w k := by
  unfold unT
  rw [List.range_succ, List.foldl_append]
  rfl
def unL (gs : List (List Int)) (es : List En') (at' k : Nat) : List PyData := (List.range gs.length).map fun w => .int ((unT es at' w k : Nat) : Int)
theorem unL_get {gs : List (List Int)} {es : List En'} {at' k w : Nat} (h : w < gs.length) : (unL gs es at' k)[w]? = some (.int ((unT es at' w k : Nat) : Int)) := by
  unfold unL
  rw [List.getElem?_map, List.getElem?_range h]; rfl
theorem unL_len (gs : List (List Int)) (es : List En') (at' k : Nat) : (unL gs es at' k).length = gs.length := by unfold unL; simp
theorem unL_zero (gs : List (List Int)) (es : List En') (at' : Nat) : unL gs es at' 0 = List.replicate gs.length (.int 0) := by
  unfold unL
  apply List.ext_getElem?
  intro i
  by_cases h : i < gs.length
  · rw [List.getElem?_map, List.getElem?_range h, List.getElem?_replicate, if_pos h]; rfl
  · rw [List.getElem?_eq_none (by simp; omega), List.getElem?_eq_none (by simp; omega)]
/-- nothing to add -/
theorem unL_same {gs : List (List Int)} {es : List En'} {at' k : Nat} (h : k = at') : unL gs es at' (k + 1) = unL gs es at' k := by
  unfold unL
  apply List.map_congr_left
  intro w hw
  rw [unT_succ, if_neg (by simp [h])]
theorem unL_set {gs : List (List Int)} {es : List En'} {at' k w : Nat} (hne : k ≠ at') (hw : w < gs.length) (e : (es.getD k (0, 0)).1 = (w : Int)) :
    (unL gs es at' k).set w (.int ((unT es at' w k ||| (es.getD k (0, 0)).2 : Nat) : Int)) = unL gs es at' (k + 1) := by
  apply List.ext_getElem?
  intro i
  by_cases hi : i < gs.length
  · rw [unL_get hi, List.getElem?_set, unT_succ]
    by_cases z : w = i
    · subst z
      rw [if_pos rfl, if_pos (by rw [unL_len]; exact hw), if_pos ⟨hne, e⟩]
    · rw [if_neg z, unL_get hi, if_neg (fun c => z (by have := c.2; omega))]
  · rw [List.getElem?_eq_none (by rw [List.length_set, unL_len]; omega), List.getElem?_eq_none (by rw [unL_len]; omega)]
theorem len__law_follows : ∀ ds Q, wp__law_follows ds Q → ds.length = 3 := fun ds Q ⟨m, gs, es, k, e, _⟩ => by rw [e]; rfl
theorem rd__law_follows : ∀ ds Q, wp__law_follows ds Q → τ__law_follows (ends0 Q) (fzs ds ++ List.replicate (7 - ds.length) none) := fun ds Q ⟨m, gs, es, at', e, gk, ek, le, ha, q⟩ => by
  subst e
  have lg := gk.len
  refine st_nrm rfl ?_
  unfold τ__law_follows
  refine seq_cut (fun Γ' => Γ' = [some (.fz (dGs gs)), some (.fz (.list (es.map dE))), some (.fz (.int (at' : Nat))), some (.ls (unL gs es at' 0)), none, none, none]) (fun nx hnx => ?_) (fun Γ' w => ?_)
  · walk_at "go"
    rw [List.length_map]
    refine ⟨⟨by omega, by omega, Evl.sz_of (by rw [Int.toNat_natCast, List.length_singleton]; omega)⟩, ?_⟩
    rw [Int.toNat_natCast, List.flatten_replicate_singleton, ← unL_zero gs es at']
    walk_at "go"
    exact hnx _ rfl
  subst w
  have gE : ∀ k, k < es.length → es.getD k (0, 0) ∈ es ∧ (es.map dE)[k]? = some (dE (es.getD k (0, 0))) := fun k hk => by
    rw [List.getD_eq_getElem?_getD, List.getElem?_eq_getElem hk]
    exact ⟨List.getElem_mem hk, by rw [List.getElem?_map, List.getElem?_eq_getElem hk]; rfl⟩
  refine seq_cut (fun Γ' => ∃ x4 x5 x6, Γ' = [some (.fz (dGs gs)), some (.fz (.list (es.map dE))), some (.fz (.int (at' : Nat))), some (.ls (unL gs es at' es.length)), x4, x5, x6] ∧ ((List.range es.length).any fun k => decide (k ≠ at' ∧ (es.getD k (0, 0)).1 < 0)) = false) (fun nx hnx => ?_) (fun Γ' w => ?_)
  · refine for_inv (List.range es.length) (fun (k : Nat) => PyData.int (k : Nat)) (fun k Γ' => ∃ x4 x5 x6, Γ' = [some (.fz (dGs gs)), some (.fz (.list (es.map dE))), some (.fz (.int (at' : Nat))), some (.ls (unL gs es at' k)), x4, x5, x6] ∧ ∀ j, j < k → j ≠ at' → 0 ≤ (es.getD j (0, 0)).1) (Γ1 := [some (.fz (dGs gs)), some (.fz (.list (es.map dE))), some (.fz (.int (at' : Nat))), some (.ls (unL gs es at' 0)), none, none, none]) (fun QI q => ?_) ⟨none, none, none, rfl, by omega⟩ (fun i k Γ' ek' w => ?_) (fun Γ' w => ?_)
    · walk_at "go"
      rw [List.length_map]
      exact ⟨szI (by omega) (by omega), q⟩
    · obtain ⟨x4, x5, x6, rfl, hno⟩ := w
      obtain ⟨il, rfl⟩ : i < es.length ∧ i = k := by
        obtain ⟨h1, h2⟩ := List.getElem?_eq_some_iff.mp ek'
        rw [List.length_range] at h1
        rw [List.getElem_range] at h2
        exact ⟨h1, h2⟩
      obtain ⟨g1, g2⟩ := gE i il
      obtain ⟨r1, r2, r3⟩ := ek _ g1
      walk_at "go"
      refine op_ixL i rfl g2 ?_
      walk_at "go"
      by_cases z : i = at'
      · have en : decide (((i : Nat) : Int) = ((at' : Nat) : Int)) = true := by rw [decide_eq_true_eq]; omega
        rw [en]
        walk_at "gb"
        rw [en]
        walk_at "gb"
        exact ⟨_, _, _, by rw [unL_same z], fun j hj ne => hno j (by omega) ne⟩
      · have en : decide (((i : Nat) : Int) = ((at' : Nat) : Int)) = false := by rw [decide_eq_false_iff_not]; omega
        rw [en]
        walk_at "gb"
        refine br2 (fun c1 => ?_) (fun c1 => ?_)
        · walk_at "gb"
          have c1 := of_decide_eq_true c1
          have : lawF gs es at' = true := by
            unfold lawF
            rw [Bool.or_eq_true, Bool.or_eq_true]
            exact .inl (.inl (List.any_eq_true.mpr ⟨i, List.mem_range.mpr il, by simpa using ⟨z, c1⟩⟩))
          rw [this] at q
          exact q
        · have c1 := of_decide_eq_false c1
          obtain ⟨w, hw⟩ : ∃ w : Nat, (es.getD i (0, 0)).1 = (w : Int) := ⟨(es.getD i (0, 0)).1.toNat, by omega⟩
          have wl : w < gs.length := by omega
          walk_at "gb"
          rw [en]
          walk_at "gb"
          refine op_ixL w hw (unL_get wl) ?_
          walk_at "gb"
          refine op_orN ?_
          walk_at "gb"
          refine ⟨_, w, _, rfl, .inr ⟨_, _, rfl, rfl, ixN_of hw (by rw [unL_len]; exact wl), rfl⟩, ?_⟩
          exact ⟨_, _, _, by rw [← unL_set z wl hw], fun j hj ne => by
            rcases Nat.lt_or_ge j i with y | y
            · exact hno j y ne
            · rw [show j = i by omega]; omega⟩
    · obtain ⟨x4, x5, x6, rfl, hno⟩ := w
      rw [List.length_range]
      refine hnx _ ⟨x4, x5, x6, rfl, List.any_eq_false.mpr fun k hk c => ?_⟩
      have c := of_decide_eq_true c
      have := hno k (by have := List.mem_range.mp hk; simpa using this) c.1
      omega
  obtain ⟨x4, x5, x6, rfl, hneg⟩ := w
  refine seq_cut (fun Γ' => ∃ x4 x5 x6, Γ' = [some (.fz (dGs gs)), some (.fz (.list (es.map dE))), some (.fz (.int (at' : Nat))), some (.ls (unL gs es at' es.length)), x4, x5, x6] ∧ ((List.range gs.length).any fun w => decide (unionG es at' w = 2 ^ 2 ^ (gs.getD w []).length - 1)) = false) (fun nx hnx => ?_) (fun Γ' w => ?_)
  · refine for_inv (List.range gs.length) (fun (k : Nat) => PyData.int (k : Nat)) (fun k Γ' => ∃ x4 x5 x6, Γ' = [some (.fz (dGs gs)), some (.fz (.list (es.map dE))), some (.fz (.int (at' : Nat))), some (.ls (unL gs es at' es.length)), x4, x5, x6] ∧ ∀ j, j < k → unionG es at' j ≠ 2 ^ 2 ^ (gs.getD j []).length - 1) (Γ1 := [some (.fz (dGs gs)), some (.fz (.list (es.map dE))), some (.fz (.int (at' : Nat))), some (.ls (unL gs es at' es.length)), x4, x5, x6]) (fun QI q => ?_) ⟨x4, x5, x6, rfl, by omega⟩ (fun i k Γ' ek' w => ?_) (fun Γ' w => ?_)
    · walk_at "go"
      rw [List.length_map]
      exact ⟨szI (by omega) (by omega), q⟩
    · obtain ⟨x4, x5, x6, rfl, hno⟩ := w
      obtain ⟨il, rfl⟩ : i < gs.length ∧ i = k := by
        obtain ⟨h1, h2⟩ := List.getElem?_eq_some_iff.mp ek'
        rw [List.length_range] at h1
        rw [List.getElem_range] at h2
        exact ⟨h1, h2⟩
      have eg : gs.getD i [] = gs[i] := by rw [List.getD_eq_getElem?_getD, List.getElem?_eq_getElem il]; rfl
      have l6 := (gk.sm gs[i] (List.getElem_mem il)).2
      walk_at "go"
      refine op_ixL i rfl (unL_get il) ?_
      walk_at "go"
      refine op_ixL i rfl (by rw [List.getElem?_map, List.getElem?_eq_getElem il]; rfl) ?_
      walk_at "go"
      rw [List.length_map]
      refine op_shlI (cshl1 (by omega)) ?_
      rw [shl_eq]
      have p64 : 2 ^ gs[i].length ≤ 64 := Nat.le_trans (Nat.pow_le_pow_right (by omega) l6) (by decide)
      walk_at "go"
      refine op_shlI (cshl1 (by omega)) ?_
      rw [shl_eq]
      have pp : 0 < 2 ^ 2 ^ gs[i].length := Nat.pow_pos (by omega)
      walk_at "go"
      rw [unT_all]
      refine br2 (fun c1 => ?_) (fun c1 => ?_)
      · have c1 := of_decide_eq_true c1
        walk_at "go"
        have : lawF gs es at' = true := by
          unfold lawF
          rw [Bool.or_eq_true, Bool.or_eq_true]
          exact .inl (.inr (List.any_eq_true.mpr ⟨i, List.mem_range.mpr il, by rw [decide_eq_true_eq, eg]; omega⟩))
        rw [this] at q
        exact q
      · have c1 := of_decide_eq_false c1
        walk_at "go"
        exact ⟨_, _, _, rfl, fun j hj => by
          rcases Nat.lt_or_ge j i with y | y
          · exact hno j y
          · rw [show j = i by omega, eg]; omega⟩
    · obtain ⟨x4, x5, x6, rfl, hno⟩ := w
      refine hnx _ ⟨x4, x5, x6, rfl, List.any_eq_false.mpr fun k hk c => ?_⟩
      have c := of_decide_eq_true c
      exact hno k (by have := List.mem_range.mp hk; simpa using this) c
  obtain ⟨x4, x5, x6, rfl, hful⟩ := w
  obtain ⟨g1, g2⟩ := gE at' ha
  obtain ⟨r1, r2, r3⟩ := ek _ g1
  have eF : lawF gs es at' = (decide (0 ≤ (es.getD at' (0, 0)).1) && decide ((es.getD at' (0, 0)).2 ||| unionG es at' (es.getD at' (0, 0)).1.toNat = unionG es at' (es.getD at' (0, 0)).1.toNat)) := by
    unfold lawF
    rw [hneg, hful]; rfl
  rw [eF] at q
  walk_at "go"
  refine op_ixL at' rfl g2 ?_
  walk_at "go"
  refine br2 (fun c1 => ?_) (fun c1 => ?_)
  · have c2 := of_decide_eq_true c1
    obtain ⟨w, hw⟩ : ∃ w : Nat, (es.getD at' (0, 0)).1 = (w : Int) := ⟨(es.getD at' (0, 0)).1.toNat, by omega⟩
    have wl : w < gs.length := by omega
    have ew : (es.getD at' (0, 0)).1.toNat = w := by omega
    walk_at "go"
    refine op_ixL w hw (unL_get wl) ?_
    walk_at "go"
    refine op_orN ?_
    walk_at "go"
    refine op_ixL w hw (unL_get wl) ?_
    walk_at "go"
    rw [c1, ew, Bool.true_and] at q
    rw [unT_all, show decide ((((es.getD at' (0, 0)).2 ||| unionG es at' w : Nat) : Int) = ((unionG es at' w : Nat) : Int)) = decide ((es.getD at' (0, 0)).2 ||| unionG es at' w = unionG es at' w) by congr 1; exact propext ⟨fun h => by omega, fun h => by omega⟩]
    exact q
  · rw [c1, Bool.false_and] at q
    exact q
theorem len__law_due : ∀ ds Q, wp__law_due ds Q → ds.length = 2 := fun ds Q ⟨m, gs, es, e, _⟩ => by rw [e]; rfl
theorem rd__law_due : ∀ ds Q, wp__law_due ds Q → τ__law_due (ends0 Q) (fzs ds ++ List.replicate (3 - ds.length) none) := fun ds Q ⟨m, gs, es, e, gk, ek, le, q⟩ => by
  subst e
  refine st_nrm rfl ?_
  unfold τ__law_due
  walk_at "go"
  refine lc_go (List.range es.length) (fun (i : Nat) => PyData.int (i : Nat)) (lawF gs es) (fun (i : Nat) => PyData.int (i : Nat)) (Γ1 := [some (.fz (dGs gs)), some (.fz (.list (es.map dE))), none]) (fun QI q => ?_) (Evl.sz_of (by rw [List.length_range]; omega)) (by exact plain1 (.inl rfl)) (fun i hi => ⟨_, _, rfl, fun QG q => ⟨_, rfl, q⟩, rfl, fun Q q => ?_, fun _ Q q => ?_⟩) ?_
  · walk_at "go"
    rw [List.length_map]
    exact ⟨szI (by omega) (by omega), q⟩
  · walk_at "go"
    refine ⟨m, gs, es, i, rfl, gk, ek, le, List.mem_range.mp hi, _, rfl, rfl, ?_⟩
    walk_at "go"
    exact q
  · walk_at "go"
    exact q
  walk_at "go"
  exact q
end K18
end
section
open VL PySem L2
local macro_rules | `(tactic| walk_at "vs") => `(tactic| first
  | with_reducible (first | refine st_seq ?_ | refine st_ret ?_ | refine st_set ?_ | refine st_if ?_ | refine st_drop ?_ | refine st_next ?_ | refine st_par ?_ | refine st_asg ?_ | refine st_rt0 ?_ | refine st_nx0 ?_ | refine st_brk ?_ | refine st_cnt ?_ | refine st_retN ?_ | refine st_op ?_ | refine st_op1 ?_ | refine st_an ?_ | refine st_ac ?_ | refine st_cb ?_ | refine st_tup ?_ | refine st_lst ?_ | refine st_to ?_ | refine st_tru ?_ | refine st_tnot ?_ | refine st_tand ?_ | refine st_tor ?_ | refine st_and ?_ | refine st_or ?_ | refine st_not ?_ | refine st_eif ?_ | refine st_chain ?_ | refine st_call ?_ | refine st_calli ?_ | refine st_isi ?_ | refine st_lrg ?_ | refine st_trg ?_ | refine st_sl ?_ | refine st_pn ?_ | refine st_ps ?_ | refine st_iseq ?_ | refine st_ir1 ?_ | refine st_ir2 ?_ | refine st_yes ?_ | refine st_c ?_ | refine st_xo ?_ | refine st_ox ?_ | refine st_cbe ?_ | refine st_true ?_ | refine st_ixe ?_ | refine st_dnew ?_ | refine st_ao0 ?_ | refine st_ao ?_ | refine st_trl ?_ | refine st_callk ?_ | refine st_callB ?_ | refine st_put ?_ | refine st_dput ?_ | refine st_g0 ?_ | refine st_sme ?_ | refine st_sme0 ?_ | refine st_pute ?_ | refine st_par3 ?_ | refine st_xelD ?_ | refine st_cbd ?_ | refine st_truDE ?_ | refine st_ixD' ?_ | refine st_smd ?_ | refine st_smd0 ?_ | refine st_putD ?_ | refine st_tdl ?_ | refine st_idx ?_ | refine st_rev ?_)
  | (with_reducible show (sAugI _ _ _ _ _)); refine st_augI rfl ?_
  | (with_reducible show (xVar _ _ _)); refine st_var rfl ?_
  | (with_reducible show (xVal _ _ _)); (first | refine st_val rfl ?_ | refine st_valL rfl rfl rfl ?_)
  | (with_reducible show (oMv _ _ _)); (first | refine st_mv rfl ?_ | refine st_mvL rfl rfl ?_)
  | (with_reducible show (eIxS _ _ _ _)); (first | refine st_ixT rfl ?_ | refine st_ixLs rfl ?_ | refine st_ixF rfl ?_ | refine st_ixTr rfl ?_ | refine st_ixDic rfl rfl ?_)
  | (with_reducible show (eLenS _ _ _)); (first | refine st_lenT rfl ?_ | refine st_lenD _ rfl ?_)
  | (with_reducible show (eEl _ _ _ _)); refine st_el rfl ?_
  | (with_reducible show (eApp _ _ _ _ _)); (first | refine st_app (listG_ls rfl) ?_ | refine st_app (listG_tr rfl) ?_)
  | (with_reducible show (sPutS _ _ _ _ _ _)); (first | refine st_putS rfl ?_ | refine st_putSD rfl ?_)
  | (with_reducible show (eInS _ _ _ _)); (first | refine st_in rfl ?_ | refine st_din rfl ?_)
  | (with_reducible show (eNotInS _ _ _ _)); (first | refine st_notin rfl ?_ | refine st_dnotin rfl ?_)
  | (with_reducible show (tInS _ _ _ _)); (first | refine st_tin rfl ?_ | refine st_tdin rfl ?_)
  | (with_reducible show (tNotInS _ _ _ _)); (first | refine st_tnotin rfl ?_ | refine st_tdnotin rfl ?_)
  | (with_reducible show (sDel _ _ _ _)); refine st_del rfl ?_
  | (with_reducible show (eSM _ _ _ _ _)); refine st_sm rfl ?_
  | (with_reducible show (gN _ _ _ _)); refine st_gn rfl ?_
  | (with_reducible show (gConss _ _ _ _ _)); refine st_gc ?_
  | (with_reducible show (gTupD _ _ _ _ _)); refine st_gt rfl ?_
  | (with_reducible show (∃ d b, _ = some d ∧ kitD d _ = some b ∧ _)); (first | refine ⟨_, true, rfl, (rfl : kitD _ _ = some true), ?_⟩ | refine ⟨_, false, rfl, (rfl : kitD _ _ = some false), ?_⟩)
  | (with_reducible show (∃ _, _)); (first | refine ⟨_, rfl, ?_⟩ | refine ⟨_, _, rfl, rfl, ?_⟩ | refine ⟨_, _, _, rfl, rfl, rfl, ?_⟩ | refine ⟨_, _, _, _, rfl, rfl, rfl, ?_⟩ | refine ⟨_, _, _, _, rfl, rfl, rfl, rfl, ?_⟩ | refine ⟨_, _, _, rfl, .inl ⟨_, rfl, rfl, rfl⟩, ?_⟩)
  | (with_reducible show ((∃ _, _) ∧ _)); (first | refine ⟨⟨_, rfl, _, .inl rfl⟩, ?_⟩ | refine ⟨⟨_, rfl, [], .inr ⟨_, rfl⟩⟩, ?_⟩)
  | (with_reducible show (_ ≤ sizeLine ∧ _)); refine ⟨Evl.sz_of (Nat.le_of_ble_eq_true rfl), ?_⟩)
local macro_rules | `(tactic| walk_at "op") => `(tactic| first
  | (with_reducible show (opAdd _ _ _)); (first | refine op_addI ?_)
  | (with_reducible show (opSub _ _ _)); (first | refine op_subI ?_)
  | (with_reducible show (opLt _ _ _)); (first | refine op_ltI ?_)
  | (with_reducible show (opLe _ _ _)); (first | refine op_leI ?_)
  | (with_reducible show (opGt _ _ _)); (first | refine op_gtI ?_)
  | (with_reducible show (opGe _ _ _)); (first | refine op_geI ?_)
  | (with_reducible show (opEq _ _ _)); (first | refine op_eqI ?_ | refine op_eqB ?_)
  | (with_reducible show (opNe _ _ _)); (first | refine op_neI ?_ | refine op_neB ?_)
  | (with_reducible show (opIsN _ _ _)); (first | refine op_isNone ?_ | refine op_isInt ?_ | refine op_isTup ?_ | refine op_isBl ?_ | refine op_isSt ?_ | refine op_isLs ?_)
  | (with_reducible show (opNotN _ _ _)); (first | refine op_notNone ?_ | refine op_notTup ?_)
  | (with_reducible show (opIx _ _ _)); (first | refine op_ixT0 rfl ?_ | refine op_ixT1 rfl ?_ | refine op_ixT2 rfl ?_ | refine op_ixL0 rfl ?_ | refine op_ixL1 rfl ?_)
  | (with_reducible show (op1Neg _ _)); refine op1_negI ?_
  | (with_reducible show (cdLen _ _)); (first | refine cd_lenL ?_ | refine cd_lenT ?_)
  | (with_reducible show (cdInt _ _)); (first | refine cd_intI ?_ | refine cd_intB ?_)
  | (with_reducible show (cdTuple _ _)); (first | refine cd_tupL ?_ | refine cd_tupT ?_)
  | (with_reducible show (cdList _ _)); (first | refine cd_listL ?_ | refine cd_listT ?_)
  | (with_reducible show (cdAbs _ _)); (first | refine cd_absI ?_)
  | (with_reducible show (cdMin2 _ _)); (first | refine cd_min2I ?_)
  | (with_reducible show (cdMax2 _ _)); (first | refine cd_max2I ?_)
  | (with_reducible show (sdAll _ _ _ _)); (first | refine sd_T ?_ | refine sd_L ?_))
local macro_rules | `(tactic| walk_at "go") => `(tactic| repeat (first | walk_at "vs" | walk_at "op"))
local macro_rules | `(tactic| walk_at "gb") => `(tactic| repeat (first | walk_at "vs" | walk_at "op" | with_reducible (first | refine br_t ?_ | refine br_f ?_ | refine br_nt ?_ | refine br_nf ?_)))
namespace K18
open FM
theorem op_shrI {i j : Int} {Q : O → Prop} (hc : 0 ≤ j) (h : Q (.fz (.int (i / 2 ^ j.toNat)))) : opShr (.int i) (.int j) Q := ⟨hc, h⟩
theorem op_andI {i j : Int} {Q : O → Prop} (h : Q (.fz (.int (PySem.Builtin.bitAnd i j)))) : opAndI (.int i) (.int j) Q := h
theorem and_bit (n j : Nat) : decide (PySem.Builtin.bitAnd (((n : Nat) : Int) / 2 ^ j) 1 = 1) = n.testBit j := by
  have e : (((n : Nat) : Int) / 2 ^ j) = ((n / 2 ^ j : Nat) : Int) := by
    rw [Int.natCast_ediv]; simp
  rw [e]
  unfold PySem.Builtin.bitAnd
  rw [decide_eq_true (Int.natCast_nonneg _), decide_eq_true (show (0 : Int) ≤ 1 by decide)]
  show decide ((((n / 2 ^ j : Nat) : Int).toNat &&& (1 : Int).toNat : Nat) = (1 : Int)) = _
  rw [Int.toNat_natCast, show (1 : Int).toNat = 1 from rfl, Nat.and_one_is_mod, Nat.testBit_eq_decide_div_mod_eq]
  congr 1
  apply propext
  omega

theorem op_indexE {α : Type} [DecidableEq α] {enc : α → PyData} {n : Nat} (h : Enc enc n) (hn : n + 1 ≤ 64) {a : α} {xs : List α} {j : Nat} (hj : xs[j]? = some a) (hf : ∀ (m : Nat) (z : α), m < j → xs[m]? = some z → z ≠ a) {Q : O → Prop} (q : Q (.fz (.int (j : Nat)))) : opIndex (.list (xs.map enc)) (enc a) Q := by
  refine ⟨h.lst.shaped (by omega) xs, h.shaped (by omega) a, j, enc a, by rw [List.getElem?_map, hj]; rfl, by rw [h.eq]; simp, fun m z' hm e => ?_, q⟩
  rw [List.getElem?_map] at e
  cases e2 : xs[m]? with
  | none => rw [e2] at e; cases e
  | some z =>
    rw [e2] at e
    cases e
    rw [h.eq]
    simpa using hf m z hm e2
theorem ixIn_at {g : List Int} {b : Int} (h : b ∈ g) : g[ixIn g b]? = some b ∧ ∀ (m : Nat) (z : Int), m < ixIn g b → g[m]? = some z → z ≠ b := by
  unfold ixIn
  induction g with
  | nil => cases h
  | cons x g ih =>
    rw [List.findIdx?_cons]
    by_cases c : x = b
    · rw [if_pos (by simpa using c)]
      exact ⟨by subst c; rfl, fun m z hm => absurd hm (by simp)⟩
    · rw [if_neg (by simpa using c)]
      have hb : b ∈ g := by
        rcases List.mem_cons.mp h with e | e
        · exact absurd e.symm c
        · exact e
      obtain ⟨h1, h2⟩ := ih hb
      cases e : g.findIdx? (fun x => decide (x = b)) with
      | none =>
        rw [List.findIdx?_eq_none_iff] at e
        have := e b hb
        simp at this
      | some j =>
        rw [e] at h1 h2
        refine ⟨h1, fun m z hm ez => ?_⟩
        cases m with
        | zero => cases ez; exact c
        | succ m => exact h2 m z (by simpa using hm) ez
def wT (gs : List (List Int)) (r : Rule) (k : Nat) : Int := match r with
  | [] => -1
  | l :: _ => (List.range k).foldl (fun w k => if isIn l.1 (gs.getD k []) then (k : Int) else w) (-1)
theorem wT_all (gs : List (List Int)) (r : Rule) : wT gs r gs.length = whichG gs r := by cases r <;> rfl
theorem wT_succ (gs : List (List Int)) (l : Lit) (r : Rule) (k : Nat) : wT gs (l :: r) (k + 1) = if isIn l.1 (gs.getD k []) then (k : Int) else wT gs (l :: r) k := by
  show (List.range (k + 1)).foldl _ _ = _
  rw [List.range_succ, List.foldl_append]
  rfl
theorem wT_cases (gs : List (List Int)) (l : Lit) (r : Rule) : ∀ k : Nat, (wT gs (l :: r) k = -1 ∧ ∀ j, j < k → isIn l.1 (gs.getD j []) = false) ∨ ∃ w : Nat, w < k ∧ wT gs (l :: r) k = (w : Int) ∧ isIn l.1 (gs.getD w []) = true
  | 0 => .inl ⟨rfl, by omega⟩
  | k + 1 => by
    rw [wT_succ]
    cases c : isIn l.1 (gs.getD k []) with
    | true => exact .inr ⟨k, by omega, rfl, c⟩
    | false =>
      rcases wT_cases gs l r k with ⟨h1, h2⟩ | ⟨w, h1, h2, h3⟩
      · refine .inl ⟨h1, fun j hj => ?_⟩
        rcases Nat.lt_or_ge j k with y | y
        · exact h2 j y
        · rw [show j = k by omega]; exact c
      · exact .inr ⟨w, by omega, h2, h3⟩
theorem getD_at {α : Type} {xs : List α} {k : Nat} {d : α} (h : k < xs.length) : xs.getD k d = xs[k] := by rw [List.getD_eq_getElem?_getD, List.getElem?_eq_getElem h]; rfl
/-- a rule that is not empty: its group -/
theorem which_ok {m : Nat} {gs : List (List Int)} (gk : GrOk m gs) {l : Lit} {r : Rule} (h : Rin m gs (l :: r)) : ∃ w : Nat, w < gs.length ∧ whichG gs (l :: r) = (w : Int) ∧ ∀ x ∈ l :: r, x.1 ∈ gs.getD w [] := by
  obtain ⟨g, hg, hb⟩ : ∃ g ∈ gs, ∀ x ∈ l :: r, x.1 ∈ g := by
    rcases h.2 with e | e
    · cases e
    · exact e
  obtain ⟨k, hk, ek⟩ := List.getElem_of_mem hg
  rcases wT_cases gs l r gs.length with ⟨h1, h2⟩ | ⟨w, h1, h2, h3⟩
  · have := h2 k hk
    rw [getD_at hk, ek] at this
    exact absurd (hb l (by simp)) (isIn_false.mp this)
  · refine ⟨w, h1, by rw [← wT_all]; exact h2, fun x hx => ?_⟩
    rw [getD_at h1] at h3 ⊢
    have hw : l.1 ∈ gs[w] := isIn_iff.mp h3
    have hl : l.1 ∈ g := hb l (by simp)
    have e : w = k := by
      rcases Nat.lt_trichotomy w k with z | z | z
      · exact absurd (by rw [ek]; exact hl) (List.pairwise_iff_getElem.mp gk.dis w k h1 hk z l.1 hw)
      · exact z
      · exact absurd hw (List.pairwise_iff_getElem.mp gk.dis k w hk h1 z l.1 (by rw [ek]; exact hl))
    subst e
    rw [ek]
    exact hb x hx
def mT (g : List Int) (r : Rule) (k : Nat) : Nat := (List.range k).foldl (fun a n => if brk g r n then a ||| 2 ^ n else a) 0
theorem mT_all (g : List Int) (r : Rule) : mT g r (2 ^ g.length) = maskG g r := rfl
theorem mT_succ (g : List Int) (r : Rule) (k : Nat) : mT g r (k + 1) = if brk g r k then mT g r k ||| 2 ^ k else mT g r k := by
  unfold mT
  rw [List.range_succ, List.foldl_append]
  rfl
theorem filter_none {α : Type} (p : α → Bool) (xs : List α) (n : Nat) (e : (xs.filter p).length = n) : decide (((n : Nat) : Int) = 0) = !xs.any p := by
  subst e
  induction xs with
  | nil => rfl
  | cons x xs ih =>
    rw [List.filter_cons, List.any_cons]
    cases h : p x with
    | true => simp; omega
    | false => simpa using ih
theorem len__law_table : ∀ ds Q, wp__law_table ds Q → ds.length = 2 := fun ds Q ⟨m, gs, rs, e, _⟩ => by rcases e with e | e <;> (rw [e]; rfl)
theorem rd__law_table : ∀ ds Q, wp__law_table ds Q → τ__law_table (ends0 Q) (fzs ds ++ List.replicate (11 - ds.length) none) := fun ds Q ⟨m, gs, rs, e, gk, lr, hr, q⟩ => by
  have lg := gk.len
  have key : ∀ (d : PyData), seqD d = some (rs.map dR) → τ__law_table (ends0 Q) [some (.fz (dGs gs)), some (.fz d), none, none, none, none, none, none, none, none, none] := fun d sd => by
    unfold τ__law_table
    walk_at "go"
    refine for_inv rs dR (fun i Γ' => ∃ x3 x4 x5 x6 x7 x8, Γ' = [some (.fz (dGs gs)), some (.fz d), some (.ls (((rs.take i).map (ent gs)).map dE)), x3, x4, x5, x6, x7, x8, none, none]) (Γ1 := [some (.fz (dGs gs)), some (.fz d), some (.ls []), none, none, none, none, none, none, none, none]) (fun QI q => ?_) ⟨none, none, none, none, none, none, rfl⟩ (fun i r Γ' er w => ?_) (fun Γ' w => ?_)
    · refine st_iseq ?_
      walk_at "go"
      exact ⟨_, _, rfl, sd, q⟩
    · obtain ⟨x3, x4, x5, x6, x7, x8, rfl⟩ := w
      have il := (List.getElem?_eq_some_iff.mp er).1
      have rin := hr r (List.mem_of_getElem? er)
      have rl := rin.1.len
      have m12 := gk.m12
      have tk : rs.take (i + 1) = rs.take i ++ [r] := by rw [List.take_add_one, er]; rfl
      refine st_gn rfl ?_
      refine seq_cut (fun Γ' => Γ' = [some (.fz (dGs gs)), some (.fz d), some (.ls (((rs.take i).map (ent gs)).map dE)), some (.fz (dR r)), some (.fz (.int (-1))), x5, x6, x7, x8, none, none]) (fun nx hnx => ?_) (fun Γ' w => ?_)
      · walk_at "go"
        exact hnx _ rfl
      subst w
      refine seq_cut (fun Γ' => Γ' = [some (.fz (dGs gs)), some (.fz d), some (.ls (((rs.take i).map (ent gs)).map dE)), some (.fz (dR r)), some (.fz (.int (-1))), some (.fz (.int ((0 : Nat) : Int))), x6, x7, x8, none, none]) (fun nx hnx => ?_) (fun Γ' w => ?_)
      · walk_at "go"
        exact hnx _ rfl
      subst w
      refine seq_cut (fun Γ' => ∃ x6, Γ' = [some (.fz (dGs gs)), some (.fz d), some (.ls (((rs.take i).map (ent gs)).map dE)), some (.fz (dR r)), some (.fz (.int (whichG gs r))), some (.fz (.int ((0 : Nat) : Int))), x6, x7, x8, none, none]) (fun nx hnx => ?_) (fun Γ' w => ?_)
      · refine for_inv (List.range gs.length) (fun (k : Nat) => PyData.int (k : Nat)) (fun k Γ' => ∃ x6, Γ' = [some (.fz (dGs gs)), some (.fz d), some (.ls (((rs.take i).map (ent gs)).map dE)), some (.fz (dR r)), some (.fz (.int (wT gs r k))), some (.fz (.int ((0 : Nat) : Int))), x6, x7, x8, none, none]) (Γ1 := [some (.fz (dGs gs)), some (.fz d), some (.ls (((rs.take i).map (ent gs)).map dE)), some (.fz (dR r)), some (.fz (.int (-1))), some (.fz (.int ((0 : Nat) : Int))), x6, x7, x8, none, none]) (fun QI q => ?_) ⟨x6, by cases r <;> rfl⟩ (fun k k' Γ' ek w => ?_) (fun Γ' w => ?_)
        · walk_at "go"
          rw [List.length_map]
          exact ⟨szI (by omega) (by omega), q⟩
        · obtain ⟨x6, rfl⟩ := w
          obtain ⟨kl, rfl⟩ : k < gs.length ∧ k = k' := by
            obtain ⟨h1, h2⟩ := List.getElem?_eq_some_iff.mp ek
            rw [List.length_range] at h1
            rw [List.getElem_range] at h2
            exact ⟨h1, h2⟩
          cases r with
          | nil =>
            walk_at "go"
            refine br2 (fun z => by have := of_decide_eq_true z; simp at this) (fun _ => ?_)
            walk_at "go"
            refine br2 (fun z => by cases z) (fun _ => ?_)
            walk_at "go"
            exact ⟨_, rfl⟩
          | cons l r' =>
            walk_at "go"
            refine br2 (fun _ => ?_) (fun z => by have := of_decide_eq_false z; exact absurd (by simp) this)
            walk_at "go"
            refine op_ixL k rfl (by rw [List.getElem?_map, List.getElem?_eq_getElem kl]; rfl) ?_
            walk_at "go"
            refine op_inLE (enc := PyData.int) enc_int (by decide) ?_
            walk_at "go"
            have ws := wT_succ gs l r' k
            rw [getD_at kl] at ws
            refine br2 (fun c => ?_) (fun c => ?_)
            · walk_at "go"
              rw [c, if_pos rfl] at ws
              exact ⟨_, by rw [ws]⟩
            · walk_at "go"
              rw [c, if_neg (by simp)] at ws
              exact ⟨_, by rw [ws]⟩
        · obtain ⟨x6, rfl⟩ := w
          rw [List.length_range, wT_all]
          exact hnx _ ⟨x6, rfl⟩
      obtain ⟨x6, rfl⟩ := w
      refine seq_cut (fun Γ' => ∃ x6 x7 x8, Γ' = [some (.fz (dGs gs)), some (.fz d), some (.ls (((rs.take i).map (ent gs)).map dE)), some (.fz (dR r)), some (.fz (.int (ent gs r).1)), some (.fz (.int (((ent gs r).2 : Nat) : Int))), x6, x7, x8, none, none]) (fun nx hnx => ?_) (fun Γ' w => ?_)
      · cases r with
        | nil =>
          walk_at "go"
          refine br2 (fun z => by have := of_decide_eq_true z; simp [whichG] at this) (fun _ => ?_)
          walk_at "go"
          exact hnx _ ⟨_, _, _, rfl⟩
        | cons l r' =>
          obtain ⟨w, wl, ew, win⟩ := which_ok gk rin
          rw [getD_at wl] at win
          have l6 := (gk.sm gs[w] (List.getElem_mem wl)).2
          have ee : ent gs (l :: r') = ((w : Int), maskG gs[w] (l :: r')) := by
            unfold ent
            rw [ew, if_neg (by omega), Int.toNat_natCast, getD_at wl]
          rw [ee] at hnx
          generalize l :: r' = r at rin rl ew win ee hnx
          rw [ew]
          walk_at "go"
          refine br2 (fun _ => ?_) (fun z => by have := of_decide_eq_false z; omega)
          walk_at "go"
          refine op_ixL w rfl (by rw [List.getElem?_map, List.getElem?_eq_getElem wl]; rfl) ?_
          have p64 : 2 ^ gs[w].length ≤ 64 := Nat.le_trans (Nat.pow_le_pow_right (by omega) l6) (by decide)
          generalize gs[w] = g at win l6 hnx p64
          walk_at "go"
          dsimp only
          refine for_inv (List.range (2 ^ g.length)) (fun (k : Nat) => PyData.int (k : Nat)) (fun k Γ' => ∃ x6 x8, Γ' = [some (.fz (dGs gs)), some (.fz d), some (.ls (((rs.take i).map (ent gs)).map dE)), some (.fz (dR r)), some (.fz (.int (w : Nat))), some (.fz (.int ((mT g r k : Nat) : Int))), x6, some (.fz (.list (g.map .int))), x8, none, none]) (Γ1 := [some (.fz (dGs gs)), some (.fz d), some (.ls (((rs.take i).map (ent gs)).map dE)), some (.fz (dR r)), some (.fz (.int (w : Nat))), some (.fz (.int ((0 : Nat) : Int))), x6, some (.fz (.list (g.map .int))), x8, none, none]) (fun QI q => ?_) ⟨x6, x8, rfl⟩ (fun k k' Γ' ek w => ?_) (fun Γ' w => ?_)
          · walk_at "go"
            rw [List.length_map]
            refine op_shlI (cshl1 (by omega)) ?_
            rw [shl_eq]
            walk_at "go"
            refine ⟨szI (Int.natCast_nonneg _) (Int.le_trans (Int.ofNat_le.mpr p64) (by decide)), ?_⟩
            rw [Int.toNat_natCast]
            exact q
          · obtain ⟨x6, x8, rfl⟩ := w
            obtain ⟨kl, rfl⟩ : k < 2 ^ g.length ∧ k = k' := by
              obtain ⟨h1, h2⟩ := List.getElem?_eq_some_iff.mp ek
              rw [List.length_range] at h1
              rw [List.getElem_range] at h2
              exact ⟨h1, h2⟩
            walk_at "go"
            refine lc_go r dL (fun l => k.testBit (ixIn g l.1) == l.2) (fun l => .int l.1) (fun QI q => by walk_at "go"; exact q) (Evl.sz_of (by omega)) (by exact plain2 (.inl rfl) (.inl rfl)) (fun l hl => ⟨_, [some (.fz (dGs gs)), some (.fz d), some (.ls (((rs.take i).map (ent gs)).map dE)), some (.fz (dR r)), some (.fz (.int (w : Nat))), some (.fz (.int ((mT g r k : Nat) : Int))), some (.fz (.int (k : Nat))), some (.fz (.list (g.map .int))), x8, some (.fz (.int l.1)), some (.fz (.bool l.2))], rfl, fun QG q => ?_, rfl, fun Q q => ?_, fun _ Q q => ?_⟩) ?_
            · walk_at "go"
              exact q
            · walk_at "go"
              refine ⟨⟨_, rfl⟩, ?_⟩
              walk_at "go"
              obtain ⟨i1, i2⟩ := ixIn_at (win l hl)
              refine op_indexE enc_int (by decide) i1 i2 ?_
              walk_at "go"
              refine op_shrI (by omega) ?_
              walk_at "go"
              refine op_andI ?_
              walk_at "go"
              rw [Int.toNat_natCast, and_bit]
              exact q
            · walk_at "go"
              exact q
            walk_at "go"
            rw [List.length_map, filter_none _ _ _ rfl]
            have ms := mT_succ g r k
            have eb : brk g r k = !r.any (fun l => k.testBit (ixIn g l.1) == l.2) := rfl
            rw [← eb]
            cases hb : brk g r k with
            | true =>
              walk_at "gb"
              refine op_shlI (cshl1 (by omega)) ?_
              rw [shl_eq]
              walk_at "gb"
              refine op_orN ?_
              walk_at "gb"
              rw [hb, if_pos rfl] at ms
              exact ⟨_, _, by rw [ms]⟩
            | false =>
              walk_at "gb"
              rw [hb, if_neg (by simp)] at ms
              exact ⟨_, _, by rw [ms]⟩
          · obtain ⟨x6, x8, rfl⟩ := w
            rw [List.length_range, mT_all]
            exact hnx _ ⟨_, _, _, rfl⟩
      obtain ⟨x6, x7, x8, rfl⟩ := w
      walk_at "go"
      refine st_appL rfl (by rw [List.length_map, List.length_map, List.length_take]; exact sz' (by omega)) rfl rfl ?_
      walk_at "go"
      exact ⟨_, _, _, _, _, _, by rw [tk, List.map_append, List.map_append]; rfl⟩
    · obtain ⟨x3, x4, x5, x6, x7, x8, rfl⟩ := w
      rw [List.take_length]
      walk_at "go"
      exact q
  rcases e with e | e
  · subst e
    refine st_nrm rfl ?_
    exact key _ rfl
  · subst e
    refine st_nrm rfl ?_
    exact key _ rfl
end K18
end
section
open VL PySem L2
local macro_rules | `(tactic| walk_at "vs") => `(tactic| first
  | with_reducible (first | refine st_seq ?_ | refine st_ret ?_ | refine st_set ?_ | refine st_if ?_ | refine st_drop ?_ | refine st_next ?_ | refine st_par ?_ | refine st_asg ?_ | refine st_rt0 ?_ | refine st_nx0 ?_ | refine st_brk ?_ | refine st_cnt ?_ | refine st_retN ?_ | refine st_op ?_ | refine st_op1 ?_ | refine st_an ?_ | refine st_ac ?_ | refine st_cb ?_ | refine st_tup ?_ | refine st_lst ?_ | refine st_to ?_ | refine st_tru ?_ | refine st_tnot ?_ | refine st_tand ?_ | refine st_tor ?_ | refine st_and ?_ | refine st_or ?_ | refine st_not ?_ | refine st_eif ?_ | refine st_chain ?_ | refine st_call ?_ | refine st_calli ?_ | refine st_isi ?_ | refine st_lrg ?_ | refine st_trg ?_ | refine st_sl ?_ | refine st_pn ?_ | refine st_ps ?_ | refine st_iseq ?_ | refine st_ir1 ?_ | refine st_ir2 ?_ | refine st_yes ?_ | refine st_c ?_ | refine st_xo ?_ | refine st_ox ?_ | refine st_cbe ?_ | refine st_true ?_ | refine st_ixe ?_ | refine st_dnew ?_ | refine st_ao0 ?_ | refine st_ao ?_ | refine st_trl ?_ | refine st_callk ?_ | refine st_callB ?_ | refine st_put ?_ | refine st_dput ?_ | refine st_g0 ?_ | refine st_sme ?_ | refine st_sme0 ?_ | refine st_pute ?_ | refine st_par3 ?_ | refine st_xelD ?_ | refine st_cbd ?_ | refine st_truDE ?_ | refine st_ixD' ?_ | refine st_smd ?_ | refine st_smd0 ?_ | refine st_putD ?_ | refine st_tdl ?_ | refine st_idx ?_ | refine st_rev ?_)
  | (with_reducible show (sAugI _ _ _ _ _)); refine st_augI rfl ?_
  | (with_reducible show (xVar _ _ _)); refine st_var rfl ?_
  | (with_reducible show (xVal _ _ _)); (first | refine st_val rfl ?_ | refine st_valL rfl rfl rfl ?_)
  | (with_reducible show (oMv _ _ _)); (first | refine st_mv rfl ?_ | refine st_mvL rfl rfl ?_)
  | (with_reducible show (eIxS _ _ _ _)); (first | refine st_ixT rfl ?_ | refine st_ixLs rfl ?_ | refine st_ixF rfl ?_ | refine st_ixTr rfl ?_ | refine st_ixDic rfl rfl ?_)
  | (with_reducible show (eLenS _ _ _)); (first | refine st_lenT rfl ?_ | refine st_lenD _ rfl ?_)
  | (with_reducible show (eEl _ _ _ _)); refine st_el rfl ?_
  | (with_reducible show (eApp _ _ _ _ _)); (first | refine st_app (listG_ls rfl) ?_ | refine st_app (listG_tr rfl) ?_)
  | (with_reducible show (sPutS _ _ _ _ _ _)); (first | refine st_putS rfl ?_ | refine st_putSD rfl ?_)
  | (with_reducible show (eInS _ _ _ _)); (first | refine st_in rfl ?_ | refine st_din rfl ?_)
  | (with_reducible show (eNotInS _ _ _ _)); (first | refine st_notin rfl ?_ | refine st_dnotin rfl ?_)
  | (with_reducible show (tInS _ _ _ _)); (first | refine st_tin rfl ?_ | refine st_tdin rfl ?_)
  | (with_reducible show (tNotInS _ _ _ _)); (first | refine st_tnotin rfl ?_ | refine st_tdnotin rfl ?_)
  | (with_reducible show (sDel _ _ _ _)); refine st_del rfl ?_
  | (with_reducible show (eSM _ _ _ _ _)); refine st_sm rfl ?_
  | (with_reducible show (gN _ _ _ _)); refine st_gn rfl ?_
  | (with_reducible show (gConss _ _ _ _ _)); refine st_gc ?_
  | (with_reducible show (gTupD _ _ _ _ _)); refine st_gt rfl ?_
  | (with_reducible show (∃ d b, _ = some d ∧ kitD d _ = some b ∧ _)); (first | refine ⟨_, true, rfl, (rfl : kitD _ _ = some true), ?_⟩ | refine ⟨_, false, rfl, (rfl : kitD _ _ = some false), ?_⟩)
  | (with_reducible show (∃ _, _)); (first | refine ⟨_, rfl, ?_⟩ | refine ⟨_, _, rfl, rfl, ?_⟩ | refine ⟨_, _, _, rfl, rfl, rfl, ?_⟩ | refine ⟨_, _, _, _, rfl, rfl, rfl, ?_⟩ | refine ⟨_, _, _, _, rfl, rfl, rfl, rfl, ?_⟩ | refine ⟨_, _, _, rfl, .inl ⟨_, rfl, rfl, rfl⟩, ?_⟩)
  | (with_reducible show ((∃ _, _) ∧ _)); (first | refine ⟨⟨_, rfl, _, .inl rfl⟩, ?_⟩ | refine ⟨⟨_, rfl, [], .inr ⟨_, rfl⟩⟩, ?_⟩)
  | (with_reducible show (_ ≤ sizeLine ∧ _)); refine ⟨Evl.sz_of (Nat.le_of_ble_eq_true rfl), ?_⟩)
local macro_rules | `(tactic| walk_at "op") => `(tactic| first
  | (with_reducible show (opAdd _ _ _)); (first | refine op_addI ?_)
  | (with_reducible show (opSub _ _ _)); (first | refine op_subI ?_)
  | (with_reducible show (opLt _ _ _)); (first | refine op_ltI ?_)
  | (with_reducible show (opLe _ _ _)); (first | refine op_leI ?_)
  | (with_reducible show (opGt _ _ _)); (first | refine op_gtI ?_)
  | (with_reducible show (opGe _ _ _)); (first | refine op_geI ?_)
  | (with_reducible show (opEq _ _ _)); (first | refine op_eqI ?_ | refine op_eqB ?_)
  | (with_reducible show (opNe _ _ _)); (first | refine op_neI ?_ | refine op_neB ?_)
  | (with_reducible show (opIsN _ _ _)); (first | refine op_isNone ?_ | refine op_isInt ?_ | refine op_isTup ?_ | refine op_isBl ?_ | refine op_isSt ?_ | refine op_isLs ?_)
  | (with_reducible show (opNotN _ _ _)); (first | refine op_notNone ?_ | refine op_notTup ?_)
  | (with_reducible show (opIx _ _ _)); (first | refine op_ixT0 rfl ?_ | refine op_ixT1 rfl ?_ | refine op_ixT2 rfl ?_ | refine op_ixL0 rfl ?_ | refine op_ixL1 rfl ?_)
  | (with_reducible show (op1Neg _ _)); refine op1_negI ?_
  | (with_reducible show (cdLen _ _)); (first | refine cd_lenL ?_ | refine cd_lenT ?_)
  | (with_reducible show (cdInt _ _)); (first | refine cd_intI ?_ | refine cd_intB ?_)
  | (with_reducible show (cdTuple _ _)); (first | refine cd_tupL ?_ | refine cd_tupT ?_)
  | (with_reducible show (cdList _ _)); (first | refine cd_listL ?_ | refine cd_listT ?_)
  | (with_reducible show (cdAbs _ _)); (first | refine cd_absI ?_)
  | (with_reducible show (cdMin2 _ _)); (first | refine cd_min2I ?_)
  | (with_reducible show (cdMax2 _ _)); (first | refine cd_max2I ?_)
  | (with_reducible show (sdAll _ _ _ _)); (first | refine sd_T ?_ | refine sd_L ?_))
local macro_rules | `(tactic| walk_at "go") => `(tactic| repeat (first | walk_at "vs" | walk_at "op"))
local macro_rules | `(tactic| walk_at "gb") => `(tactic| repeat (first | walk_at "vs" | walk_at "op" | with_reducible (first | refine br_t ?_ | refine br_f ?_ | refine br_nt ?_ | refine br_nf ?_)))
namespace K18
open FM
theorem mT_lt (g : List Int) (r : Rule) : ∀ k, mT g r k < 2 ^ k
  | 0 => by unfold mT; simp
  | k + 1 => by
    have ih := mT_lt g r k
    rw [mT_succ]
    have e : 2 ^ k < 2 ^ (k + 1) := Nat.pow_lt_pow_right (by omega) (by omega)
    split
    · exact Nat.or_lt_two_pow (Nat.lt_trans ih e) e
    · exact Nat.lt_trans ih e
theorem ent_ok {m : Nat} {gs : List (List Int)} (gk : GrOk m gs) {rs : List Rule} (h : ∀ r ∈ rs, Rin m gs r) : EnOk' gs (rs.map (ent gs)) := fun e he => by
  obtain ⟨r, hr, rfl⟩ := List.mem_map.mp he
  have rin := h r hr
  cases r with
  | nil => exact ⟨by show (-1 : Int) ≤ -1; omega, by show (-1 : Int) < _; omega, by show 0 < 2 ^ 64; decide⟩
  | cons l r' =>
    obtain ⟨w, wl, ew, _⟩ := which_ok gk rin
    have l6 := (gk.sm gs[w] (List.getElem_mem wl)).2
    have ee : ent gs (l :: r') = ((w : Int), maskG gs[w] (l :: r')) := by
      unfold ent
      rw [ew, if_neg (by omega), Int.toNat_natCast, getD_at wl]
    rw [ee]
    have p64 : 2 ^ gs[w].length ≤ 64 := Nat.le_trans (Nat.pow_le_pow_right (by omega) l6) (by decide)
    refine ⟨by show (-1 : Int) ≤ (w : Int); omega, by show (w : Int) < _; omega, ?_⟩
    show maskG gs[w] (l :: r') < 2 ^ 64
    rw [← mT_all]
    exact Nat.lt_of_lt_of_le (mT_lt _ _ _) (Nat.pow_le_pow_right (by omega) p64)
theorem len__law_lean : ∀ ds Q, wp__law_lean ds Q → ds.length = 2 := fun ds Q ⟨m, gs, rs, e, _⟩ => by rw [e]; rfl
theorem rd__law_lean : ∀ ds Q, wp__law_lean ds Q → τ__law_lean (ends0 Q) (fzs ds ++ List.replicate (6 - ds.length) none) := fun ds Q ⟨m, gs, rs, e, gk, lr, hr, q⟩ => by
  subst e
  refine st_nrm rfl ?_
  unfold τ__law_lean
  walk_at "go"
  refine ⟨m, gs, rs, .inr rfl, gk, lr, hr, ?_⟩
  walk_at "go"
  refine for_inv (List.range rs.length) (fun (k : Nat) => PyData.int (k : Nat)) (fun k Γ' => ∃ (ss : List Rule) (x4 x5 : Option O), Γ' = [some (.fz (dGs gs)), some (.fz (.tuple (rs.map dR))), some (.ls (ss.map dR)), some (.ls ((ss.map (ent gs)).map dE)), x4, x5] ∧ outS (lawI gs) (rs.length - k) ss = outS (lawI gs) rs.length rs ∧ ss.length ≤ 200 ∧ ∀ r ∈ ss, Rin m gs r) (Γ1 := [some (.fz (dGs gs)), some (.fz (.tuple (rs.map dR))), some (.ls (rs.map dR)), some (.ls ((rs.map (ent gs)).map dE)), none, none]) (fun QI q => ?_) ⟨rs, none, none, rfl, rfl, lr, hr⟩ (fun i k Γ' ek w => ?_) (fun Γ' w => ?_)
  · walk_at "go"
    rw [List.length_map]
    exact ⟨szI (by omega) (by omega), q⟩
  · obtain ⟨ss, x4, x5, rfl, es, l2, hs⟩ := w
    have il : i < rs.length := by have := (List.getElem?_eq_some_iff.mp ek).1; simpa using this
    obtain ⟨j', hj'⟩ : ∃ j', rs.length - i = j' + 1 := ⟨rs.length - i - 1, by omega⟩
    refine st_gn rfl ?_
    refine seq_cut (fun Γ' => Γ' = [some (.fz (dGs gs)), some (.fz (.tuple (rs.map dR))), some (.ls (ss.map dR)), some (.ls ((ss.map (ent gs)).map dE)), some (.fz (.int (k : Nat))), some (.fz (.int ((0 : Nat) : Int)))]) (fun nx hnx => ?_) (fun Γ' w => ?_)
    · walk_at "go"
      exact hnx _ rfl
    subst w
    refine seq_cut (fun Γ' => ∃ j : Nat, Γ' = [some (.fz (dGs gs)), some (.fz (.tuple (rs.map dR))), some (.ls (ss.map dR)), some (.ls ((ss.map (ent gs)).map dE)), some (.fz (.int (k : Nat))), some (.fz (.int (j : Nat)))] ∧ j ≤ ss.length ∧ (∀ i, i < j → lawI gs ss i = false) ∧ (j < ss.length → lawI gs ss j = true)) (fun nx hnx => ?_) (fun Γ' w => ?_)
    · refine while_inv (fun n Γ' => ∃ j : Nat, Γ' = [some (.fz (dGs gs)), some (.fz (.tuple (rs.map dR))), some (.ls (ss.map dR)), some (.ls ((ss.map (ent gs)).map dE)), some (.fz (.int (k : Nat))), some (.fz (.int (j : Nat)))] ∧ j ≤ ss.length ∧ (∀ i, i < j → lawI gs ss i = false) ∧ n = ss.length - j) ss.length ⟨0, rfl, by omega, by omega, rfl⟩ ?_
      rintro n Γ' ⟨j, rfl, hj, hb, rfl⟩
      walk_at "go"
      rw [List.length_map]
      refine br2 (fun c1 => ?_) (fun c1 => ?_)
      · have c1 : j < ss.length := by have := of_decide_eq_true c1; omega
        walk_at "go"
        refine ⟨m, gs, ss.map (ent gs), j, rfl, gk, ent_ok gk hs, by rw [List.length_map]; exact l2, by rw [List.length_map]; exact c1, _, rfl, rfl, ?_⟩
        walk_at "go"
        show Br (!lawI gs ss j) _ _
        cases hI : lawI gs ss j with
        | true =>
          walk_at "gb"
          exact hnx _ ⟨j, rfl, hj, hb, fun _ => hI⟩
        | false =>
          walk_at "gb"
          exact ⟨ss.length - (j + 1), by omega, j + 1, rfl, by omega, fun i hi => by
            rcases Nat.lt_or_ge i j with y | y
            · exact hb i y
            · rw [show i = j by omega]; exact hI, rfl⟩
      · have c1 : ¬ j < ss.length := by have := of_decide_eq_false c1; omega
        walk_at "go"
        refine br2 (fun z => by cases z) (fun _ => ?_)
        exact hnx _ ⟨j, rfl, hj, hb, fun z => absurd z c1⟩
    obtain ⟨j, rfl, hj, hb, hI⟩ := w
    walk_at "go"
    rw [List.length_map]
    refine br2 (fun c1 => ?_) (fun c1 => ?_)
    · have c1 : j = ss.length := by have := of_decide_eq_true c1; omega
      walk_at "go"
      have st := outS_stop (I := lawI gs) (rs := ss) (fun i hi => hb i (by omega)) (rs.length - i)
      rw [st] at es
      rw [← es] at q
      exact q
    · have c1 : j < ss.length := by have := of_decide_eq_false c1; omega
      walk_at "go"
      have hsz : ss.length ≤ sizeLine := Evl.sz_of (by omega)
      refine ⟨j, j, dR ss[j], rfl, ⟨by omega, by omega, ?_⟩, by rw [List.getElem?_map, List.getElem?_eq_getElem c1]; rfl, ?_⟩
      · unfold seqIndex?
        simp
        omega
      refine ⟨_, rfl, ?_⟩
      walk_at "go"
      refine ⟨j, j, dE (ent gs ss[j]), rfl, ⟨by omega, by omega, ?_⟩, by rw [List.getElem?_map, List.getElem?_map, List.getElem?_eq_getElem c1]; rfl, ?_⟩
      · unfold seqIndex?
        simp
        omega
      refine ⟨_, rfl, ?_⟩
      walk_at "go"
      refine ⟨ss.eraseIdx j, _, _, by rw [map_erase, map_erase, map_erase], ?_, ?_, fun r hr => hs r ((List.eraseIdx_sublist _ _).subset hr)⟩
      · rw [hj', outS_step c1 (hI c1) hb] at es
        rw [show rs.length - (i + 1) = j' by omega]
        exact es
      · have := List.length_eraseIdx_le ss j
        omega
  · obtain ⟨ss, x4, x5, rfl, es, l2, hs⟩ := w
    rw [List.length_range, Nat.sub_self] at es
    walk_at "go"
    have es : ss = outS (lawI gs) rs.length rs := es
    rw [es]
    exact q
end K18
end
section
open VL PySem L2
local macro_rules | `(tactic| walk_at "vs") => `(tactic| first
  | with_reducible (first | refine st_seq ?_ | refine st_ret ?_ | refine st_set ?_ | refine st_if ?_ | refine st_drop ?_ | refine st_next ?_ | refine st_par ?_ | refine st_asg ?_ | refine st_rt0 ?_ | refine st_nx0 ?_ | refine st_brk ?_ | refine st_cnt ?_ | refine st_retN ?_ | refine st_op ?_ | refine st_op1 ?_ | refine st_an ?_ | refine st_ac ?_ | refine st_cb ?_ | refine st_tup ?_ | refine st_lst ?_ | refine st_to ?_ | refine st_tru ?_ | refine st_tnot ?_ | refine st_tand ?_ | refine st_tor ?_ | refine st_and ?_ | refine st_or ?_ | refine st_not ?_ | refine st_eif ?_ | refine st_chain ?_ | refine st_call ?_ | refine st_calli ?_ | refine st_isi ?_ | refine st_lrg ?_ | refine st_trg ?_ | refine st_sl ?_ | refine st_pn ?_ | refine st_ps ?_ | refine st_iseq ?_ | refine st_ir1 ?_ | refine st_ir2 ?_ | refine st_yes ?_ | refine st_c ?_ | refine st_xo ?_ | refine st_ox ?_ | refine st_cbe ?_ | refine st_true ?_ | refine st_ixe ?_ | refine st_dnew ?_ | refine st_ao0 ?_ | refine st_ao ?_ | refine st_trl ?_ | refine st_callk ?_ | refine st_callB ?_ | refine st_put ?_ | refine st_dput ?_ | refine st_g0 ?_ | refine st_sme ?_ | refine st_sme0 ?_ | refine st_pute ?_ | refine st_par3 ?_ | refine st_xelD ?_ | refine st_cbd ?_ | refine st_truDE ?_ | refine st_ixD' ?_ | refine st_smd ?_ | refine st_smd0 ?_ | refine st_putD ?_ | refine st_tdl ?_ | refine st_idx ?_ | refine st_rev ?_)
  | (with_reducible show (sAugI _ _ _ _ _)); refine st_augI rfl ?_
  | (with_reducible show (xVar _ _ _)); refine st_var rfl ?_
  | (with_reducible show (xVal _ _ _)); (first | refine st_val rfl ?_ | refine st_valL rfl rfl rfl ?_)
  | (with_reducible show (oMv _ _ _)); (first | refine st_mv rfl ?_ | refine st_mvL rfl rfl ?_)
  | (with_reducible show (eIxS _ _ _ _)); (first | refine st_ixT rfl ?_ | refine st_ixLs rfl ?_ | refine st_ixF rfl ?_ | refine st_ixTr rfl ?_ | refine st_ixDic rfl rfl ?_)
  | (with_reducible show (eLenS _ _ _)); (first | refine st_lenT rfl ?_ | refine st_lenD _ rfl ?_)
  | (with_reducible show (eEl _ _ _ _)); refine st_el rfl ?_
  | (with_reducible show (eApp _ _ _ _ _)); (first | refine st_app (listG_ls rfl) ?_ | refine st_app (listG_tr rfl) ?_)
  | (with_reducible show (sPutS _ _ _ _ _ _)); (first | refine st_putS rfl ?_ | refine st_putSD rfl ?_)
  | (with_reducible show (eInS _ _ _ _)); (first | refine st_in rfl ?_ | refine st_din rfl ?_)
  | (with_reducible show (eNotInS _ _ _ _)); (first | refine st_notin rfl ?_ | refine st_dnotin rfl ?_)
  | (with_reducible show (tInS _ _ _ _)); (first | refine st_tin rfl ?_ | refine st_tdin rfl ?_)
  | (with_reducible show (tNotInS _ _ _ _)); (first | refine st_tnotin rfl ?_ | refine st_tdnotin rfl ?_)
  | (with_reducible show (sDel _ _ _ _)); refine st_del rfl ?_
  | (with_reducible show (eSM _ _ _ _ _)); refine st_sm rfl ?_
  | (with_reducible show (gN _ _ _ _)); refine st_gn rfl ?_
  | (with_reducible show (gConss _ _ _ _ _)); refine st_gc ?_
  | (with_reducible show (gTupD _ _ _ _ _)); refine st_gt rfl ?_
  | (with_reducible show (∃ d b, _ = some d ∧ kitD d _ = some b ∧ _)); (first | refine ⟨_, true, rfl, (rfl : kitD _ _ = some true), ?_⟩ | refine ⟨_, false, rfl, (rfl : kitD _ _ = some false), ?_⟩)
  | (with_reducible show (∃ _, _)); (first | refine ⟨_, rfl, ?_⟩ | refine ⟨_, _, rfl, rfl, ?_⟩ | refine ⟨_, _, _, rfl, rfl, rfl, ?_⟩ | refine ⟨_, _, _, _, rfl, rfl, rfl, ?_⟩ | refine ⟨_, _, _, _, rfl, rfl, rfl, rfl, ?_⟩ | refine ⟨_, _, _, rfl, .inl ⟨_, rfl, rfl, rfl⟩, ?_⟩)
  | (with_reducible show ((∃ _, _) ∧ _)); (first | refine ⟨⟨_, rfl, _, .inl rfl⟩, ?_⟩ | refine ⟨⟨_, rfl, [], .inr ⟨_, rfl⟩⟩, ?_⟩)
  | (with_reducible show (_ ≤ sizeLine ∧ _)); refine ⟨Evl.sz_of (Nat.le_of_ble_eq_true rfl), ?_⟩)
local macro_rules | `(tactic| walk_at "op") => `(tactic| first
  | (with_reducible show (opAdd _ _ _)); (first | refine op_addI ?_)
  | (with_reducible show (opSub _ _ _)); (first | refine op_subI ?_)
  | (with_reducible show (opLt _ _ _)); (first | refine op_ltI ?_)
  | (with_reducible show (opLe _ _ _)); (first | refine op_leI ?_)
  | (with_reducible show (opGt _ _ _)); (first | refine op_gtI ?_)
  | (with_reducible show (opGe _ _ _)); (first | refine op_geI ?_)
  | (with_reducible show (opEq _ _ _)); (first | refine op_eqI ?_ | refine op_eqB ?_)
  | (with_reducible show (opNe _ _ _)); (first | refine op_neI ?_ | refine op_neB ?_)
  | (with_reducible show (opIsN _ _ _)); (first | refine op_isNone ?_ | refine op_isInt ?_ | refine op_isTup ?_ | refine op_isBl ?_ | refine op_isSt ?_ | refine op_isLs ?_)
  | (with_reducible show (opNotN _ _ _)); (first | refine op_notNone ?_ | refine op_notTup ?_)
  | (with_reducible show (opIx _ _ _)); (first | refine op_ixT0 rfl ?_ | refine op_ixT1 rfl ?_ | refine op_ixT2 rfl ?_ | refine op_ixL0 rfl ?_ | refine op_ixL1 rfl ?_)
  | (with_reducible show (op1Neg _ _)); refine op1_negI ?_
  | (with_reducible show (cdLen _ _)); (first | refine cd_lenL ?_ | refine cd_lenT ?_)
  | (with_reducible show (cdInt _ _)); (first | refine cd_intI ?_ | refine cd_intB ?_)
  | (with_reducible show (cdTuple _ _)); (first | refine cd_tupL ?_ | refine cd_tupT ?_)
  | (with_reducible show (cdList _ _)); (first | refine cd_listL ?_ | refine cd_listT ?_)
  | (with_reducible show (cdAbs _ _)); (first | refine cd_absI ?_)
  | (with_reducible show (cdMin2 _ _)); (first | refine cd_min2I ?_)
  | (with_reducible show (cdMax2 _ _)); (first | refine cd_max2I ?_)
  | (with_reducible show (sdAll _ _ _ _)); (first | refine sd_T ?_ | refine sd_L ?_))
local macro_rules | `(tactic| walk_at "go") => `(tactic| repeat (first | walk_at "vs" | walk_at "op"))
local macro_rules | `(tactic| walk_at "gb") => `(tactic| repeat (first | walk_at "vs" | walk_at "op" | with_reducible (first | refine br_t ?_ | refine br_f ?_ | refine br_nt ?_ | refine br_nf ?_)))
namespace K18
open FM
def orT (p : Nat → Bool) (k : Nat) : Nat := (List.range k).foldl (fun a n => if p n then a ||| 2 ^ n else a) 0
theorem orT_succ (p : Nat → Bool) (k : Nat) : orT p (k + 1) = if p k then orT p k ||| 2 ^ k else orT p k := by
  unfold orT
  rw [List.range_succ, List.foldl_append]
  rfl
theorem orT_bit (p : Nat → Bool) (n : Nat) : ∀ k, (orT p k).testBit n = (decide (n < k) && p n)
  | 0 => by unfold orT; simp
  | k + 1 => by
    rw [orT_succ]
    have ih := orT_bit p n k
    cases hp : p k with
    | true =>
      rw [if_pos rfl, Nat.testBit_or, ih, Nat.testBit_two_pow]
      by_cases e : k = n
      · subst e; simp [hp]
      · have : decide (n < k) = decide (n < k + 1) := by congr 1; exact propext ⟨fun h => by omega, fun h => by omega⟩
        rw [this]; simp [e]
    | false =>
      rw [if_neg (by simp), ih]
      by_cases e : k = n
      · subst e; simp [hp]
      · have : decide (n < k) = decide (n < k + 1) := by congr 1; exact propext ⟨fun h => by omega, fun h => by omega⟩
        rw [this]
theorem orT_lt (p : Nat → Bool) : ∀ k, orT p k < 2 ^ k
  | 0 => by unfold orT; simp
  | k + 1 => by
    have ih := orT_lt p k
    rw [orT_succ]
    have e : 2 ^ k < 2 ^ (k + 1) := Nat.pow_lt_pow_right (by omega) (by omega)
    split
    · exact Nat.or_lt_two_pow (Nat.lt_trans ih e) e
    · exact Nat.lt_trans ih e
theorem mask_bit (g : List Int) (r : Rule) (n : Nat) : (maskG g r).testBit n = (decide (n < 2 ^ g.length) && brk g r n) := orT_bit (brk g r) n _
theorem mask_lt (g : List Int) (r : Rule) : maskG g r < 2 ^ 2 ^ g.length := orT_lt (brk g r) _
/-- the bits of a filling over a group -/
def numG (g : List Int) (f : Fil) : Nat := orT (fun i => decide (f[(g.getD i 0).toNat]? = some true)) g.length
theorem numG_lt (g : List Int) (f : Fil) : numG g f < 2 ^ g.length := orT_lt _ _
theorem numG_bit {g : List Int} {f : Fil} {b : Int} (h : b ∈ g) : (numG g f).testBit (ixIn g b) = decide (f[b.toNat]? = some true) := by
  obtain ⟨h1, _⟩ := ixIn_at h
  obtain ⟨h2, h3⟩ := List.getElem?_eq_some_iff.mp h1
  unfold numG
  rw [orT_bit, decide_eq_true h2, Bool.true_and, getD_at h2, h3]
/-- broken by a filling, by its bits -/
theorem brk_of {g : List Int} {r : Rule} {f : Fil} {n : Nat} (hb : ∀ l ∈ r, f[l.1.toNat]? = some (n.testBit (ixIn g l.1))) : brk g r n = !holds r f := by
  unfold brk holds
  congr 1
  rw [Bool.eq_iff_iff, List.any_eq_true, List.any_eq_true]
  constructor
  · rintro ⟨l, hl, e⟩
    exact ⟨l, hl, by rw [hb l hl, eq_of_beq e]; simp⟩
  · rintro ⟨l, hl, e⟩
    rw [hb l hl] at e
    have e := of_decide_eq_true e
    exact ⟨l, hl, by injection e with e; rw [e]; simp⟩
theorem num_at {m : Nat} {g : List Int} {r : Rule} {f : Fil} (w : Wf m r) (lf : f.length = m) (h : ∀ l ∈ r, l.1 ∈ g) : ∀ l ∈ r, f[l.1.toNat]? = some ((numG g f).testBit (ixIn g l.1)) := fun l hl => by
  have := w.rng l hl
  rw [numG_bit (h l hl)]
  have hi : l.1.toNat < f.length := by omega
  rw [List.getElem?_eq_getElem hi]
  cases f[l.1.toNat] <;> simp
theorem un_bit (es : List En') (at' w n : Nat) : ∀ k, (unT es at' w k).testBit n = true ↔ ∃ j, j < k ∧ j ≠ at' ∧ (es.getD j (0, 0)).1 = (w : Int) ∧ (es.getD j (0, 0)).2.testBit n = true
  | 0 => by unfold unT; simp
  | k + 1 => by
    have ih := un_bit es at' w n k
    rw [unT_succ]
    split
    · rename_i c
      rw [Nat.testBit_or, Bool.or_eq_true, ih]
      constructor
      · rintro (⟨j, h1, h2⟩ | h)
        · exact ⟨j, by omega, h2⟩
        · exact ⟨k, by omega, c.1, c.2, h⟩
      · rintro ⟨j, h1, h2, h3, h4⟩
        rcases Nat.lt_or_ge j k with y | y
        · exact .inl ⟨j, y, h2, h3, h4⟩
        · rw [show j = k by omega] at h4; exact .inr h4
    · rename_i c
      rw [ih]
      constructor
      · rintro ⟨j, h1, h2⟩; exact ⟨j, by omega, h2⟩
      · rintro ⟨j, h1, h2, h3, h4⟩
        rcases Nat.lt_or_ge j k with y | y
        · exact ⟨j, y, h2, h3, h4⟩
        · rw [show j = k by omega] at h2 h3; exact absurd ⟨h2, h3⟩ c
theorem zero_bit {a N : Nat} (h : a < 2 ^ N) (ne : a ≠ 2 ^ N - 1) : ∃ n, n < N ∧ a.testBit n = false := by
  apply Classical.byContradiction
  intro c
  apply ne
  apply Nat.eq_of_testBit_eq
  intro i
  rw [Nat.testBit_two_pow_sub_one]
  by_cases hi : i < N
  · rw [decide_eq_true hi]
    cases hb : a.testBit i with
    | true => rfl
    | false => exact absurd ⟨i, hi, hb⟩ c
  · rw [decide_eq_false hi]
    exact Nat.testBit_lt_two_pow (Nat.lt_of_lt_of_le h (Nat.pow_le_pow_right (by omega) (by omega)))
/-- a filling from a number for each group -/
def mkF (m : Nat) (gs : List (List Int)) (n : Nat → Nat) : Fil := (List.range m).map fun (b : Nat) => match (List.range gs.length).find? fun w => isIn (b : Int) (gs.getD w []) with
  | some w => (n w).testBit (ixIn (gs.getD w []) (b : Int))
  | none => false
theorem mkF_len (m : Nat) (gs : List (List Int)) (n : Nat → Nat) : (mkF m gs n).length = m := by unfold mkF; simp
theorem mkF_at {m : Nat} {gs : List (List Int)} (gk : GrOk m gs) (n : Nat → Nat) {w : Nat} (hw : w < gs.length) {b : Int} (hb : b ∈ gs.getD w []) : (mkF m gs n)[b.toNat]? = some ((n w).testBit (ixIn (gs.getD w []) b)) := by
  have hb' := hb
  rw [getD_at hw] at hb'
  have rg := (gk.sm gs[w] (List.getElem_mem hw)).1.rg b hb'
  have e : ((b.toNat : Nat) : Int) = b := by omega
  unfold mkF
  rw [List.getElem?_map, List.getElem?_range (by omega)]
  dsimp only [Option.map_some]
  rw [e, find_range (p := fun w => isIn b (gs.getD w [])) hw (isIn_iff.mpr hb) (fun k hk => isIn_false.mpr fun c => by
    rw [getD_at (by omega)] at c
    exact List.pairwise_iff_getElem.mp gk.dis k w (by omega) hw hk b c hb')]
theorem agr_ctr {m : Nat} {r : Rule} {f : Fil} (w : Wf m r) (lf : f.length = m) : agr (ctr r) f = !holds r f := by
  unfold agr ctr holds
  rw [List.all_map, Bool.eq_iff_iff, List.all_eq_true, Bool.not_eq_true', List.any_eq_false]
  have key : ∀ l ∈ r, ∃ b, f[l.1.toNat]? = some b := fun l hl => by
    have := w.rng l hl
    exact ⟨_, List.getElem?_eq_getElem (by omega)⟩
  constructor
  · intro h l hl
    obtain ⟨b, eb⟩ := key l hl
    have := of_decide_eq_true (h l hl)
    have this : f[l.1.toNat]? = some (!l.2) := this
    rw [this]
    cases l.2 <;> simp
  · intro h l hl
    obtain ⟨b, eb⟩ := key l hl
    have := h l hl
    rw [eb] at this
    show decide (f[l.1.toNat]? = some (!l.2)) = true
    rw [eb]
    cases b <;> cases hl2 : l.2 <;> simp_all
theorem fol_all {m : Nat} {rs : List Rule} {r : Rule} (w : Wf m r) : fol m rs r = true ↔ ∀ f : Fil, f.length = m → keeps rs f = true → holds r f = true := by
  rw [fol_iff]
  constructor
  · intro h f lf k
    have := h f (mem_allF.mpr lf)
    unfold good at this
    rw [k, Bool.true_and, agr_ctr w lf] at this
    simpa using this
  · intro h f hf
    have lf := mem_allF.mp hf
    unfold good
    rw [agr_ctr w lf]
    cases k : keeps rs f with
    | false => rfl
    | true => rw [h f lf k]; rfl
theorem keeps_erase {rs : List Rule} {k : Nat} {f : Fil} : keeps (rs.eraseIdx k) f = true ↔ ∀ j (hj : j < rs.length), j ≠ k → holds rs[j] f = true := by
  unfold keeps
  rw [List.all_eq_true]
  constructor
  · intro h j hj ne
    apply h
    rcases Nat.lt_or_ge j k with z | z
    · exact List.mem_of_getElem? (i := j) (by rw [List.getElem?_eraseIdx_of_lt z, List.getElem?_eq_getElem hj])
    · exact List.mem_of_getElem? (i := j - 1) (by rw [List.getElem?_eraseIdx_of_ge (by omega), show j - 1 + 1 = j by omega, List.getElem?_eq_getElem hj])
  · intro h r hr
    obtain ⟨j, hj, e⟩ := List.getElem_of_mem hr
    have e2 : (rs.eraseIdx k)[j]? = some r := by rw [List.getElem?_eq_getElem hj, e]
    rw [List.getElem?_eraseIdx] at e2
    split at e2
    · obtain ⟨h1, h2⟩ := List.getElem?_eq_some_iff.mp e2
      rw [← h2]; exact h j h1 (by omega)
    · obtain ⟨h1, h2⟩ := List.getElem?_eq_some_iff.mp e2
      rw [← h2]; exact h (j + 1) h1 (by omega)
/-- what the masks tell -/
theorem law_is {m : Nat} {gs : List (List Int)} {rs : List Rule} (gk : GrOk m gs) (hs : ∀ r ∈ rs, Rin m gs r) {k : Nat} (hk : k < rs.length) : lawI gs rs k = idl m rs k := by
  have es_at : ∀ j (hj : j < rs.length), (rs.map (ent gs)).getD j (0, 0) = ent gs rs[j] := fun j hj => by
    rw [List.getD_eq_getElem?_getD, List.getElem?_map, List.getElem?_eq_getElem hj]; rfl
  have wk : Wf m rs[k] := (hs _ (List.getElem_mem hk)).1
  have ei : idl m rs k = fol m (rs.eraseIdx k) rs[k] := by unfold idl; rw [getD_at hk]
  -- a rule that is not empty
  have full : ∀ j (hj : j < rs.length), rs[j] ≠ [] → ∃ w, w < gs.length ∧ ent gs rs[j] = ((w : Int), maskG (gs.getD w []) rs[j]) ∧ ∀ x ∈ rs[j], x.1 ∈ gs.getD w [] := fun j hj ne => by
    have rin := hs _ (List.getElem_mem hj)
    generalize rs[j] = r at ne rin
    cases r with
    | nil => exact absurd rfl ne
    | cons l r' =>
      obtain ⟨w, wl, ew, win⟩ := which_ok gk rin
      exact ⟨w, wl, by unfold ent; rw [ew, if_neg (by omega), Int.toNat_natCast], win⟩
  have emp : ∀ j (hj : j < rs.length), (ent gs rs[j]).1 < 0 ↔ rs[j] = [] := fun j hj => by
    constructor
    · intro h
      apply Classical.byContradiction
      intro ne
      obtain ⟨w, _, e, _⟩ := full j hj ne
      rw [e] at h
      have h : (w : Int) < 0 := h
      omega
    · intro h
      rw [h]
      show (-1 : Int) < 0
      omega
  have len : (rs.map (ent gs)).length = rs.length := List.length_map _
  -- another one is broken by these bits
  have bit : ∀ w n, (unionG (rs.map (ent gs)) k w).testBit n = true ↔ ∃ j, ∃ hj : j < rs.length, j ≠ k ∧ (ent gs rs[j]).1 = (w : Int) ∧ (ent gs rs[j]).2.testBit n = true := fun w n => by
    rw [← unT_all, un_bit, len]
    constructor
    · rintro ⟨j, h1, h2, h3, h4⟩
      rw [es_at j h1] at h3 h4
      exact ⟨j, h1, h2, h3, h4⟩
    · rintro ⟨j, h1, h2, h3, h4⟩
      exact ⟨j, h1, h2, by rw [es_at j h1]; exact h3, by rw [es_at j h1]; exact h4⟩
  have brkk : ∀ (f : Fil), f.length = m → ∀ j (hj : j < rs.length) (w : Nat), ent gs rs[j] = ((w : Int), maskG (gs.getD w []) rs[j]) → (∀ x ∈ rs[j], x.1 ∈ gs.getD w []) → (maskG (gs.getD w []) rs[j]).testBit (numG (gs.getD w []) f) = !holds rs[j] f := fun f lf j hj w _ hin => by
    rw [mask_bit, decide_eq_true (numG_lt _ _), Bool.true_and]
    exact brk_of (num_at (hs _ (List.getElem_mem hj)).1 lf hin)
  -- the fillings that keep the others break no rule of theirs
  have noBit : ∀ (f : Fil), f.length = m → keeps (rs.eraseIdx k) f = true → ∀ w, (unionG (rs.map (ent gs)) k w).testBit (numG (gs.getD w []) f) = false := fun f lf kp w => by
    rw [Bool.eq_false_iff]
    intro c
    obtain ⟨j, hj, ne, h3, h4⟩ := (bit w _).mp c
    have nn : rs[j] ≠ [] := fun e => by
      have := (emp j hj).mpr e
      omega
    obtain ⟨v, _, ev, hin⟩ := full j hj nn
    rw [ev] at h3 h4
    have h3 : (v : Int) = (w : Int) := h3
    have h3 : v = w := by omega
    subst h3
    have h4 : (maskG (gs.getD v []) rs[j]).testBit (numG (gs.getD v []) f) = true := h4
    rw [brkk f lf j hj v ev hin, keeps_erase.mp kp j hj ne] at h4
    cases h4
  have ulen : ∀ w, unionG (rs.map (ent gs)) k w < 2 ^ 2 ^ (gs.getD w []).length := fun w => by
    apply Nat.lt_pow_two_of_testBit
    intro n hn
    rw [Bool.eq_false_iff]
    intro c
    obtain ⟨j, hj, ne, h3, h4⟩ := (bit w _).mp c
    have nn : rs[j] ≠ [] := fun e => by
      have := (emp j hj).mpr e
      omega
    obtain ⟨v, _, ev, hin⟩ := full j hj nn
    rw [ev] at h3 h4
    have h3 : (v : Int) = (w : Int) := h3
    have h3 : v = w := by omega
    subst h3
    have h4 : (maskG (gs.getD v []) rs[j]).testBit n = true := h4
    rw [mask_bit, Bool.and_eq_true, decide_eq_true_eq] at h4
    omega
  rw [ei]
  unfold lawI lawF
  rw [len, es_at k hk]
  by_cases hA : ∃ j, ∃ hj : j < rs.length, j ≠ k ∧ rs[j] = []
  · obtain ⟨j, hj, ne, e⟩ := hA
    have l1 : ((List.range rs.length).any fun j => decide (j ≠ k ∧ ((rs.map (ent gs)).getD j (0, 0)).1 < 0)) = true :=
      List.any_eq_true.mpr ⟨j, List.mem_range.mpr hj, by rw [decide_eq_true_eq, es_at j hj]; exact ⟨ne, (emp j hj).mpr e⟩⟩
    rw [l1, Bool.true_or, Bool.true_or]
    refine ((fol_all wk).mpr fun f lf kp => ?_).symm
    have := keeps_erase.mp kp j hj ne
    rw [e] at this
    cases this
  have l1 : ((List.range rs.length).any fun j => decide (j ≠ k ∧ ((rs.map (ent gs)).getD j (0, 0)).1 < 0)) = false := by
    rw [List.any_eq_false]
    intro j hj c
    have hj := List.mem_range.mp hj
    rw [decide_eq_true_eq, es_at j hj] at c
    exact hA ⟨j, hj, c.1, (emp j hj).mp c.2⟩
  rw [l1, Bool.false_or]
  by_cases hB : ∃ w, w < gs.length ∧ unionG (rs.map (ent gs)) k w = 2 ^ 2 ^ (gs.getD w []).length - 1
  · obtain ⟨w, wl, ew⟩ := hB
    have l2 : ((List.range gs.length).any fun w => decide (unionG (rs.map (ent gs)) k w = 2 ^ 2 ^ (gs.getD w []).length - 1)) = true :=
      List.any_eq_true.mpr ⟨w, List.mem_range.mpr wl, by rw [decide_eq_true_eq]; exact ew⟩
    rw [l2, Bool.true_or]
    refine ((fol_all wk).mpr fun f lf kp => ?_).symm
    have := noBit f lf kp w
    rw [ew, Nat.testBit_two_pow_sub_one, decide_eq_true (numG_lt _ _)] at this
    cases this
  have l2 : ((List.range gs.length).any fun w => decide (unionG (rs.map (ent gs)) k w = 2 ^ 2 ^ (gs.getD w []).length - 1)) = false := by
    rw [List.any_eq_false]
    intro w hw c
    exact hB ⟨w, List.mem_range.mp hw, of_decide_eq_true c⟩
  rw [l2, Bool.false_or]
  have ch : ∀ w, ∃ n, w < gs.length → n < 2 ^ (gs.getD w []).length ∧ (unionG (rs.map (ent gs)) k w).testBit n = false := fun w => by
    by_cases wl : w < gs.length
    · obtain ⟨n, h0, h⟩ := zero_bit (ulen w) (fun e => hB ⟨w, wl, e⟩)
      exact ⟨n, fun _ => ⟨h0, h⟩⟩
    · exact ⟨0, fun z => absurd z wl⟩
  obtain ⟨n0, hn0⟩ := Classical.axiomOfChoice ch
  have keepF : ∀ n : Nat → Nat, (∀ w, w < gs.length → n w < 2 ^ (gs.getD w []).length ∧ (unionG (rs.map (ent gs)) k w).testBit (n w) = false) → keeps (rs.eraseIdx k) (mkF m gs n) = true := fun n hn => by
    refine keeps_erase.mpr fun j hj ne => ?_
    have nn : rs[j] ≠ [] := fun e => hA ⟨j, hj, ne, e⟩
    obtain ⟨w, wl, ev, hin⟩ := full j hj nn
    apply Classical.byContradiction
    intro c
    have c : holds rs[j] (mkF m gs n) = false := by simpa using c
    have hb := brk_of (g := gs.getD w []) (n := n w) (f := mkF m gs n) (r := rs[j]) fun l hl => mkF_at gk n wl (hin l hl)
    rw [c] at hb
    have : (unionG (rs.map (ent gs)) k w).testBit (n w) = true := (bit w (n w)).mpr ⟨j, hj, ne, by rw [ev], by
      rw [ev]
      show (maskG (gs.getD w []) rs[j]).testBit (n w) = true
      rw [mask_bit, decide_eq_true (hn w wl).1, hb]; rfl⟩
    rw [(hn w wl).2] at this
    cases this
  by_cases hC : rs[k] = []
  · have h1 := (emp k hk).mpr hC
    rw [decide_eq_false (by omega : ¬ 0 ≤ (ent gs rs[k]).1), Bool.false_and]
    symm
    rw [Bool.eq_false_iff]
    intro z
    have := (fol_all wk).mp z (mkF m gs n0) (mkF_len _ _ _) (keepF n0 hn0)
    rw [hC] at this
    cases this
  obtain ⟨w, wl, ev, hin⟩ := full k hk hC
  rw [ev]
  show (decide (0 ≤ (w : Int)) && decide (maskG (gs.getD w []) rs[k] ||| unionG (rs.map (ent gs)) k (w : Int).toNat = unionG (rs.map (ent gs)) k (w : Int).toNat)) = _
  rw [decide_eq_true (by omega : 0 ≤ (w : Int)), Bool.true_and, Int.toNat_natCast]
  by_cases hD : maskG (gs.getD w []) rs[k] ||| unionG (rs.map (ent gs)) k w = unionG (rs.map (ent gs)) k w
  · rw [decide_eq_true hD]
    refine ((fol_all wk).mpr fun f lf kp => ?_).symm
    apply Classical.byContradiction
    intro c
    have c : holds rs[k] f = false := by simpa using c
    have hm := brkk f lf k hk w ev hin
    rw [c] at hm
    have := noBit f lf kp w
    rw [← hD, Nat.testBit_or, hm] at this
    cases this
  · rw [decide_eq_false hD]
    have ex : ∃ x, (maskG (gs.getD w []) rs[k]).testBit x = true ∧ (unionG (rs.map (ent gs)) k w).testBit x = false := by
      apply Classical.byContradiction
      intro c
      apply hD
      apply Nat.eq_of_testBit_eq
      intro x
      rw [Nat.testBit_or]
      cases hm : (maskG (gs.getD w []) rs[k]).testBit x with
      | false => rfl
      | true =>
        cases hu : (unionG (rs.map (ent gs)) k w).testBit x with
        | true => rfl
        | false => exact absurd ⟨x, hm, hu⟩ c
    obtain ⟨x, hm, hu⟩ := ex
    rw [mask_bit, Bool.and_eq_true, decide_eq_true_eq] at hm
    symm
    rw [Bool.eq_false_iff]
    intro z
    have kp := keepF (fun v => if v = w then x else n0 v) fun v vl => by
      by_cases e : v = w
      · subst e
        rw [if_pos rfl]
        exact ⟨hm.1, hu⟩
      · rw [if_neg e]
        exact hn0 v vl
    have hf := (fol_all wk).mp z _ (mkF_len _ _ _) kp
    have hb := brk_of (g := gs.getD w []) (n := x) (f := mkF m gs (fun v => if v = w then x else n0 v)) (r := rs[k]) fun l hl => by
      have := mkF_at gk (fun v => if v = w then x else n0 v) wl (hin l hl)
      rw [if_pos rfl] at this
      exact this
    rw [hf, hm.2] at hb
    cases hb
/-- the law's way is the program's -/
theorem outS_is {m : Nat} {gs : List (List Int)} (gk : GrOk m gs) : ∀ (n : Nat) (rs : List Rule), (∀ r ∈ rs, Rin m gs r) → outS (lawI gs) n rs = outS (idl m) n rs
  | 0, _, _ => rfl
  | n + 1, rs, hs => by
    have e : (List.range rs.length).find? (lawI gs rs) = (List.range rs.length).find? (idl m rs) := by
      have : ∀ (l : List Nat), (∀ k ∈ l, k < rs.length) → l.find? (lawI gs rs) = l.find? (idl m rs) := by
        intro l
        induction l with
        | nil => intro _; rfl
        | cons x l ih =>
          intro h
          rw [List.find?_cons, List.find?_cons, law_is gk hs (h x (by simp)), ih fun k hk => h k (by simp [hk])]
      exact this _ fun k hk => List.mem_range.mp hk
    rw [outS, outS, e]
    cases (List.range rs.length).find? (idl m rs) with
    | none => rfl
    | some i => exact outS_is gk n _ fun r hr => hs r ((List.eraseIdx_sublist _ _).subset hr)
end K18
end
section
open VL PySem L2
local macro_rules | `(tactic| walk_at "vs") => `(tactic| first
  | with_reducible (first | refine st_seq ?_ | refine st_ret ?_ | refine st_set ?_ | refine st_if ?_ | refine st_drop ?_ | refine st_next ?_ | refine st_par ?_ | refine st_asg ?_ | refine st_rt0 ?_ | refine st_nx0 ?_ | refine st_brk ?_ | refine st_cnt ?_ | refine st_retN ?_ | refine st_op ?_ | refine st_op1 ?_ | refine st_an ?_ | refine st_ac ?_ | refine st_cb ?_ | refine st_tup ?_ | refine st_lst ?_ | refine st_to ?_ | refine st_tru ?_ | refine st_tnot ?_ | refine st_tand ?_ | refine st_tor ?_ | refine st_and ?_ | refine st_or ?_ | refine st_not ?_ | refine st_eif ?_ | refine st_chain ?_ | refine st_call ?_ | refine st_calli ?_ | refine st_isi ?_ | refine st_lrg ?_ | refine st_trg ?_ | refine st_sl ?_ | refine st_pn ?_ | refine st_ps ?_ | refine st_iseq ?_ | refine st_ir1 ?_ | refine st_ir2 ?_ | refine st_yes ?_ | refine st_c ?_ | refine st_xo ?_ | refine st_ox ?_ | refine st_cbe ?_ | refine st_true ?_ | refine st_ixe ?_ | refine st_dnew ?_ | refine st_ao0 ?_ | refine st_ao ?_ | refine st_trl ?_ | refine st_callk ?_ | refine st_callB ?_ | refine st_put ?_ | refine st_dput ?_ | refine st_g0 ?_ | refine st_sme ?_ | refine st_sme0 ?_ | refine st_pute ?_ | refine st_par3 ?_ | refine st_xelD ?_ | refine st_cbd ?_ | refine st_truDE ?_ | refine st_ixD' ?_ | refine st_smd ?_ | refine st_smd0 ?_ | refine st_putD ?_ | refine st_tdl ?_ | refine st_idx ?_ | refine st_rev ?_)
  | (with_reducible show (sAugI _ _ _ _ _)); refine st_augI rfl ?_
  | (with_reducible show (xVar _ _ _)); refine st_var rfl ?_
  | (with_reducible show (xVal _ _ _)); (first | refine st_val rfl ?_ | refine st_valL rfl rfl rfl ?_)
  | (with_reducible show (oMv _ _ _)); (first | refine st_mv rfl ?_ | refine st_mvL rfl rfl ?_)
  | (with_reducible show (eIxS _ _ _ _)); (first | refine st_ixT rfl ?_ | refine st_ixLs rfl ?_ | refine st_ixF rfl ?_ | refine st_ixTr rfl ?_ | refine st_ixDic rfl rfl ?_)
  | (with_reducible show (eLenS _ _ _)); (first | refine st_lenT rfl ?_ | refine st_lenD _ rfl ?_)
  | (with_reducible show (eEl _ _ _ _)); refine st_el rfl ?_
  | (with_reducible show (eApp _ _ _ _ _)); (first | refine st_app (listG_ls rfl) ?_ | refine st_app (listG_tr rfl) ?_)
  | (with_reducible show (sPutS _ _ _ _ _ _)); (first | refine st_putS rfl ?_ | refine st_putSD rfl ?_)
  | (with_reducible show (eInS _ _ _ _)); (first | refine st_in rfl ?_ | refine st_din rfl ?_)
  | (with_reducible show (eNotInS _ _ _ _)); (first | refine st_notin rfl ?_ | refine st_dnotin rfl ?_)
  | (with_reducible show (tInS _ _ _ _)); (first | refine st_tin rfl ?_ | refine st_tdin rfl ?_)
  | (with_reducible show (tNotInS _ _ _ _)); (first | refine st_tnotin rfl ?_ | refine st_tdnotin rfl ?_)
  | (with_reducible show (sDel _ _ _ _)); refine st_del rfl ?_
  | (with_reducible show (eSM _ _ _ _ _)); refine st_sm rfl ?_
  | (with_reducible show (gN _ _ _ _)); refine st_gn rfl ?_
  | (with_reducible show (gConss _ _ _ _ _)); refine st_gc ?_
  | (with_reducible show (gTupD _ _ _ _ _)); refine st_gt rfl ?_
  | (with_reducible show (∃ d b, _ = some d ∧ kitD d _ = some b ∧ _)); (first | refine ⟨_, true, rfl, (rfl : kitD _ _ = some true), ?_⟩ | refine ⟨_, false, rfl, (rfl : kitD _ _ = some false), ?_⟩)
  | (with_reducible show (∃ _, _)); (first | refine ⟨_, rfl, ?_⟩ | refine ⟨_, _, rfl, rfl, ?_⟩ | refine ⟨_, _, _, rfl, rfl, rfl, ?_⟩ | refine ⟨_, _, _, _, rfl, rfl, rfl, ?_⟩ | refine ⟨_, _, _, _, rfl, rfl, rfl, rfl, ?_⟩ | refine ⟨_, _, _, rfl, .inl ⟨_, rfl, rfl, rfl⟩, ?_⟩)
  | (with_reducible show ((∃ _, _) ∧ _)); (first | refine ⟨⟨_, rfl, _, .inl rfl⟩, ?_⟩ | refine ⟨⟨_, rfl, [], .inr ⟨_, rfl⟩⟩, ?_⟩)
  | (with_reducible show (_ ≤ sizeLine ∧ _)); refine ⟨Evl.sz_of (Nat.le_of_ble_eq_true rfl), ?_⟩)
local macro_rules | `(tactic| walk_at "op") => `(tactic| first
  | (with_reducible show (opAdd _ _ _)); (first | refine op_addI ?_)
  | (with_reducible show (opSub _ _ _)); (first | refine op_subI ?_)
  | (with_reducible show (opLt _ _ _)); (first | refine op_ltI ?_)
  | (with_reducible show (opLe _ _ _)); (first | refine op_leI ?_)
  | (with_reducible show (opGt _ _ _)); (first | refine op_gtI ?_)
  | (with_reducible show (opGe _ _ _)); (first | refine op_geI ?_)
  | (with_reducible show (opEq _ _ _)); (first | refine op_eqI ?_ | refine op_eqB ?_)
  | (with_reducible show (opNe _ _ _)); (first | refine op_neI ?_ | refine op_neB ?_)
  | (with_reducible show (opIsN _ _ _)); (first | refine op_isNone ?_ | refine op_isInt ?_ | refine op_isTup ?_ | refine op_isBl ?_ | refine op_isSt ?_ | refine op_isLs ?_)
  | (with_reducible show (opNotN _ _ _)); (first | refine op_notNone ?_ | refine op_notTup ?_)
  | (with_reducible show (opIx _ _ _)); (first | refine op_ixT0 rfl ?_ | refine op_ixT1 rfl ?_ | refine op_ixT2 rfl ?_ | refine op_ixL0 rfl ?_ | refine op_ixL1 rfl ?_)
  | (with_reducible show (op1Neg _ _)); refine op1_negI ?_
  | (with_reducible show (cdLen _ _)); (first | refine cd_lenL ?_ | refine cd_lenT ?_)
  | (with_reducible show (cdInt _ _)); (first | refine cd_intI ?_ | refine cd_intB ?_)
  | (with_reducible show (cdTuple _ _)); (first | refine cd_tupL ?_ | refine cd_tupT ?_)
  | (with_reducible show (cdList _ _)); (first | refine cd_listL ?_ | refine cd_listT ?_)
  | (with_reducible show (cdAbs _ _)); (first | refine cd_absI ?_)
  | (with_reducible show (cdMin2 _ _)); (first | refine cd_min2I ?_)
  | (with_reducible show (cdMax2 _ _)); (first | refine cd_max2I ?_)
  | (with_reducible show (sdAll _ _ _ _)); (first | refine sd_T ?_ | refine sd_L ?_))
local macro_rules | `(tactic| walk_at "go") => `(tactic| repeat (first | walk_at "vs" | walk_at "op"))
local macro_rules | `(tactic| walk_at "gb") => `(tactic| repeat (first | walk_at "vs" | walk_at "op" | with_reducible (first | refine br_t ?_ | refine br_f ?_ | refine br_nt ?_ | refine br_nf ?_)))
namespace K18
open FM
theorem nodesAll_le {c : Nat} : ∀ {ds : List PyData}, (∀ d ∈ ds, nodes d ≤ c) → nodesAll ds ≤ c * ds.length
  | [], _ => by simp [nodesAll]
  | d :: ds, h => by
    have h1 := h d (by simp)
    have h2 := nodesAll_le fun x hx => h x (List.mem_cons_of_mem _ hx)
    rw [nodesAll, List.length_cons, Nat.mul_succ]
    omega
theorem pl_dL (l : Lit) : plain (dL l) = true ∧ nodes (dL l) = 3 := by simp [dL, dLit, plain, plainAll, nodes, nodesAll]
theorem pl_tup {ds : List PyData} {c n : Nat} (h : ∀ d ∈ ds, plain d = true ∧ nodes d ≤ c) (hl : ds.length ≤ n) : plain (.tuple ds) = true ∧ nodes (.tuple ds) ≤ 1 + c * n := by
  refine ⟨by rw [plain]; exact (plainAll_iff ds).mpr fun d hd => (h d hd).1, ?_⟩
  rw [nodes]
  have := nodesAll_le fun d hd => (h d hd).2
  have := Nat.mul_le_mul_left c hl
  omega
theorem pl_dR {r : Rule} (h : r.length ≤ 12) : plain (dR r) = true ∧ nodes (dR r) ≤ 37 := pl_tup (c := 3) (n := 12) (fun d hd => by
  obtain ⟨l, _, rfl⟩ := List.mem_map.mp hd
  exact ⟨(pl_dL l).1, Nat.le_of_eq (pl_dL l).2⟩) (by rw [List.length_map]; exact h)
theorem pl_dS {m : Nat} {rs : List Rule} (hl : rs.length ≤ 200) (h : ∀ r ∈ rs, r.length ≤ 12) : plain (dS (m : Nat) rs) = true ∧ nodes (dS (m : Nat) rs) ≤ 8000 := by
  obtain ⟨a, b⟩ := pl_tup (ds := rs.map dR) (c := 37) (n := 200) (fun d hd => by
    obtain ⟨r, hr, rfl⟩ := List.mem_map.mp hd
    exact pl_dR (h r hr)) (by rw [List.length_map]; exact hl)
  show plain (.tuple [.int m, .tuple (rs.map dR)]) = true ∧ nodes (.tuple [.int m, .tuple (rs.map dR)]) ≤ 8000
  refine ⟨by simp [plain, plainAll] at a ⊢; exact a, ?_⟩
  have e : nodes (.tuple [.int m, .tuple (rs.map dR)]) = 1 + (1 + (nodes (.tuple (rs.map dR)) + 0)) := by rw [nodes, nodesAll, nodesAll, nodesAll]; simp [nodes]
  omega
theorem pl_dNs {ks : List Nat} (h : ks.length ≤ 1000) : plain (dNs ks) = true ∧ nodes (dNs ks) ≤ 1 + 1 * 1000 := pl_tup (fun d hd => by
  obtain ⟨k, _, rfl⟩ := List.mem_map.mp hd
  exact ⟨by simp [plain], by simp [nodes]⟩) (by rw [List.length_map]; exact h)
theorem outS_sub {I : List Rule → Nat → Bool} : ∀ (n : Nat) (rs : List Rule), (outS I n rs).Sublist rs
  | 0, rs => List.Sublist.refl rs
  | n + 1, rs => by
    rw [outS]
    cases (List.range rs.length).find? (I rs) with
    | none => exact List.Sublist.refl rs
    | some i => exact (outS_sub n _).trans (List.eraseIdx_sublist _ _)
theorem outS_none {I : List Rule → Nat → Bool} : ∀ (n : Nat) (rs : List Rule), rs.length ≤ n → ∀ k, k < (outS I n rs).length → I (outS I n rs) k = false
  | 0, rs, h, k, hk => by
    have : rs = [] := List.length_eq_zero_iff.mp (by omega)
    subst this
    simp [outS] at hk
  | n + 1, rs, h, k, hk => by
    rw [outS] at hk ⊢
    cases e : (List.range rs.length).find? (I rs) with
    | none =>
      rw [e] at hk
      rw [List.find?_eq_none] at e
      simpa using e k (List.mem_range.mpr hk)
    | some i =>
      rw [e] at hk
      have hi : i < rs.length := List.mem_range.mp (List.mem_of_find?_eq_some e)
      exact outS_none n _ (by rw [List.length_eraseIdx_of_lt hi]; omega) k hk
theorem len__law_asked : ∀ ds Q, wp__law_asked ds Q → ds.length = 2 := fun ds Q ⟨m, rs, gs, e, _⟩ => by rw [e]; rfl
theorem rd__law_asked : ∀ ds Q, wp__law_asked ds Q → τ__law_asked (ends0 Q) (fzs ds ++ List.replicate (3 - ds.length) none) := fun ds Q ⟨m, rs, gs, e, W, q⟩ => by
  subst e
  have sml := W.sml
  have gk := W.ok
  have ed : (List.range (rs.map (ent gs)).length).filter (lawF gs (rs.map (ent gs))) = idleS m rs := by
    rw [List.length_map]
    exact List.filter_congr fun k hk => law_is gk W.rin (List.mem_range.mp hk)
  have il : (idleS m rs).length ≤ 1000 := by
    have := List.length_filter_le (idl m rs) (List.range rs.length)
    rw [List.length_range] at this
    have := W.l200
    unfold idleS
    omega
  have el : outS (lawI gs) rs.length rs = leanS m rs := outS_is gk rs.length rs W.rin
  have sub : (leanS m rs).Sublist rs := outS_sub _ _
  have ll : (leanS m rs).length ≤ 200 := Nat.le_trans sub.length_le W.l200
  have sl : Sml m (leanS m rs) := ⟨sml.1, sml.2.1, by omega, fun r hr => sml.2.2.2 r (sub.subset hr)⟩
  have r12 : ∀ r ∈ leanS m rs, r.length ≤ 12 := fun r hr => Nat.le_trans (sl.2.2.2 r hr).len sl.2.1
  have no : ∀ k, k < (leanS m rs).length → idl m (leanS m rs) k = false := outS_none rs.length rs (Nat.le_refl _)
  have i0 : idleS m (leanS m rs) = [] := List.filter_eq_nil_iff.mpr fun k hk => by rw [no k (List.mem_range.mp hk)]; simp
  have l0 : leanS m (leanS m rs) = leanS m rs := outS_stop no _
  refine st_nrm rfl ?_
  unfold τ__law_asked
  walk_at "go"
  refine ⟨m, rs, rfl, sml, ?_⟩
  walk_at "go"
  refine ⟨m, gs, rs, .inr rfl, gk, W.l200, W.rin, ?_⟩
  walk_at "go"
  refine ⟨m, gs, rs.map (ent gs), rfl, gk, ent_ok gk W.rin, by rw [List.length_map]; exact W.l200, ?_⟩
  rw [ed]
  walk_at "go"
  refine ⟨dNs (idleS m rs), rfl, (pl_dNs il).1, Nat.le_trans (pl_dNs il).2 (by omega), ?_⟩
  walk_at "gb"
  refine ⟨m, gs, rs, rfl, gk, W.l200, W.rin, ?_⟩
  rw [el]
  walk_at "gb"
  refine ⟨m, rs, rfl, sml, ?_⟩
  walk_at "gb"
  refine ⟨dS (m : Nat) (leanS m rs), rfl, (pl_dS ll r12).1, Nat.le_trans (pl_dS (m := m) ll r12).2 (by omega), ?_⟩
  walk_at "gb"
  refine ⟨m, leanS m rs, rfl, sl, ?_⟩
  rw [i0]
  walk_at "gb"
  refine ⟨m, leanS m rs, rfl, sl, ?_⟩
  rw [l0]
  walk_at "gb"
  obtain ⟨p1, p2⟩ := pl_dS (m := m) ll r12
  refine ⟨.tuple [.tuple [], dS (m : Nat) (leanS m rs)], rfl, by simp [plain, plainAll, p1], ?_, q⟩
  have e : nodes (.tuple [.tuple [], dS (m : Nat) (leanS m rs)]) = 1 + (1 + (nodes (dS (m : Nat) (leanS m rs)) + 0)) := by rw [nodes, nodesAll, nodesAll, nodesAll]; simp [nodes, nodesAll]
  omega
end K18
end
section
open VL PySem L2
local macro_rules | `(tactic| walk_at "vs") => `(tactic| first
  | with_reducible (first | refine st_seq ?_ | refine st_ret ?_ | refine st_set ?_ | refine st_if ?_ | refine st_drop ?_ | refine st_next ?_ | refine st_par ?_ | refine st_asg ?_ | refine st_rt0 ?_ | refine st_nx0 ?_ | refine st_brk ?_ | refine st_cnt ?_ | refine st_retN ?_ | refine st_op ?_ | refine st_op1 ?_ | refine st_an ?_ | refine st_ac ?_ | refine st_cb ?_ | refine st_tup ?_ | refine st_lst ?_ | refine st_to ?_ | refine st_tru ?_ | refine st_tnot ?_ | refine st_tand ?_ | refine st_tor ?_ | refine st_and ?_ | refine st_or ?_ | refine st_not ?_ | refine st_eif ?_ | refine st_chain ?_ | refine st_call ?_ | refine st_calli ?_ | refine st_isi ?_ | refine st_lrg ?_ | refine st_trg ?_ | refine st_sl ?_ | refine st_pn ?_ | refine st_ps ?_ | refine st_iseq ?_ | refine st_ir1 ?_ | refine st_ir2 ?_ | refine st_yes ?_ | refine st_c ?_ | refine st_xo ?_ | refine st_ox ?_ | refine st_cbe ?_ | refine st_true ?_ | refine st_ixe ?_ | refine st_dnew ?_ | refine st_ao0 ?_ | refine st_ao ?_ | refine st_trl ?_ | refine st_callk ?_ | refine st_callB ?_ | refine st_put ?_ | refine st_dput ?_ | refine st_g0 ?_ | refine st_sme ?_ | refine st_sme0 ?_ | refine st_pute ?_ | refine st_par3 ?_ | refine st_xelD ?_ | refine st_cbd ?_ | refine st_truDE ?_ | refine st_ixD' ?_ | refine st_smd ?_ | refine st_smd0 ?_ | refine st_putD ?_ | refine st_tdl ?_ | refine st_idx ?_ | refine st_rev ?_)
  | (with_reducible show (sAugI _ _ _ _ _)); refine st_augI rfl ?_
  | (with_reducible show (xVar _ _ _)); refine st_var rfl ?_
  | (with_reducible show (xVal _ _ _)); (first | refine st_val rfl ?_ | refine st_valL rfl rfl rfl ?_)
  | (with_reducible show (oMv _ _ _)); (first | refine st_mv rfl ?_ | refine st_mvL rfl rfl ?_)
  | (with_reducible show (eIxS _ _ _ _)); (first | refine st_ixT rfl ?_ | refine st_ixLs rfl ?_ | refine st_ixF rfl ?_ | refine st_ixTr rfl ?_ | refine st_ixDic rfl rfl ?_)
  | (with_reducible show (eLenS _ _ _)); (first | refine st_lenT rfl ?_ | refine st_lenD _ rfl ?_)
  | (with_reducible show (eEl _ _ _ _)); refine st_el rfl ?_
  | (with_reducible show (eApp _ _ _ _ _)); (first | refine st_app (listG_ls rfl) ?_ | refine st_app (listG_tr rfl) ?_)
  | (with_reducible show (sPutS _ _ _ _ _ _)); (first | refine st_putS rfl ?_ | refine st_putSD rfl ?_)
  | (with_reducible show (eInS _ _ _ _)); (first | refine st_in rfl ?_ | refine st_din rfl ?_)
  | (with_reducible show (eNotInS _ _ _ _)); (first | refine st_notin rfl ?_ | refine st_dnotin rfl ?_)
  | (with_reducible show (tInS _ _ _ _)); (first | refine st_tin rfl ?_ | refine st_tdin rfl ?_)
  | (with_reducible show (tNotInS _ _ _ _)); (first | refine st_tnotin rfl ?_ | refine st_tdnotin rfl ?_)
  | (with_reducible show (sDel _ _ _ _)); refine st_del rfl ?_
  | (with_reducible show (eSM _ _ _ _ _)); refine st_sm rfl ?_
  | (with_reducible show (gN _ _ _ _)); refine st_gn rfl ?_
  | (with_reducible show (gConss _ _ _ _ _)); refine st_gc ?_
  | (with_reducible show (gTupD _ _ _ _ _)); refine st_gt rfl ?_
  | (with_reducible show (∃ d b, _ = some d ∧ kitD d _ = some b ∧ _)); (first | refine ⟨_, true, rfl, (rfl : kitD _ _ = some true), ?_⟩ | refine ⟨_, false, rfl, (rfl : kitD _ _ = some false), ?_⟩)
  | (with_reducible show (∃ _, _)); (first | refine ⟨_, rfl, ?_⟩ | refine ⟨_, _, rfl, rfl, ?_⟩ | refine ⟨_, _, _, rfl, rfl, rfl, ?_⟩ | refine ⟨_, _, _, _, rfl, rfl, rfl, ?_⟩ | refine ⟨_, _, _, _, rfl, rfl, rfl, rfl, ?_⟩ | refine ⟨_, _, _, rfl, .inl ⟨_, rfl, rfl, rfl⟩, ?_⟩)
  | (with_reducible show ((∃ _, _) ∧ _)); (first | refine ⟨⟨_, rfl, _, .inl rfl⟩, ?_⟩ | refine ⟨⟨_, rfl, [], .inr ⟨_, rfl⟩⟩, ?_⟩)
  | (with_reducible show (_ ≤ sizeLine ∧ _)); refine ⟨Evl.sz_of (Nat.le_of_ble_eq_true rfl), ?_⟩)
local macro_rules | `(tactic| walk_at "op") => `(tactic| first
  | (with_reducible show (opAdd _ _ _)); (first | refine op_addI ?_)
  | (with_reducible show (opSub _ _ _)); (first | refine op_subI ?_)
  | (with_reducible show (opLt _ _ _)); (first | refine op_ltI ?_)
  | (with_reducible show (opLe _ _ _)); (first | refine op_leI ?_)
  | (with_reducible show (opGt _ _ _)); (first | refine op_gtI ?_)
  | (with_reducible show (opGe _ _ _)); (first | refine op_geI ?_)
  | (with_reducible show (opEq _ _ _)); (first | refine op_eqI ?_ | refine op_eqB ?_)
  | (with_reducible show (opNe _ _ _)); (first | refine op_neI ?_ | refine op_neB ?_)
  | (with_reducible show (opIsN _ _ _)); (first | refine op_isNone ?_ | refine op_isInt ?_ | refine op_isTup ?_ | refine op_isBl ?_ | refine op_isSt ?_ | refine op_isLs ?_)
  | (with_reducible show (opNotN _ _ _)); (first | refine op_notNone ?_ | refine op_notTup ?_)
  | (with_reducible show (opIx _ _ _)); (first | refine op_ixT0 rfl ?_ | refine op_ixT1 rfl ?_ | refine op_ixT2 rfl ?_ | refine op_ixL0 rfl ?_ | refine op_ixL1 rfl ?_)
  | (with_reducible show (op1Neg _ _)); refine op1_negI ?_
  | (with_reducible show (cdLen _ _)); (first | refine cd_lenL ?_ | refine cd_lenT ?_)
  | (with_reducible show (cdInt _ _)); (first | refine cd_intI ?_ | refine cd_intB ?_)
  | (with_reducible show (cdTuple _ _)); (first | refine cd_tupL ?_ | refine cd_tupT ?_)
  | (with_reducible show (cdList _ _)); (first | refine cd_listL ?_ | refine cd_listT ?_)
  | (with_reducible show (cdAbs _ _)); (first | refine cd_absI ?_)
  | (with_reducible show (cdMin2 _ _)); (first | refine cd_min2I ?_)
  | (with_reducible show (cdMax2 _ _)); (first | refine cd_max2I ?_)
  | (with_reducible show (sdAll _ _ _ _)); (first | refine sd_T ?_ | refine sd_L ?_))
local macro_rules | `(tactic| walk_at "go") => `(tactic| repeat (first | walk_at "vs" | walk_at "op"))
local macro_rules | `(tactic| walk_at "gb") => `(tactic| repeat (first | walk_at "vs" | walk_at "op" | with_reducible (first | refine br_t ?_ | refine br_f ?_ | refine br_nt ?_ | refine br_nf ?_)))
namespace K18
open FM
def rangeI (m : Nat) : List Int := (List.range m).map fun (i : Nat) => (i : Int)
theorem rangeI_some (m : Nat) : Some' m (rangeI m) := ⟨fun b hb => by
  obtain ⟨i, hi, e⟩ := List.mem_map.mp hb
  have := List.mem_range.mp hi
  omega, List.pairwise_map.mpr (List.nodup_range.imp fun {a b} h e => h (by omega))⟩
theorem rangeI_len (m : Nat) : (rangeI m).length = m := by unfold rangeI; simp
theorem rangeN_I (m : Nat) : rangeN m = (rangeI m).map .int := by unfold rangeN rangeI; rw [List.map_map]; rfl
theorem mem_rangeI {m b : Nat} (h : b < m) : (b : Int) ∈ rangeI m := List.mem_map.mpr ⟨b, List.mem_range.mpr h, rfl⟩
theorem whole_one {m : Nat} {rs : List Rule} (m1 : 1 ≤ m) (m6 : m ≤ 6) (ov : Over m (rangeI m) rs) (hl : rs.length ≤ 200) : Whole m rs [rangeI m] where
  sml := ⟨m1, by omega, by omega, fun r hr => (ov r hr).1⟩
  l200 := hl
  ok := ⟨by omega, by simp, fun g hg => by
    rw [List.mem_singleton.mp hg]
    exact ⟨rangeI_some m, by rw [rangeI_len]; omega⟩, by simp⟩
  cov := fun b hb => ⟨_, List.mem_singleton.mpr rfl, mem_rangeI hb⟩
  rin := fun r hr => ⟨(ov r hr).1, .inr ⟨_, List.mem_singleton.mpr rfl, (ov r hr).2⟩⟩
theorem len__law_small : ∀ o ds Q, wp__law_small o ds Q → ds.length + 1 = 1 := fun o ds Q ⟨c, _, _, e, _⟩ => by rw [e]; rfl
theorem rd__law_small : ∀ o ds Q, wp__law_small o ds Q → τ__law_small (ends1 Q) (some o :: fzs ds ++ List.replicate (4 - (ds.length + 1)) none) := fun o ds Q ⟨c, pk, hc, e, q⟩ => by
  subst e
  have hc : c + 9000 < 1000000 := hc
  refine st_nrm rfl ?_
  unfold τ__law_small
  refine seq_cut (fun Γ' => ∃ (o' : O) (m : Nat), Γ' = [some o', some (.fz (.int (m : Nat))), none, none] ∧ PoolOk (c + 1) o' ∧ 1 ≤ m ∧ m ≤ 6) (fun nx hnx => ?_) (fun Γ' w => ?_)
  · walk_at "go"
    refine ⟨c, 5, 5, pk, (by show _ < 1000000; omega), rfl, by omega, by omega, (by show _ ≤ 1000000; omega), fun n o2 hn pk2 => ?_⟩
    walk_at "go"
    exact hnx _ ⟨o2, n + 1, by rw [show (1 : Int) + ((n : Nat) : Int) = ((n + 1 : Nat) : Int) by omega], pk2, by omega, by omega⟩
  obtain ⟨o1, m, rfl, pk1, m1, m6⟩ := w
  refine seq_cut (fun Γ' => ∃ (o' : O) (m : Nat), Γ' = [some o', some (.fz (.int (m : Nat))), none, none] ∧ PoolOk (c + 2) o' ∧ 1 ≤ m ∧ m ≤ 6) (fun nx hnx => ?_) (fun Γ' w => ?_)
  · walk_at "go"
    refine ⟨c + 1, 2, 6, pk1, (by show _ < 1000000; omega), rfl, by omega, by omega, (by show _ ≤ 1000000; omega), fun n o2 hn pk2 => ?_⟩
    walk_at "go"
    refine br2 (fun _ => ?_) (fun _ => ?_)
    · walk_at "go"
      exact hnx _ ⟨o2, 6, rfl, pk2, by omega, by omega⟩
    · walk_at "go"
      exact hnx _ ⟨o2, m, rfl, pk2, m1, m6⟩
  clear m1 m6 pk1
  obtain ⟨o2, m, rfl, pk2, m1, m6⟩ := w
  walk_at "go"
  refine ⟨⟨by omega, by omega, by omega, by omega, by omega⟩, ?_⟩
  rw [Int.toNat_natCast, rangeN_I]
  walk_at "go"
  refine ⟨c + 2, m, rangeI m, pk2, (by show _ < 1000000; omega), rfl, rangeI_some m, by omega, by rw [rangeI_len]; omega, fun rs o3 lrs ov pk3 => ?_⟩
  walk_at "go"
  refine ⟨m, rs, [rangeI m], rfl, whole_one m1 m6 ov (by omega), ?_⟩
  walk_at "gb"
  rw [← List.map_reverse]
  refine ⟨m, rs.reverse, [rangeI m], rfl, whole_one m1 m6 (fun r hr => ov r (List.mem_reverse.mp hr)) (by rw [List.length_reverse]; omega), ?_⟩
  walk_at "gb"
  exact ⟨_, rfl, q o3 (pk3.mono (by omega))⟩
theorem len_law : ∀ ds Q, wp_law ds Q → ds.length = 1 := fun ds Q ⟨ns, e, _⟩ => by rw [e]; rfl
theorem rd_law : ∀ ds Q, wp_law ds Q → τ_law (ends0 Q) (fzs ds ++ List.replicate (4 - ds.length) none) := fun ds Q ⟨ns, e, hn, q⟩ => by
  subst e
  refine st_nrm rfl ?_
  unfold τ_law
  walk_at "go"
  refine ⟨ns, rfl, hn, fun o pk => ?_⟩
  walk_at "go"
  refine ⟨0, 0, 11, pk, (by show _ < 1000000; omega), rfl, by omega, by omega, (by show _ ≤ 1000000; omega), fun n o2 hn pk2 => ?_⟩
  walk_at "go"
  generalize decide (((n : Nat) : Int) = 7) = wd
  refine ⟨rfl, ?_⟩
  walk_at "gb"
  refine for_inv (List.range 3) (fun (i : Nat) => PyData.int (i : Nat)) (fun i Γ' => ∃ o' x, Γ' = [some (.fz (scD ns)), some o', some (.fz (.bool wd)), x] ∧ PoolOk (1 + 1000 * i) o') (Γ1 := [some (.fz (scD ns)), some o2, some (.fz (.bool wd)), none]) (fun QI q => ?_) ⟨o2, none, rfl, pk2⟩ (fun i n Γ' en w => ?_) (fun Γ' w => ?_)
  · walk_at "gb"
    exact ⟨szI (by omega) (by omega), q⟩
  · obtain ⟨o', x, rfl, pk'⟩ := w
    have il : i < 3 := by have := (List.getElem?_eq_some_iff.mp en).1; simpa using this
    walk_at "gb"
    refine ⟨1 + 1000 * i, pk', (by show _ < 1000000; omega), rfl, fun o3 pk3 => ?_⟩
    walk_at "gb"
    exact ⟨o3, _, rfl, pk3.mono (by omega)⟩
  · obtain ⟨o', x, rfl, pk'⟩ := w
    rw [List.length_range] at pk'
    walk_at "gb"
    refine br2 (fun _ => ?_) (fun _ => ?_)
    · walk_at "gb"
      exact q
    · walk_at "gb"
      refine ⟨1 + 1000 * 3, pk', (by show _ < 1000000; omega), rfl, fun o4 => ?_⟩
      walk_at "gb"
      exact q
end K18
end
section
open VL PySem L2
local macro_rules | `(tactic| walk_at "vs") => `(tactic| first
  | with_reducible (first | refine st_seq ?_ | refine st_ret ?_ | refine st_set ?_ | refine st_if ?_ | refine st_drop ?_ | refine st_next ?_ | refine st_par ?_ | refine st_asg ?_ | refine st_rt0 ?_ | refine st_nx0 ?_ | refine st_brk ?_ | refine st_cnt ?_ | refine st_retN ?_ | refine st_op ?_ | refine st_op1 ?_ | refine st_an ?_ | refine st_ac ?_ | refine st_cb ?_ | refine st_tup ?_ | refine st_lst ?_ | refine st_to ?_ | refine st_tru ?_ | refine st_tnot ?_ | refine st_tand ?_ | refine st_tor ?_ | refine st_and ?_ | refine st_or ?_ | refine st_not ?_ | refine st_eif ?_ | refine st_chain ?_ | refine st_call ?_ | refine st_calli ?_ | refine st_isi ?_ | refine st_lrg ?_ | refine st_trg ?_ | refine st_sl ?_ | refine st_pn ?_ | refine st_ps ?_ | refine st_iseq ?_ | refine st_ir1 ?_ | refine st_ir2 ?_ | refine st_yes ?_ | refine st_c ?_ | refine st_xo ?_ | refine st_ox ?_ | refine st_cbe ?_ | refine st_true ?_ | refine st_ixe ?_ | refine st_dnew ?_ | refine st_ao0 ?_ | refine st_ao ?_ | refine st_trl ?_ | refine st_callk ?_ | refine st_callB ?_ | refine st_put ?_ | refine st_dput ?_ | refine st_g0 ?_ | refine st_sme ?_ | refine st_sme0 ?_ | refine st_pute ?_ | refine st_par3 ?_ | refine st_xelD ?_ | refine st_cbd ?_ | refine st_truDE ?_ | refine st_ixD' ?_ | refine st_smd ?_ | refine st_smd0 ?_ | refine st_putD ?_ | refine st_tdl ?_ | refine st_idx ?_ | refine st_rev ?_)
  | (with_reducible show (sAugI _ _ _ _ _)); refine st_augI rfl ?_
  | (with_reducible show (xVar _ _ _)); refine st_var rfl ?_
  | (with_reducible show (xVal _ _ _)); (first | refine st_val rfl ?_ | refine st_valL rfl rfl rfl ?_)
  | (with_reducible show (oMv _ _ _)); (first | refine st_mv rfl ?_ | refine st_mvL rfl rfl ?_)
  | (with_reducible show (eIxS _ _ _ _)); (first | refine st_ixT rfl ?_ | refine st_ixLs rfl ?_ | refine st_ixF rfl ?_ | refine st_ixTr rfl ?_ | refine st_ixDic rfl rfl ?_)
  | (with_reducible show (eLenS _ _ _)); (first | refine st_lenT rfl ?_ | refine st_lenD _ rfl ?_)
  | (with_reducible show (eEl _ _ _ _)); refine st_el rfl ?_
  | (with_reducible show (eApp _ _ _ _ _)); (first | refine st_app (listG_ls rfl) ?_ | refine st_app (listG_tr rfl) ?_)
  | (with_reducible show (sPutS _ _ _ _ _ _)); (first | refine st_putS rfl ?_ | refine st_putSD rfl ?_)
  | (with_reducible show (eInS _ _ _ _)); (first | refine st_in rfl ?_ | refine st_din rfl ?_)
  | (with_reducible show (eNotInS _ _ _ _)); (first | refine st_notin rfl ?_ | refine st_dnotin rfl ?_)
  | (with_reducible show (tInS _ _ _ _)); (first | refine st_tin rfl ?_ | refine st_tdin rfl ?_)
  | (with_reducible show (tNotInS _ _ _ _)); (first | refine st_tnotin rfl ?_ | refine st_tdnotin rfl ?_)
  | (with_reducible show (sDel _ _ _ _)); refine st_del rfl ?_
  | (with_reducible show (eSM _ _ _ _ _)); refine st_sm rfl ?_
  | (with_reducible show (gN _ _ _ _)); refine st_gn rfl ?_
  | (with_reducible show (gConss _ _ _ _ _)); refine st_gc ?_
  | (with_reducible show (gTupD _ _ _ _ _)); refine st_gt rfl ?_
  | (with_reducible show (∃ d b, _ = some d ∧ kitD d _ = some b ∧ _)); (first | refine ⟨_, true, rfl, (rfl : kitD _ _ = some true), ?_⟩ | refine ⟨_, false, rfl, (rfl : kitD _ _ = some false), ?_⟩)
  | (with_reducible show (∃ _, _)); (first | refine ⟨_, rfl, ?_⟩ | refine ⟨_, _, rfl, rfl, ?_⟩ | refine ⟨_, _, _, rfl, rfl, rfl, ?_⟩ | refine ⟨_, _, _, _, rfl, rfl, rfl, ?_⟩ | refine ⟨_, _, _, _, rfl, rfl, rfl, rfl, ?_⟩ | refine ⟨_, _, _, rfl, .inl ⟨_, rfl, rfl, rfl⟩, ?_⟩)
  | (with_reducible show ((∃ _, _) ∧ _)); (first | refine ⟨⟨_, rfl, _, .inl rfl⟩, ?_⟩ | refine ⟨⟨_, rfl, [], .inr ⟨_, rfl⟩⟩, ?_⟩)
  | (with_reducible show (_ ≤ sizeLine ∧ _)); refine ⟨Evl.sz_of (Nat.le_of_ble_eq_true rfl), ?_⟩)
local macro_rules | `(tactic| walk_at "op") => `(tactic| first
  | (with_reducible show (opAdd _ _ _)); (first | refine op_addI ?_)
  | (with_reducible show (opSub _ _ _)); (first | refine op_subI ?_)
  | (with_reducible show (opLt _ _ _)); (first | refine op_ltI ?_)
  | (with_reducible show (opLe _ _ _)); (first | refine op_leI ?_)
  | (with_reducible show (opGt _ _ _)); (first | refine op_gtI ?_)
  | (with_reducible show (opGe _ _ _)); (first | refine op_geI ?_)
  | (with_reducible show (opEq _ _ _)); (first | refine op_eqI ?_ | refine op_eqB ?_)
  | (with_reducible show (opNe _ _ _)); (first | refine op_neI ?_ | refine op_neB ?_)
  | (with_reducible show (opIsN _ _ _)); (first | refine op_isNone ?_ | refine op_isInt ?_ | refine op_isTup ?_ | refine op_isBl ?_ | refine op_isSt ?_ | refine op_isLs ?_)
  | (with_reducible show (opNotN _ _ _)); (first | refine op_notNone ?_ | refine op_notTup ?_)
  | (with_reducible show (opIx _ _ _)); (first | refine op_ixT0 rfl ?_ | refine op_ixT1 rfl ?_ | refine op_ixT2 rfl ?_ | refine op_ixL0 rfl ?_ | refine op_ixL1 rfl ?_)
  | (with_reducible show (op1Neg _ _)); refine op1_negI ?_
  | (with_reducible show (cdLen _ _)); (first | refine cd_lenL ?_ | refine cd_lenT ?_)
  | (with_reducible show (cdInt _ _)); (first | refine cd_intI ?_ | refine cd_intB ?_)
  | (with_reducible show (cdTuple _ _)); (first | refine cd_tupL ?_ | refine cd_tupT ?_)
  | (with_reducible show (cdList _ _)); (first | refine cd_listL ?_ | refine cd_listT ?_)
  | (with_reducible show (cdAbs _ _)); (first | refine cd_absI ?_)
  | (with_reducible show (cdMin2 _ _)); (first | refine cd_min2I ?_)
  | (with_reducible show (cdMax2 _ _)); (first | refine cd_max2I ?_)
  | (with_reducible show (sdAll _ _ _ _)); (first | refine sd_T ?_ | refine sd_L ?_))
local macro_rules | `(tactic| walk_at "go") => `(tactic| repeat (first | walk_at "vs" | walk_at "op"))
local macro_rules | `(tactic| walk_at "gb") => `(tactic| repeat (first | walk_at "vs" | walk_at "op" | with_reducible (first | refine br_t ?_ | refine br_f ?_ | refine br_nt ?_ | refine br_nf ?_)))
namespace K18
open FM
theorem wfd (m : Nat) (r : Rule) (h : (r.all fun l => decide (0 ≤ l.1 ∧ l.1 < (m : Int))) = true) (h2 : r.Pairwise fun a b => a.1 < b.1) : Wf m r :=
  ⟨fun l hl => of_decide_eq_true (List.all_eq_true.mp h l hl), h2⟩
def chkS (m : Nat) (rs : List Rule) : Bool := decide (1 ≤ m) && decide (m ≤ 12) && decide (rs.length ≤ 200) && rs.all fun r => (r.all fun l => decide (0 ≤ l.1 ∧ l.1 < (m : Int))) && decide (r.Pairwise fun a b => a.1 < b.1)
theorem sml_of {m : Nat} {rs : List Rule} (h : chkS m rs = true) : Sml m rs := by
  unfold chkS at h
  simp only [Bool.and_eq_true, decide_eq_true_eq, List.all_eq_true] at h
  exact ⟨h.1.1.1, h.1.1.2, by omega, fun r hr => ⟨fun l hl => (h.2 r hr).1 l hl, (h.2 r hr).2⟩⟩
def h0 : List Rule := foursS [(2, true), (0, false), (1, true)]
def h1 : List Rule := [[(0, true)], [(0, true), (1, true)]]
def h2 : List Rule := [[(0, true)], [(0, true)]]
def h3 : List Rule := [[(0, false), (1, true)], [(1, false), (2, true)], [(0, false), (2, true)], [(0, true), (2, false)]]
def h4 : List Rule := [[(0, true), (1, true)], [(0, false), (1, false)]]
def h5 : List Rule := [[(0, true)], [(0, false)], []]
def h7 : List Rule := [[(0, false), (2, true)], [(2, true)], [(1, false), (2, true)], [(0, true), (1, true)]]
theorem len__law_by_hand : ∀ ds Q, wp__law_by_hand ds Q → ds.length = 0 := fun ds Q ⟨e, _⟩ => by rw [e]; rfl
theorem rd__law_by_hand : ∀ ds Q, wp__law_by_hand ds Q → τ__law_by_hand (ends0 Q) (fzs ds ++ List.replicate (8 - ds.length) none) := fun ds Q ⟨e, q⟩ => by
  subst e
  refine st_nrm rfl ?_
  unfold τ__law_by_hand
  refine seq_cut (fun Γ' => Γ' = [some (.fz (dS (3 : Nat) h0)), none, none, none, none, none, none, none]) (fun nx hnx => ?_) (fun Γ' w => ?_)
  · walk_at "go"
    refine ⟨3, [(2, true), (0, false), (1, true)], rfl, by simp, by simp, fun l hl => ?_, by simp, ?_⟩
    · simp only [List.mem_cons, List.not_mem_nil, or_false] at hl
      rcases hl with rfl | rfl | rfl <;> simp
    walk_at "go"
    exact hnx _ rfl
  subst w
  refine seq_cut (fun Γ' => Γ' = [some (.fz (dS (3 : Nat) h0)), none, none, none, none, none, none, none]) (fun nx hnx => ?_) (fun Γ' w => ?_)
  · walk_at "go"
    refine ⟨3, h0, rfl, sml_of (by decide +kernel), ?_⟩
    rw [show idleS 3 h0 = [0, 1, 2, 3, 4] by decide +kernel]
    walk_at "go"
    refine ⟨3, h0, rfl, sml_of (by decide +kernel), ?_⟩
    rw [show leanS 3 h0 = h0.drop 4 by decide +kernel]
    walk_at "go"
    rw [show (some (4 : Int)) = some (((4 : Nat) : Nat) : Int) from rfl, cut_after, ← List.map_drop]
    walk_at "go"
    refine ⟨.tuple [dNs [0, 1, 2, 3, 4], dS (3 : Nat) (h0.drop 4)], rfl, by decide +kernel, by decide +kernel, ?_⟩
    walk_at "gb"
    exact hnx _ rfl
  subst w
  refine seq_cut (fun Γ' => Γ' = [some (.fz (dS (3 : Nat) h0)), some (.fz (dS (2 : Nat) h1)), none, none, none, none, none, none]) (fun nx hnx => ?_) (fun Γ' w => ?_)
  · walk_at "go"
    exact hnx _ rfl
  subst w
  refine seq_cut (fun Γ' => Γ' = [some (.fz (dS (3 : Nat) h0)), some (.fz (dS (2 : Nat) h1)), none, none, none, none, none, none]) (fun nx hnx => ?_) (fun Γ' w => ?_)
  · walk_at "go"
    refine ⟨2, h1, rfl, sml_of (by decide +kernel), ?_⟩
    rw [show idleS 2 h1 = [1] by decide +kernel]
    walk_at "go"
    refine ⟨2, h1, rfl, sml_of (by decide +kernel), ?_⟩
    rw [show leanS 2 h1 = [[(0, true)]] by decide +kernel]
    walk_at "go"
    refine ⟨.tuple [dNs [1], dS (2 : Nat) [[(0, true)]]], rfl, by decide +kernel, by decide +kernel, ?_⟩
    walk_at "gb"
    exact hnx _ rfl
  subst w
  refine seq_cut (fun Γ' => Γ' = [some (.fz (dS (3 : Nat) h0)), some (.fz (dS (2 : Nat) h1)), some (.fz (dS (1 : Nat) h2)), none, none, none, none, none]) (fun nx hnx => ?_) (fun Γ' w => ?_)
  · walk_at "go"
    exact hnx _ rfl
  subst w
  refine seq_cut (fun Γ' => Γ' = [some (.fz (dS (3 : Nat) h0)), some (.fz (dS (2 : Nat) h1)), some (.fz (dS (1 : Nat) h2)), none, none, none, none, none]) (fun nx hnx => ?_) (fun Γ' w => ?_)
  · walk_at "go"
    refine ⟨1, h2, rfl, sml_of (by decide +kernel), ?_⟩
    rw [show idleS 1 h2 = [0, 1] by decide +kernel]
    walk_at "go"
    refine ⟨1, h2, rfl, sml_of (by decide +kernel), ?_⟩
    rw [show leanS 1 h2 = [[(0, true)]] by decide +kernel]
    walk_at "go"
    refine ⟨.tuple [dNs [0, 1], dS (1 : Nat) [[(0, true)]]], rfl, by decide +kernel, by decide +kernel, ?_⟩
    walk_at "gb"
    exact hnx _ rfl
  subst w
  refine seq_cut (fun Γ' => Γ' = [some (.fz (dS (3 : Nat) h0)), some (.fz (dS (2 : Nat) h1)), some (.fz (dS (1 : Nat) h2)), some (.fz (dS (3 : Nat) h3)), none, none, none, none]) (fun nx hnx => ?_) (fun Γ' w => ?_)
  · walk_at "go"
    exact hnx _ rfl
  subst w
  refine seq_cut (fun Γ' => Γ' = [some (.fz (dS (3 : Nat) h0)), some (.fz (dS (2 : Nat) h1)), some (.fz (dS (1 : Nat) h2)), some (.fz (dS (3 : Nat) h3)), none, none, none, none]) (fun nx hnx => ?_) (fun Γ' w => ?_)
  · walk_at "go"
    refine ⟨3, h3, rfl, sml_of (by decide +kernel), ?_⟩
    rw [show idleS 3 h3 = [2] by decide +kernel]
    walk_at "go"
    refine ⟨3, h3, rfl, sml_of (by decide +kernel), ?_⟩
    rw [show leanS 3 h3 = h3.eraseIdx 2 by decide +kernel]
    walk_at "go"
    refine op_ixT 3 rfl rfl ?_
    walk_at "go"
    refine ⟨.tuple [dNs [2], dS (3 : Nat) (h3.eraseIdx 2)], rfl, by decide +kernel, by decide +kernel, ?_⟩
    walk_at "gb"
    exact hnx _ rfl
  subst w
  refine seq_cut (fun Γ' => Γ' = [some (.fz (dS (3 : Nat) h0)), some (.fz (dS (2 : Nat) h1)), some (.fz (dS (1 : Nat) h2)), some (.fz (dS (3 : Nat) h3)), some (.fz (dS (2 : Nat) h4)), none, none, none]) (fun nx hnx => ?_) (fun Γ' w => ?_)
  · walk_at "go"
    exact hnx _ rfl
  subst w
  refine seq_cut (fun Γ' => Γ' = [some (.fz (dS (3 : Nat) h0)), some (.fz (dS (2 : Nat) h1)), some (.fz (dS (1 : Nat) h2)), some (.fz (dS (3 : Nat) h3)), some (.fz (dS (2 : Nat) h4)), some (.fz (dS (1 : Nat) h5)), none, none]) (fun nx hnx => ?_) (fun Γ' w => ?_)
  · walk_at "go"
    exact hnx _ rfl
  subst w
  refine seq_cut (fun Γ' => Γ' = [some (.fz (dS (3 : Nat) h0)), some (.fz (dS (2 : Nat) h1)), some (.fz (dS (1 : Nat) h2)), some (.fz (dS (3 : Nat) h3)), some (.fz (dS (2 : Nat) h4)), some (.fz (dS (1 : Nat) h5)), some (.fz (.tuple [dNs [], dS (2 : Nat) h4, dNs [0, 1, 2], dS (1 : Nat) [[]], dNs [], dS (2 : Nat) [], dNs []])), none]) (fun nx hnx => ?_) (fun Γ' w => ?_)
  · walk_at "go"
    refine ⟨2, h4, rfl, sml_of (by decide +kernel), ?_⟩
    rw [show idleS 2 h4 = [] by decide +kernel]
    walk_at "go"
    refine ⟨2, h4, rfl, sml_of (by decide +kernel), ?_⟩
    rw [show leanS 2 h4 = h4 by decide +kernel]
    walk_at "go"
    refine ⟨1, h5, rfl, sml_of (by decide +kernel), ?_⟩
    rw [show idleS 1 h5 = [0, 1, 2] by decide +kernel]
    walk_at "go"
    refine ⟨1, h5, rfl, sml_of (by decide +kernel), ?_⟩
    rw [show leanS 1 h5 = [[]] by decide +kernel]
    walk_at "go"
    refine ⟨2, [], rfl, sml_of (by decide +kernel), ?_⟩
    rw [show idleS 2 [] = [] by decide +kernel]
    walk_at "go"
    refine ⟨2, [], rfl, sml_of (by decide +kernel), ?_⟩
    rw [show leanS 2 [] = [] by decide +kernel]
    walk_at "go"
    refine ⟨1, [[]], rfl, sml_of (by decide +kernel), ?_⟩
    rw [show idleS 1 [[]] = [] by decide +kernel]
    walk_at "go"
    exact hnx _ rfl
  subst w
  refine seq_cut (fun Γ' => Γ' = [some (.fz (dS (3 : Nat) h0)), some (.fz (dS (2 : Nat) h1)), some (.fz (dS (1 : Nat) h2)), some (.fz (dS (3 : Nat) h3)), some (.fz (dS (2 : Nat) h4)), some (.fz (dS (1 : Nat) h5)), some (.fz (.tuple [dNs [], dS (2 : Nat) h4, dNs [0, 1, 2], dS (1 : Nat) [[]], dNs [], dS (2 : Nat) [], dNs []])), none]) (fun nx hnx => ?_) (fun Γ' w => ?_)
  · walk_at "go"
    refine ⟨.tuple [dNs [], dS (2 : Nat) h4, dNs [0, 1, 2], dS (1 : Nat) [[]], dNs [], dS (2 : Nat) [], dNs []], rfl, by decide +kernel, by decide +kernel, ?_⟩
    walk_at "gb"
    exact hnx _ rfl
  subst w
  refine seq_cut (fun Γ' => Γ' = [some (.fz (dS (3 : Nat) h0)), some (.fz (dS (2 : Nat) h1)), some (.fz (dS (1 : Nat) h2)), some (.fz (dS (3 : Nat) h3)), some (.fz (dS (2 : Nat) h4)), some (.fz (dS (1 : Nat) h5)), some (.fz (.tuple [dNs [], dS (2 : Nat) h4, dNs [0, 1, 2], dS (1 : Nat) [[]], dNs [], dS (2 : Nat) [], dNs []])), some (.fz (dS (3 : Nat) h7))]) (fun nx hnx => ?_) (fun Γ' w => ?_)
  · walk_at "go"
    exact hnx _ rfl
  subst w
  walk_at "go"
  refine ⟨3, h7, rfl, sml_of (by decide +kernel), ?_⟩
  rw [show idleS 3 h7 = [0, 1, 2] by decide +kernel]
  walk_at "go"
  refine ⟨3, h7, rfl, sml_of (by decide +kernel), ?_⟩
  rw [show leanS 3 h7 = [[(2, true)], [(0, true), (1, true)]] by decide +kernel]
  walk_at "go"
  rw [show (some (1 : Int)) = some (((1 : Nat) : Nat) : Int) from rfl, show (some (2 : Int)) = some (((2 : Nat) : Nat) : Int) from rfl, cut_two _ 1 2 (by omega)]
  walk_at "go"
  rw [show (some (3 : Int)) = some (((3 : Nat) : Nat) : Int) from rfl, cut_after]
  refine op_addT (Evl.sz_of (by decide)) ?_
  walk_at "go"
  exact ⟨.tuple [dNs [0, 1, 2], dS (3 : Nat) [[(2, true)], [(0, true), (1, true)]]], rfl, by decide +kernel, by decide +kernel, q⟩
end K18
end
section
open VL PySem L2
local macro_rules | `(tactic| walk_at "vs") => `(tactic| first
  | with_reducible (first | refine st_seq ?_ | refine st_ret ?_ | refine st_set ?_ | refine st_if ?_ | refine st_drop ?_ | refine st_next ?_ | refine st_par ?_ | refine st_asg ?_ | refine st_rt0 ?_ | refine st_nx0 ?_ | refine st_brk ?_ | refine st_cnt ?_ | refine st_retN ?_ | refine st_op ?_ | refine st_op1 ?_ | refine st_an ?_ | refine st_ac ?_ | refine st_cb ?_ | refine st_tup ?_ | refine st_lst ?_ | refine st_to ?_ | refine st_tru ?_ | refine st_tnot ?_ | refine st_tand ?_ | refine st_tor ?_ | refine st_and ?_ | refine st_or ?_ | refine st_not ?_ | refine st_eif ?_ | refine st_chain ?_ | refine st_call ?_ | refine st_calli ?_ | refine st_isi ?_ | refine st_lrg ?_ | refine st_trg ?_ | refine st_sl ?_ | refine st_pn ?_ | refine st_ps ?_ | refine st_iseq ?_ | refine st_ir1 ?_ | refine st_ir2 ?_ | refine st_yes ?_ | refine st_c ?_ | refine st_xo ?_ | refine st_ox ?_ | refine st_cbe ?_ | refine st_true ?_ | refine st_ixe ?_ | refine st_dnew ?_ | refine st_ao0 ?_ | refine st_ao ?_ | refine st_trl ?_ | refine st_callk ?_ | refine st_callB ?_ | refine st_put ?_ | refine st_dput ?_ | refine st_g0 ?_ | refine st_sme ?_ | refine st_sme0 ?_ | refine st_pute ?_ | refine st_par3 ?_ | refine st_xelD ?_ | refine st_cbd ?_ | refine st_truDE ?_ | refine st_ixD' ?_ | refine st_smd ?_ | refine st_smd0 ?_ | refine st_putD ?_ | refine st_tdl ?_ | refine st_idx ?_ | refine st_rev ?_)
  | (with_reducible show (sAugI _ _ _ _ _)); refine st_augI rfl ?_
  | (with_reducible show (xVar _ _ _)); refine st_var rfl ?_
  | (with_reducible show (xVal _ _ _)); (first | refine st_val rfl ?_ | refine st_valL rfl rfl rfl ?_)
  | (with_reducible show (oMv _ _ _)); (first | refine st_mv rfl ?_ | refine st_mvL rfl rfl ?_)
  | (with_reducible show (eIxS _ _ _ _)); (first | refine st_ixT rfl ?_ | refine st_ixLs rfl ?_ | refine st_ixF rfl ?_ | refine st_ixTr rfl ?_ | refine st_ixDic rfl rfl ?_)
  | (with_reducible show (eLenS _ _ _)); (first | refine st_lenT rfl ?_ | refine st_lenD _ rfl ?_)
  | (with_reducible show (eEl _ _ _ _)); refine st_el rfl ?_
  | (with_reducible show (eApp _ _ _ _ _)); (first | refine st_app (listG_ls rfl) ?_ | refine st_app (listG_tr rfl) ?_)
  | (with_reducible show (sPutS _ _ _ _ _ _)); (first | refine st_putS rfl ?_ | refine st_putSD rfl ?_)
  | (with_reducible show (eInS _ _ _ _)); (first | refine st_in rfl ?_ | refine st_din rfl ?_)
  | (with_reducible show (eNotInS _ _ _ _)); (first | refine st_notin rfl ?_ | refine st_dnotin rfl ?_)
  | (with_reducible show (tInS _ _ _ _)); (first | refine st_tin rfl ?_ | refine st_tdin rfl ?_)
  | (with_reducible show (tNotInS _ _ _ _)); (first | refine st_tnotin rfl ?_ | refine st_tdnotin rfl ?_)
  | (with_reducible show (sDel _ _ _ _)); refine st_del rfl ?_
  | (with_reducible show (eSM _ _ _ _ _)); refine st_sm rfl ?_
  | (with_reducible show (gN _ _ _ _)); refine st_gn rfl ?_
  | (with_reducible show (gConss _ _ _ _ _)); refine st_gc ?_
  | (with_reducible show (gTupD _ _ _ _ _)); refine st_gt rfl ?_
  | (with_reducible show (∃ d b, _ = some d ∧ kitD d _ = some b ∧ _)); (first | refine ⟨_, true, rfl, (rfl : kitD _ _ = some true), ?_⟩ | refine ⟨_, false, rfl, (rfl : kitD _ _ = some false), ?_⟩)
  | (with_reducible show (∃ _, _)); (first | refine ⟨_, rfl, ?_⟩ | refine ⟨_, _, rfl, rfl, ?_⟩ | refine ⟨_, _, _, rfl, rfl, rfl, ?_⟩ | refine ⟨_, _, _, _, rfl, rfl, rfl, ?_⟩ | refine ⟨_, _, _, _, rfl, rfl, rfl, rfl, ?_⟩ | refine ⟨_, _, _, rfl, .inl ⟨_, rfl, rfl, rfl⟩, ?_⟩)
  | (with_reducible show ((∃ _, _) ∧ _)); (first | refine ⟨⟨_, rfl, _, .inl rfl⟩, ?_⟩ | refine ⟨⟨_, rfl, [], .inr ⟨_, rfl⟩⟩, ?_⟩)
  | (with_reducible show (_ ≤ sizeLine ∧ _)); refine ⟨Evl.sz_of (Nat.le_of_ble_eq_true rfl), ?_⟩)
local macro_rules | `(tactic| walk_at "op") => `(tactic| first
  | (with_reducible show (opAdd _ _ _)); (first | refine op_addI ?_)
  | (with_reducible show (opSub _ _ _)); (first | refine op_subI ?_)
  | (with_reducible show (opLt _ _ _)); (first | refine op_ltI ?_)
  | (with_reducible show (opLe _ _ _)); (first | refine op_leI ?_)
  | (with_reducible show (opGt _ _ _)); (first | refine op_gtI ?_)
  | (with_reducible show (opGe _ _ _)); (first | refine op_geI ?_)
  | (with_reducible show (opEq _ _ _)); (first | refine op_eqI ?_ | refine op_eqB ?_)
  | (with_reducible show (opNe _ _ _)); (first | refine op_neI ?_ | refine op_neB ?_)
  | (with_reducible show (opIsN _ _ _)); (first | refine op_isNone ?_ | refine op_isInt ?_ | refine op_isTup ?_ | refine op_isBl ?_ | refine op_isSt ?_ | refine op_isLs ?_)
  | (with_reducible show (opNotN _ _ _)); (first | refine op_notNone ?_ | refine op_notTup ?_)
  | (with_reducible show (opIx _ _ _)); (first | refine op_ixT0 rfl ?_ | refine op_ixT1 rfl ?_ | refine op_ixT2 rfl ?_ | refine op_ixL0 rfl ?_ | refine op_ixL1 rfl ?_)
  | (with_reducible show (op1Neg _ _)); refine op1_negI ?_
  | (with_reducible show (cdLen _ _)); (first | refine cd_lenL ?_ | refine cd_lenT ?_)
  | (with_reducible show (cdInt _ _)); (first | refine cd_intI ?_ | refine cd_intB ?_)
  | (with_reducible show (cdTuple _ _)); (first | refine cd_tupL ?_ | refine cd_tupT ?_)
  | (with_reducible show (cdList _ _)); (first | refine cd_listL ?_ | refine cd_listT ?_)
  | (with_reducible show (cdAbs _ _)); (first | refine cd_absI ?_)
  | (with_reducible show (cdMin2 _ _)); (first | refine cd_min2I ?_)
  | (with_reducible show (cdMax2 _ _)); (first | refine cd_max2I ?_)
  | (with_reducible show (sdAll _ _ _ _)); (first | refine sd_T ?_ | refine sd_L ?_))
local macro_rules | `(tactic| walk_at "go") => `(tactic| repeat (first | walk_at "vs" | walk_at "op"))
local macro_rules | `(tactic| walk_at "gb") => `(tactic| repeat (first | walk_at "vs" | walk_at "op" | with_reducible (first | refine br_t ?_ | refine br_f ?_ | refine br_nt ?_ | refine br_nf ?_)))
namespace K18
open FM
theorem srtI (zs : List Int) (hl : zs.length ≤ 1000) (nd : zs.Pairwise (· ≠ ·)) : (zs.map PyData.int).mergeSort (PySem.W.dataLe false id) = (zs.mergeSort (fun a b => decide (a ≤ b))).map PyData.int ∧ (zs.mergeSort (fun a b => decide (a ≤ b))).Perm zs ∧ SortOk (zs.map PyData.int) := by
  have le : ∀ a b : Int, PySem.W.dataLe false id (.int a) (.int b) = decide (a ≤ b) := fun a b => congrFun (congrFun (PySem.W.dataLe_int (β := Int) (fun x => x)) a) b
  refine ⟨(List.map_mergeSort (f := PyData.int) (s := PySem.W.dataLe false id) (l := zs) (fun a _ b _ => (le a b).symm)).symm, List.mergeSort_perm _ _, ?_⟩
  exact ⟨PySem.W.AllAlike.of fun a b => by simp [PySem.W.alike], .inr fun d hd => by
      obtain ⟨x, _, rfl⟩ := List.mem_map.mp hd
      exact ⟨by simp, by simp⟩, Evl.sz_of (by rw [List.length_map]; omega), fun d hd => by
      obtain ⟨x, _, rfl⟩ := List.mem_map.mp hd
      exact ⟨by simp [PyData.canLay0], by simp [PyData.depth]⟩⟩
def gF (os : List Int) (k : Nat) : List Int := ((os.drop (4 * k)).take 4).mergeSort (fun a b => decide (a ≤ b))
def gsW (os : List Int) : List (List Int) := (List.range 3).map (gF os)
theorem gF_perm (os : List Int) (k : Nat) : (gF os k).Perm ((os.drop (4 * k)).take 4) := List.mergeSort_perm _ _
theorem in_slice {os : List Int} {j : Nat} {b : Int} (h : b ∈ (os.drop (4 * j)).take 4) : ∃ i, i < 4 ∧ os[4 * j + i]? = some b := by
  obtain ⟨i, hi, e⟩ := List.getElem_of_mem h
  have e2 : ((os.drop (4 * j)).take 4)[i]? = some b := by rw [List.getElem?_eq_getElem hi, e]
  rw [List.length_take] at hi
  refine ⟨i, by omega, ?_⟩
  rw [List.getElem?_take_of_lt (by omega), List.getElem?_drop] at e2
  exact e2
theorem slice_in {os : List Int} {j i : Nat} {b : Int} (hi : i < 4) (h : os[4 * j + i]? = some b) : b ∈ (os.drop (4 * j)).take 4 := by
  apply List.mem_of_getElem? (i := i)
  rw [List.getElem?_take_of_lt hi, List.getElem?_drop]
  exact h
theorem gF_some {os : List Int} (so : Some' 12 os) (lo : os.length = 12) {k : Nat} (hk : k < 3) : Some' 12 (gF os k) ∧ (gF os k).length = 4 := by
  have p := gF_perm os k
  exact ⟨some_perm (some_sub so ((List.take_sublist _ _).trans (List.drop_sublist _ _))) p, by rw [p.length_eq, List.length_take, List.length_drop]; omega⟩
theorem gsW_ok {os : List Int} (so : Some' 12 os) (lo : os.length = 12) : GrOk 12 (gsW os) where
  m12 := by omega
  len := by simp [gsW]
  sm := fun g hg => by
    obtain ⟨k, hk, rfl⟩ := List.mem_map.mp hg
    obtain ⟨h1, h2⟩ := gF_some so lo (List.mem_range.mp hk)
    exact ⟨h1, by omega⟩
  dis := by
    unfold gsW
    rw [List.pairwise_map]
    refine List.pairwise_lt_range.imp_of_mem fun {i j} hi hj hij b hb hb2 => ?_
    have hi := List.mem_range.mp hi
    have hj := List.mem_range.mp hj
    obtain ⟨x, hx, e1⟩ := in_slice ((gF_perm os i).mem_iff.mp hb)
    obtain ⟨y, hy, e2⟩ := in_slice ((gF_perm os j).mem_iff.mp hb2)
    obtain ⟨q1, f1⟩ := List.getElem?_eq_some_iff.mp e1
    obtain ⟨q2, f2⟩ := List.getElem?_eq_some_iff.mp e2
    exact List.pairwise_iff_getElem.mp so.nd (4 * i + x) (4 * j + y) q1 q2 (by omega) (by rw [f1, f2])
theorem gsW_cov {os : List Int} (po : os.Perm (rangeI 12)) (b : Nat) (hb : b < 12) : ∃ g ∈ gsW os, (b : Int) ∈ g := by
  have lo : os.length = 12 := by rw [po.length_eq, rangeI_len]
  obtain ⟨i, hi, e⟩ := List.getElem_of_mem (po.mem_iff.mpr (mem_rangeI hb))
  refine ⟨gF os (i / 4), List.mem_map.mpr ⟨i / 4, List.mem_range.mpr (by omega), rfl⟩, (gF_perm os _).mem_iff.mpr (slice_in (i := i % 4) (by omega) ?_)⟩
  rw [Nat.div_add_mod, List.getElem?_eq_getElem hi, e]
theorem one_ok {m : Nat} {g : List Int} (hm : m ≤ 12) (sg : Some' m g) (l6 : g.length ≤ 6) : GrOk m [g] := ⟨hm, by simp, fun x hx => by rw [List.mem_singleton.mp hx]; exact ⟨sg, l6⟩, by simp⟩
theorem len__law_wide : ∀ o ds Q, wp__law_wide o ds Q → ds.length + 1 = 1 := fun o ds Q ⟨c, _, _, e, _⟩ => by rw [e]; rfl
theorem rd__law_wide : ∀ o ds Q, wp__law_wide o ds Q → τ__law_wide (ends1 Q) (some o :: fzs ds ++ List.replicate (9 - (ds.length + 1)) none) := fun o ds Q ⟨c, pk, hc, e, q⟩ => by
  subst e
  have hc : c + 90000 < 1000000 := hc
  refine st_nrm rfl ?_
  unfold τ__law_wide
  refine seq_cut (fun Γ' => ∃ (o' : O) (os : List Int), Γ' = [some o', some (.ls (os.map .int)), none, none, none, none, none, none, none] ∧ PoolOk (c + 12) o' ∧ os.Perm (rangeI 12)) (fun nx hnx => ?_) (fun Γ' w => ?_)
  · walk_at "go"
    refine ⟨⟨by omega, by omega, by omega, by omega, by omega⟩, ?_⟩
    rw [show (12 : Int).toNat = 12 from rfl, rangeN_I]
    walk_at "go"
    refine ⟨c, (rangeI 12).map .int, pk, (by show _ < 1000000; omega), rfl, by rw [List.length_map, rangeI_len]; omega, fun ys o1 pm pk1 => ?_⟩
    obtain ⟨os, rfl, po⟩ := perm_map pm
    rw [List.length_map, rangeI_len] at pk1
    walk_at "go"
    exact hnx _ ⟨o1, os, rfl, pk1, po⟩
  obtain ⟨o1, os, rfl, pk1, po⟩ := w
  have lo : os.length = 12 := by rw [po.length_eq, rangeI_len]
  have so : Some' 12 os := some_perm (rangeI_some 12) po
  have gk := gsW_ok so lo
  refine seq_cut (fun Γ' => Γ' = [some o1, some (.ls (os.map .int)), some (.ls ((gsW os).map fun g => .list (g.map .int))), none, none, none, none, none, none]) (fun nx hnx => ?_) (fun Γ' w => ?_)
  · walk_at "go"
    refine lc_map (List.range 3) (fun (i : Nat) => PyData.int (i : Nat)) (fun k => .list ((gF os k).map .int)) (Γ1 := [some o1, some (.ls (os.map .int)), none, none, none, none, none, none, none]) (fun QI q => ?_) (Evl.sz_of (by simp)) (by exact plain1 (.inl rfl)) (fun i hi => ⟨_, _, rfl, fun QG q => ⟨_, rfl, q⟩, rfl, fun Q q => ?_⟩) ?_
    · walk_at "go"
      exact ⟨szI (by omega) (by omega), q⟩
    · have hi := List.mem_range.mp hi
      walk_at "go"
      refine op_mulI (mulx (by omega) (by omega)) ?_
      walk_at "go"
      refine op_mulI (mulx (by omega) (by omega)) ?_
      walk_at "go"
      rw [show (4 : Int) * ((i : Nat) : Int) + 4 = ((4 * i + 4 : Nat) : Int) by omega, show (4 : Int) * ((i : Nat) : Int) = ((4 * i : Nat) : Int) by omega, cut_two _ _ _ (by omega), show 4 * i + 4 - 4 * i = 4 by omega, ← List.map_drop, ← List.map_take]
      have ssl : Some' 12 ((os.drop (4 * i)).take 4) := some_sub so ((List.take_sublist _ _).trans (List.drop_sublist _ _))
      obtain ⟨e1, _, ok⟩ := srtI ((os.drop (4 * i)).take 4) (by rw [List.length_take]; omega) ssl.nd
      refine cd_sortedAL ok ?_
      rw [e1]
      walk_at "go"
      exact q
    walk_at "go"
    exact hnx _ (by unfold gsW; rw [List.map_map]; rfl)
  subst w
  walk_at "go"
  refine for_inv (gsW os) (fun (g : List Int) => PyData.list (g.map .int)) (fun i Γ' => ∃ (o' : O) (rs : List Rule) (x4 x5 : Option O), Γ' = [some o', some (.ls (os.map .int)), some (.fz (dGs (gsW os))), some (.ls (rs.map dR)), x4, x5, none, none, none] ∧ PoolOk (c + 12 + 1000 * i) o' ∧ rs.length ≤ 30 * i ∧ ∀ r ∈ rs, Rin 12 (gsW os) r) (Γ1 := [some o1, some (.ls (os.map .int)), some (.fz (dGs (gsW os))), some (.ls []), none, none, none, none, none]) (fun QI q => by walk_at "go"; exact q) ⟨o1, [], none, none, rfl, pk1, by simp, by simp⟩ (fun i g Γ' eg w => ?_) (fun Γ' w => ?_)
  · obtain ⟨o2, rs, x4, x5, rfl, pk2, lrs, rin⟩ := w
    have il : i < 3 := by have := (List.getElem?_eq_some_iff.mp eg).1; simpa [gsW] using this
    have hg : g ∈ gsW os := List.mem_of_getElem? eg
    obtain ⟨sg, l4⟩ : Some' 12 g ∧ g.length = 4 := by
      obtain ⟨k, hk, rfl⟩ := List.mem_map.mp hg
      exact gF_some so lo (List.mem_range.mp hk)
    refine st_gn rfl ?_
    refine seq_cut (fun Γ' => ∃ (o' : O) (ms : List Rule), Γ' = [some o', some (.ls (os.map .int)), some (.fz (dGs (gsW os))), some (.ls (rs.map dR)), some (.fz (.list (g.map .int))), some (.ls (ms.map dR)), none, none, none] ∧ PoolOk (c + 12 + 1000 * i + 800) o' ∧ ms.length ≤ 20 ∧ Over 12 g ms ∧ ∀ r ∈ ms, r ≠ []) (fun nx hnx => ?_) (fun Γ' w => ?_)
    · refine st_set ?_
      refine st_lc ?_
      walk_at "go"
      refine ⟨c + 12 + 1000 * i, 12, g, pk2, (by show _ < 1000000; omega), rfl, sg, by omega, by omega, fun r1 o3 l1 ov1 pk3 => ?_⟩
      walk_at "go"
      refine ⟨c + 12 + 1000 * i + 400, 12, g, pk3, (by show _ < 1000000; omega), rfl, sg, by omega, by omega, fun r2 o4 l2 ov2 pk4 => ?_⟩
      walk_at "go"
      rw [show (some (6 : Int)) = some (((6 : Nat) : Nat) : Int) from rfl, cut_upto, ← List.map_take]
      refine op_addL (Evl.sz_of (by rw [List.length_map, List.length_map, List.length_take]; omega)) ?_
      walk_at "go"
      have lt : (r1 ++ r2.take 6).length ≤ 20 := by rw [List.length_append, List.length_take]; omega
      have ov : Over 12 g (r1 ++ r2.take 6) := fun r hr => by
        rcases List.mem_append.mp hr with z | z
        · exact ov1 r z
        · exact ov2 r (List.mem_of_mem_take z)
      refine lcB_inv (r1 ++ r2.take 6) dR (fun j acc Γ' => Γ' = [some o4, some (.ls (os.map .int)), some (.fz (dGs (gsW os))), some (.ls (rs.map dR)), some (.fz (.list (g.map .int))), x5, none, none, none] ∧ acc = (((r1 ++ r2.take 6).take j).filter fun r => decide (0 < r.length)).map dR) (by rw [List.map_append]) (by exact plain1 (.inl rfl)) ⟨rfl, by simp⟩ (fun j r acc Γ' er w _ => ?_) (fun acc Γ' w => ?_)
      · obtain ⟨rfl, rfl⟩ := w
        have tk : (r1 ++ r2.take 6).take (j + 1) = (r1 ++ r2.take 6).take j ++ [r] := by rw [List.take_add_one, er]; rfl
        refine ⟨_, rfl, ?_⟩
        walk_at "go"
        rw [List.length_map]
        have ed : decide ((0 : Int) < ((r.length : Nat) : Int)) = decide (0 < r.length) := by congr 1; exact propext ⟨fun h => by omega, fun h => by omega⟩
        rw [ed]
        cases hd : decide (0 < r.length) with
        | true =>
          walk_at "gb"
          refine ⟨?_, _, rfl, rfl, by rw [tk, List.filter_append, List.map_append]; simp [hd]⟩
          rw [List.length_map]
          have := List.length_filter_le (fun r : Rule => decide (0 < r.length)) ((r1 ++ r2.take 6).take j)
          rw [List.length_take] at this
          exact sz' (by omega)
        | false =>
          refine br_f ⟨_, rfl, rfl, by rw [tk, List.filter_append]; simp [hd]⟩
      · obtain ⟨rfl, rfl⟩ := w
        rw [List.take_length]
        exact ⟨_, rfl, hnx _ ⟨o4, _, rfl, pk4, Nat.le_trans (List.length_filter_le _ _) lt, fun r hr => ov r (List.mem_filter.mp hr).1, fun r hr e => by have := of_decide_eq_true (List.mem_filter.mp hr).2; rw [e] at this; simp at this⟩⟩
    obtain ⟨o3, ms, rfl, pk3, lm, ovm, nem⟩ := w
    refine seq_cut (fun Γ' => ∃ (o' : O) (ms : List Rule), Γ' = [some o', some (.ls (os.map .int)), some (.fz (dGs (gsW os))), some (.ls (rs.map dR)), some (.fz (.list (g.map .int))), some (.ls (ms.map dR)), none, none, none] ∧ PoolOk (c + 12 + 1000 * i + 850) o' ∧ ms.length ≤ 20 ∧ Over 12 g ms ∧ ∀ r ∈ ms, r ≠ []) (fun nx hnx => ?_) (fun Γ' w => ?_)
    · walk_at "go"
      refine op_eqE (enc := fun xs : List Int => PyData.list (xs.map .int)) enc_int.lst (by decide) ?_
      walk_at "go"
      refine br2 (fun _ => ?_) (fun _ => ?_)
      case refine_2 =>
        walk_at "go"
        exact hnx _ ⟨o3, ms, rfl, pk3.mono (by omega), lm, ovm, nem⟩
      walk_at "go"
      refine st_lc ?_
      walk_at "go"
      refine ⟨c + 12 + 1000 * i + 800, g.map .int, pk3, (by show _ < 1000000; omega), rfl, by rw [List.length_map]; omega, fun ys o4 pm pk4 => ?_⟩
      rw [List.length_map, l4] at pk4
      obtain ⟨cs, rfl, pc⟩ := perm_map pm
      have lc := pc.length_eq
      walk_at "go"
      refine lcB_inv cs PyData.int (fun j acc Γ' => ∃ (o' : O) (ls : List Lit), Γ' = [some o', some (.ls (os.map .int)), some (.fz (dGs (gsW os))), some (.ls (rs.map dR)), some (.fz (.list (g.map .int))), some (.ls (ms.map dR)), none, none, none] ∧ acc = ls.map dL ∧ PoolOk (c + 12 + 1000 * i + 804 + j) o' ∧ ls.map (·.1) = cs.take j) rfl (by exact plain1 (.inl rfl)) ⟨o4, [], rfl, rfl, pk4, rfl⟩ (fun j x acc Γ' ex w _ => ?_) (fun acc Γ' w => ?_)
      · obtain ⟨o', ls, rfl, rfl, pk', el⟩ := w
        have il := (List.getElem?_eq_some_iff.mp ex).1
        have tk : cs.take (j + 1) = cs.take j ++ [x] := by rw [List.take_add_one, ex]; rfl
        have ll : ls.length ≤ j := by have := congrArg List.length el; rw [List.length_map, List.length_take] at this; omega
        refine ⟨_, rfl, ?_⟩
        walk_at "gb"
        refine ⟨c + 12 + 1000 * i + 804 + j, 3, 2, pk', (by show _ < 1000000; omega), rfl, by omega, by omega, (by show _ ≤ 1000000; omega), fun n2 o4 hn2 pk4 => ?_⟩
        walk_at "go"
        exact ⟨by rw [List.length_map]; exact sz' (by omega), _, rfl, o4, ls ++ [(x, decide (((n2 : Nat) : Int) = 1))], rfl, by rw [List.map_append]; rfl, pk4, by rw [tk, List.map_append, el]; rfl⟩
      · obtain ⟨o', ls, rfl, rfl, pk', el⟩ := w
        rw [List.take_length] at el
        have sc : Some' 12 cs := some_perm sg pc
        obtain ⟨e1, e2⟩ := lits_of sc el
        have ll : ls.length = 4 := by have := congrArg List.length el; rw [List.length_map] at this; omega
        have inb : ∀ l ∈ ls, l.1 ∈ g := fun l hl => pc.mem_iff.mp (by rw [← el]; exact List.mem_map.mpr ⟨l, hl, rfl⟩)
        walk_at "go"
        refine ⟨12, ls, rfl, by omega, by omega, e1, e2, ?_⟩
        walk_at "go"
        rw [show (some (2 : Int)) = some (((2 : Nat) : Nat) : Int) from rfl, cut_upto, ← List.map_take]
        have l5 : (foursS ls).length = 5 := by simp [foursS]
        refine op_addL (Evl.sz_of (by rw [List.length_map, List.length_map, List.length_take]; omega)) ?_
        walk_at "go"
        have fo := fours_over (m := 12) (bs := g) (by omega) e1 e2 inb
        refine hnx _ ⟨o', foursS ls ++ ms.take 2, by rw [List.map_append], pk'.mono (by omega), by rw [List.length_append, List.length_take]; omega, fun r hr => ?_, fun r hr e => ?_⟩
        · rcases List.mem_append.mp hr with z | z
          · exact fo r z
          · exact ovm r (List.mem_of_mem_take z)
        · rcases List.mem_append.mp hr with z | z
          · unfold foursS at z
            rcases List.mem_append.mp z with y | y
            · obtain ⟨n, hn, ey⟩ := List.mem_map.mp y
              have := (insR_perm [ls.getD 0 (0, true), ((ls.getD 1 (0, true)).1, decide (1 < n)), ((ls.getD 2 (0, true)).1, decide (n % 2 = 1))]).length_eq
              rw [ey, e] at this
              simp at this
            · have y := List.mem_singleton.mp y
              have := (insR_perm (ls.take 1 ++ (ls.drop 3).take 1)).length_eq
              rw [← y, e, List.length_append, List.length_take] at this
              simp only [List.length_nil] at this
              omega
          · exact nem r (List.mem_of_mem_take z) e
    clear pk3 lm ovm nem
    obtain ⟨o3, ms, rfl, pk3, lm, ovm, nem⟩ := w
    refine seq_cut (fun Γ' => ∃ (o' : O) (ms : List Rule), Γ' = [some o', some (.ls (os.map .int)), some (.fz (dGs (gsW os))), some (.ls (rs.map dR)), some (.fz (.list (g.map .int))), some (.ls (ms.map dR)), none, none, none] ∧ PoolOk (c + 12 + 1000 * i + 900) o' ∧ ms.length ≤ 20 ∧ Over 12 g ms) (fun nx hnx => ?_) (fun Γ' w => ?_)
    · have hg0 : ∀ k, k < 4 → g[k]? = some (g.getD k 0) := fun k hk => by rw [getD_at (by omega), List.getElem?_eq_getElem (by omega)]
      have hgm : ∀ k, k < 4 → g.getD k 0 ∈ g := fun k hk => List.mem_of_getElem? (hg0 k hk)
      have hgn : ∀ i j, i < 4 → j < 4 → i ≠ j → g.getD i 0 ≠ g.getD j 0 := fun i j hi hj ne => by
        rw [getD_at (by omega), getD_at (by omega)]
        rcases Nat.lt_or_gt_of_ne ne with z | z
        · exact List.pairwise_iff_getElem.mp sg.nd i j (by omega) (by omega) z
        · exact fun e => List.pairwise_iff_getElem.mp sg.nd j i (by omega) (by omega) z e.symm
      walk_at "go"
      refine ⟨c + 12 + 1000 * i + 850, 1, 9, pk3, (by show _ < 1000000; omega), rfl, by omega, by omega, (by show _ ≤ 1000000; omega), fun n o4 hn pk4 => ?_⟩
      walk_at "go"
      refine br2 (fun _ => ?_) (fun _ => ?_)
      case refine_2 =>
        walk_at "go"
        refine br2 (fun z => by cases z) (fun _ => ?_)
        walk_at "go"
        exact hnx _ ⟨o4, ms, rfl, pk4.mono (by omega), lm, ovm⟩
      walk_at "go"
      refine op_addL (Evl.sz_of (by rw [List.length_map]; show _ + 1 ≤ _; omega)) ?_
      walk_at "go"
      have og := one_ok (m := 12) (by omega) sg (by omega)
      have rin2 : ∀ r ∈ ms ++ [[]], Rin 12 [g] r := fun r hr => by
        rcases List.mem_append.mp hr with z | z
        · exact ⟨(ovm r z).1, .inr ⟨g, List.mem_singleton.mpr rfl, (ovm r z).2⟩⟩
        · rw [List.mem_singleton.mp z]; exact ⟨⟨by simp, by simp⟩, .inl rfl⟩
      have l21 : (ms ++ [[]] : List Rule).length = ms.length + 1 := by rw [List.length_append]; rfl
      refine ⟨12, [g], ms ++ [[]], .inl (by rw [List.map_append]; rfl), og, by omega, rin2, ?_⟩
      walk_at "go"
      refine ⟨12, [g], (ms ++ [[]]).map (ent [g]), ms.length, by rw [List.length_map]; rfl, og, ent_ok og rin2, by rw [List.length_map]; omega, by rw [List.length_map]; omega, _, rfl, rfl, ?_⟩
      walk_at "go"
      refine br2 (fun _ => ?_) (fun _ => ?_)
      case refine_2 =>
        walk_at "go"
        exact hnx _ ⟨o4, ms, rfl, pk4.mono (by omega), lm, ovm⟩
      have pok : ∀ k, k < 4 → _ := fun k hk => pair_ok (m := 12) (bs := g) (a := (g.getD ((k + 3) % 4) 0, false)) (b := (g.getD k 0, true)) (sg.rg _ (hgm _ (by omega))) (sg.rg _ (hgm _ hk)) (hgm _ (by omega)) (hgm _ hk) (hgn _ _ (by omega) hk (by omega))
      walk_at "go"
      refine lc_map (List.range 4) (fun (k : Nat) => PyData.int (k : Nat)) (fun k => dR (insR [(g.getD ((k + 3) % 4) 0, false), (g.getD k 0, true)])) (Γ1 := [some o4, some (.ls (os.map .int)), some (.fz (dGs (gsW os))), some (.ls (rs.map dR)), some (.fz (.list (g.map .int))), some (.ls (ms.map dR)), none, none, none]) (fun QI q => ?_) (Evl.sz_of (by simp)) (by exact plain1 (.inl rfl)) (fun k hk => ⟨_, _, rfl, fun QG q => ⟨_, rfl, q⟩, rfl, fun Q q => ?_⟩) ?_
      · walk_at "go"
        exact ⟨szI (by omega) (by omega), q⟩
      · have hk := List.mem_range.mp hk
        obtain ⟨p1, p2, _, _⟩ := pok k hk
        have prev : ∀ {QO : O → Prop}, QO (.fz (.int (g.getD ((k + 3) % 4) 0))) → opIx (.list (g.map .int)) (.int (((k : Nat) : Int) - 1)) QO := fun {QO} h => by
          by_cases z : k = 0
          · subst z
            exact op_ixLastL (by rw [List.getLast?_eq_getElem?, List.length_map, List.getElem?_map, l4, hg0 3 (by omega)]; rfl) h
          · exact op_ixL (k - 1) (by omega) (by rw [List.getElem?_map, hg0 (k - 1) (by omega), show (k + 3) % 4 = k - 1 by omega]; rfl) h
        walk_at "go"
        refine prev ?_
        walk_at "go"
        refine op_ixL k rfl (by rw [List.getElem?_map, hg0 k hk]; rfl) ?_
        walk_at "go"
        refine ⟨12, [(g.getD ((k + 3) % 4) 0, false), (g.getD k 0, true)], rfl, p1, p2, by simp, ?_⟩
        walk_at "go"
        exact q
      walk_at "go"
      refine op_ixL 0 rfl (by rw [List.getElem?_map, hg0 0 (by omega)]; rfl) ?_
      walk_at "go"
      refine op_ixL 2 rfl (by rw [List.getElem?_map, hg0 2 (by omega)]; rfl) ?_
      walk_at "go"
      refine op_ixL 1 rfl (by rw [List.getElem?_map, hg0 1 (by omega)]; rfl) ?_
      walk_at "go"
      refine op_ixL 3 rfl (by rw [List.getElem?_map, hg0 3 (by omega)]; rfl) ?_
      walk_at "go"
      refine op_addL (Evl.sz_of (by rw [List.length_map, List.length_range]; show 4 + 3 ≤ _; omega)) ?_
      walk_at "go"
      have inc : g.Pairwise (· < ·) := by
        obtain ⟨k, hk, rfl⟩ := List.mem_map.mp hg
        have srt := List.pairwise_mergeSort (le := fun a b : Int => decide (a ≤ b)) (fun a b c h1 h2 => by simp only [decide_eq_true_eq] at *; omega) (fun a b => by rw [← Bool.decide_or, decide_eq_true_eq]; omega) ((os.drop (4 * k)).take 4)
        exact List.Pairwise.imp₂ (fun a b h1 h2 => by have := of_decide_eq_true h1; omega) srt sg.nd
      have i02 : g.getD 0 0 < g.getD 2 0 := by
        rw [getD_at (by omega), getD_at (by omega)]
        exact List.pairwise_iff_getElem.mp inc 0 2 (by omega) (by omega) (by omega)
      refine hnx _ ⟨o4, (List.range 4).map (fun k => insR [(g.getD ((k + 3) % 4) 0, false), (g.getD k 0, true)]) ++ [[(g.getD 0 0, true), (g.getD 2 0, false)], [(g.getD 1 0, true)], [(g.getD 3 0, true)]], by rw [List.map_append, List.map_map]; rfl, pk4.mono (by omega), by rw [List.length_append, List.length_map, List.length_range]; show 4 + 3 ≤ 20; omega, fun r hr => ?_⟩
      rcases List.mem_append.mp hr with z | z
      · obtain ⟨k, hk, rfl⟩ := List.mem_map.mp z
        obtain ⟨_, _, p3, p4⟩ := pok k (List.mem_range.mp hk)
        exact ⟨p3, p4⟩
      · simp only [List.mem_cons, List.not_mem_nil, or_false] at z
        rcases z with rfl | rfl | rfl
        · refine ⟨⟨fun l hl => ?_, by simpa using i02⟩, fun l hl => ?_⟩
          · rcases List.mem_cons.mp hl with e | e
            · rw [e]; exact sg.rg _ (hgm 0 (by omega))
            · rw [List.mem_singleton.mp e]; exact sg.rg _ (hgm 2 (by omega))
          · rcases List.mem_cons.mp hl with e | e
            · rw [e]; exact hgm 0 (by omega)
            · rw [List.mem_singleton.mp e]; exact hgm 2 (by omega)
        · exact ⟨one_wf (sg.rg _ (hgm 1 (by omega))), fun l hl => by rw [List.mem_singleton.mp hl]; exact hgm 1 (by omega)⟩
        · exact ⟨one_wf (sg.rg _ (hgm 3 (by omega))), fun l hl => by rw [List.mem_singleton.mp hl]; exact hgm 3 (by omega)⟩
    clear pk3 lm ovm nem
    obtain ⟨o3, ms, rfl, pk3, lm, ovm⟩ := w
    walk_at "go"
    refine op_addL (Evl.sz_of (by rw [List.length_map, List.length_map]; omega)) ?_
    walk_at "go"
    exact ⟨o3, rs ++ ms, _, _, (by rw [List.map_append]), pk3.mono (by omega), by rw [List.length_append]; omega, fun r hr => by
      rcases List.mem_append.mp hr with z | z
      · exact rin r z
      · exact ⟨(ovm r z).1, .inr ⟨g, hg, (ovm r z).2⟩⟩⟩
  · obtain ⟨o2, rs, x4, x5, rfl, pk2, lrs, rin⟩ := w
    have l3 : (gsW os).length = 3 := by simp [gsW]
    rw [l3] at pk2 lrs
    walk_at "go"
    refine ⟨c + 12 + 1000 * 3, rs.map dR, pk2, (by show _ < 1000000; omega), rfl, by rw [List.length_map]; omega, fun ys o3 pm pk3 => ?_⟩
    obtain ⟨ts, rfl, pt⟩ := perm_map pm
    walk_at "go"
    rw [show (some (60 : Int)) = some (((60 : Nat) : Nat) : Int) from rfl, cut_upto, ← List.map_take]
    walk_at "go"
    refine ⟨12, ts.take 60, gsW os, rfl, ?_, ⟨_, rfl, q _⟩⟩
    have sub : ∀ r ∈ ts.take 60, Rin 12 (gsW os) r := fun r hr => rin r (pt.mem_iff.mp (List.mem_of_mem_take hr))
    have ll : (ts.take 60).length ≤ 60 := by rw [List.length_take]; omega
    exact ⟨⟨by omega, by omega, by omega, fun r hr => (sub r hr).1⟩, by omega, gk, gsW_cov po, sub⟩
end K18
end
section
namespace K18
open PySem PySem.Spec L2 VL
def topS (i : Nat) : Stmt := PySem.Challenge.pw_forcedtold_k18_idle_rules.main.body.getD i (.Pass ⟨0, 0, 0, 0⟩)
abbrev s_contrary_of : Stmt := topS 1
theorem sc_contrary_of : FnScope ["literal"] ["literal"] (defScope s_contrary_of) := ⟨rfl, rfl, rfl, by decide +kernel, rfl, by decide +kernel, by decide +kernel⟩
abbrev s_contrary : Stmt := topS 2
theorem sc_contrary : FnScope ["rule", "literal"] ["rule"] (defScope s_contrary) := ⟨rfl, rfl, rfl, by decide +kernel, rfl, by decide +kernel, by decide +kernel⟩
abbrev s_rule_holds : Stmt := topS 4
theorem sc_rule_holds : FnScope ["rule", "filling", "box", "sign"] ["rule", "filling"] (defScope s_rule_holds) := ⟨rfl, rfl, rfl, by decide +kernel, rfl, by decide +kernel, by decide +kernel⟩
abbrev s_rules_by_last_box : Stmt := topS 6
theorem sc_rules_by_last_box : FnScope ["sheet", "found", "rule", "_", "rules"] ["sheet"] (defScope s_rules_by_last_box) := ⟨rfl, rfl, rfl, by decide +kernel, rfl, by decide +kernel, by decide +kernel⟩
abbrev s_signs_let : Stmt := topS 7
theorem sc_signs_let : FnScope ["box", "known", "start", "signs", "sign"] ["box", "known", "start"] (defScope s_signs_let) := ⟨rfl, rfl, rfl, by decide +kernel, rfl, by decide +kernel, by decide +kernel⟩
abbrev s_is_kept : Stmt := topS 8
theorem sc_is_kept : FnScope ["rules", "filling", "rule"] ["rules", "filling"] (defScope s_is_kept) := ⟨rfl, rfl, rfl, by decide +kernel, rfl, by decide +kernel, by decide +kernel⟩
abbrev s_filling_from : Stmt := topS 9
theorem sc_filling_from : FnScope ["sheet", "ticks", "begin", "levels", "known", "filling", "choices", "box", "on_begin"] ["sheet", "ticks", "begin"] (defScope s_filling_from) := ⟨rfl, rfl, rfl, by decide +kernel, rfl, by decide +kernel, by decide +kernel⟩
abbrev s_first_filling : Stmt := topS 11
theorem sc_first_filling : FnScope ["sheet", "ticks"] ["sheet", "ticks"] (defScope s_first_filling) := ⟨rfl, rfl, rfl, by decide +kernel, rfl, by decide +kernel, by decide +kernel⟩
abbrev s_breaking_filling : Stmt := topS 13
theorem sc_breaking_filling : FnScope ["sheet", "rule"] ["sheet", "rule"] (defScope s_breaking_filling) := ⟨rfl, rfl, rfl, by decide +kernel, rfl, by decide +kernel, by decide +kernel⟩
abbrev s_follows : Stmt := topS 14
theorem sc_follows : FnScope ["sheet", "rule"] ["sheet", "rule"] (defScope s_follows) := ⟨rfl, rfl, rfl, by decide +kernel, rfl, by decide +kernel, by decide +kernel⟩
abbrev s_without_number : Stmt := topS 16
theorem sc_without_number : FnScope ["sheet", "number"] ["sheet", "number"] (defScope s_without_number) := ⟨rfl, rfl, rfl, by decide +kernel, rfl, by decide +kernel, by decide +kernel⟩
abbrev s_is_idle : Stmt := topS 17
theorem sc_is_idle : FnScope ["sheet", "number"] ["sheet", "number"] (defScope s_is_idle) := ⟨rfl, rfl, rfl, by decide +kernel, rfl, by decide +kernel, by decide +kernel⟩
abbrev s_idle_rules : Stmt := topS 18
theorem sc_idle_rules : FnScope ["sheet", "number"] ["sheet"] (defScope s_idle_rules) := ⟨rfl, rfl, rfl, by decide +kernel, rfl, by decide +kernel, by decide +kernel⟩
abbrev s_lean_sheet : Stmt := topS 19
theorem sc_lean_sheet : FnScope ["sheet", "now", "at"] ["sheet"] (defScope s_lean_sheet) := ⟨rfl, rfl, rfl, by decide +kernel, rfl, by decide +kernel, by decide +kernel⟩
abbrev s__law_crate : Stmt := topS 21
theorem sc__law_crate : FnScope ["script", "great", "mixed", "cell", "size", "tilts", "place"] ["script"] (defScope s__law_crate) := ⟨rfl, rfl, rfl, by decide +kernel, rfl, by decide +kernel, by decide +kernel⟩
abbrev s__law_lift : Stmt := topS 22
theorem sc__law_lift : FnScope ["crate", "place", "many", "size", "tilt"] ["crate", "place", "many"] (defScope s__law_lift) := ⟨rfl, rfl, rfl, by decide +kernel, rfl, by decide +kernel, by decide +kernel⟩
abbrev s__law_tossed : Stmt := topS 23
theorem sc__law_tossed : FnScope ["crate", "things", "rest", "found"] ["crate", "things"] (defScope s__law_tossed) := ⟨rfl, rfl, rfl, by decide +kernel, rfl, by decide +kernel, by decide +kernel⟩
abbrev s__law_rule : Stmt := topS 24
theorem sc__law_rule : FnScope ["literals"] ["literals"] (defScope s__law_rule) := ⟨rfl, rfl, rfl, by decide +kernel, rfl, by decide +kernel, by decide +kernel⟩
abbrev s__law_shut : Stmt := topS 25
theorem sc__law_shut : FnScope ["literal"] ["literal"] (defScope s__law_shut) := ⟨rfl, rfl, rfl, by decide +kernel, rfl, by decide +kernel, by decide +kernel⟩
abbrev s__law_grown : Stmt := topS 26
theorem sc__law_grown : FnScope ["crate", "some", "rules", "found", "lap", "rule", "had", "more", "literal", "box"] ["crate", "some", "rules"] (defScope s__law_grown) := ⟨rfl, rfl, rfl, by decide +kernel, rfl, by decide +kernel, by decide +kernel⟩
abbrev s__law_joins : Stmt := topS 27
theorem sc__law_joins : FnScope ["crate", "rules", "found", "one", "other", "boxes", "left", "literal"] ["crate", "rules"] (defScope s__law_joins) := ⟨rfl, rfl, rfl, by decide +kernel, rfl, by decide +kernel, by decide +kernel⟩
abbrev s__law_fours : Stmt := topS 28
theorem sc__law_fours : FnScope ["row", "rules", "number"] ["row"] (defScope s__law_fours) := ⟨rfl, rfl, rfl, by decide +kernel, rfl, by decide +kernel, by decide +kernel⟩
abbrev s__law_made : Stmt := topS 29
theorem sc__law_made : FnScope ["crate", "some", "row", "way", "rules", "k", "lap", "boxes", "box"] ["crate", "some"] (defScope s__law_made) := ⟨rfl, rfl, rfl, by decide +kernel, rfl, by decide +kernel, by decide +kernel⟩
abbrev s__law_table : Stmt := topS 30
theorem sc__law_table : FnScope ["groups", "rules", "table", "rule", "which", "mask", "number", "some", "kept", "box", "sign"] ["groups", "rules"] (defScope s__law_table) := ⟨rfl, rfl, rfl, by decide +kernel, rfl, by decide +kernel, by decide +kernel⟩
abbrev s__law_follows : Stmt := topS 31
theorem sc__law_follows : FnScope ["groups", "table", "at", "unions", "number", "which", "mask"] ["groups", "table", "at"] (defScope s__law_follows) := ⟨rfl, rfl, rfl, by decide +kernel, rfl, by decide +kernel, by decide +kernel⟩
abbrev s__law_due : Stmt := topS 32
theorem sc__law_due : FnScope ["groups", "table", "at"] ["groups", "table"] (defScope s__law_due) := ⟨rfl, rfl, rfl, by decide +kernel, rfl, by decide +kernel, by decide +kernel⟩
abbrev s__law_lean : Stmt := topS 33
theorem sc__law_lean : FnScope ["groups", "rules", "left", "table", "lap", "out"] ["groups", "rules"] (defScope s__law_lean) := ⟨rfl, rfl, rfl, by decide +kernel, rfl, by decide +kernel, by decide +kernel⟩
abbrev s__law_same : Stmt := topS 34
theorem sc__law_same : FnScope ["told", "due", "left", "one", "other", "at"] ["told", "due"] (defScope s__law_same) := ⟨rfl, rfl, rfl, by decide +kernel, rfl, by decide +kernel, by decide +kernel⟩
abbrev s__law_asked : Stmt := topS 35
theorem sc__law_asked : FnScope ["groups", "sheet", "lean"] ["groups", "sheet"] (defScope s__law_asked) := ⟨rfl, rfl, rfl, by decide +kernel, rfl, by decide +kernel, by decide +kernel⟩
abbrev s__law_small : Stmt := topS 36
theorem sc__law_small : FnScope ["crate", "boxes", "some", "rules"] ["crate"] (defScope s__law_small) := ⟨rfl, rfl, rfl, by decide +kernel, rfl, by decide +kernel, by decide +kernel⟩
abbrev s__law_wide : Stmt := topS 37
theorem sc__law_wide : FnScope ["crate", "order", "groups", "rules", "some", "mine", "k", "rule", "box"] ["crate"] (defScope s__law_wide) := ⟨rfl, rfl, rfl, by decide +kernel, rfl, by decide +kernel, by decide +kernel⟩
abbrev s__law_by_hand : Stmt := topS 38
theorem sc__law_by_hand : FnScope ["fours", "sheet", "twice", "ring", "bare", "shut", "told", "cases"] [] (defScope s__law_by_hand) := ⟨rfl, rfl, rfl, by decide +kernel, rfl, by decide +kernel, by decide +kernel⟩
abbrev s_law : Stmt := topS 39
theorem sc_law : FnScope ["script", "crate", "wide", "lap"] ["script"] (defScope s_law) := ⟨rfl, rfl, rfl, by decide +kernel, rfl, by decide +kernel, by decide +kernel⟩
structure Txt (K : PySem.W.Frag) (mg : Str → Option Value) where
  f_contrary_of : Addr
  fd_contrary_of : FuncData
  F_contrary_of : Fun K "contrary_of" "contrary_of" s_contrary_of f_contrary_of fd_contrary_of
  f_contrary : Addr
  fd_contrary : FuncData
  F_contrary : Fun K "contrary" "contrary" s_contrary f_contrary fd_contrary
  f_rule_holds : Addr
  fd_rule_holds : FuncData
  F_rule_holds : Fun K "rule_holds" "rule_holds" s_rule_holds f_rule_holds fd_rule_holds
  f_rules_by_last_box : Addr
  fd_rules_by_last_box : FuncData
  F_rules_by_last_box : Fun K "rules_by_last_box" "rules_by_last_box" s_rules_by_last_box f_rules_by_last_box fd_rules_by_last_box
  f_signs_let : Addr
  fd_signs_let : FuncData
  F_signs_let : Fun K "signs_let" "signs_let" s_signs_let f_signs_let fd_signs_let
  f_is_kept : Addr
  fd_is_kept : FuncData
  F_is_kept : Fun K "is_kept" "is_kept" s_is_kept f_is_kept fd_is_kept
  f_filling_from : Addr
  fd_filling_from : FuncData
  F_filling_from : Fun K "filling_from" "filling_from" s_filling_from f_filling_from fd_filling_from
  f_first_filling : Addr
  fd_first_filling : FuncData
  F_first_filling : Fun K "first_filling" "first_filling" s_first_filling f_first_filling fd_first_filling
  f_breaking_filling : Addr
  fd_breaking_filling : FuncData
  F_breaking_filling : Fun K "breaking_filling" "breaking_filling" s_breaking_filling f_breaking_filling fd_breaking_filling
  f_follows : Addr
  fd_follows : FuncData
  F_follows : Fun K "follows" "follows" s_follows f_follows fd_follows
  f_without_number : Addr
  fd_without_number : FuncData
  F_without_number : Fun K "without_number" "without_number" s_without_number f_without_number fd_without_number
  f_is_idle : Addr
  fd_is_idle : FuncData
  F_is_idle : Fun K "is_idle" "is_idle" s_is_idle f_is_idle fd_is_idle
  f_idle_rules : Addr
  fd_idle_rules : FuncData
  F_idle_rules : Fun K "idle_rules" "idle_rules" s_idle_rules f_idle_rules fd_idle_rules
  f_lean_sheet : Addr
  fd_lean_sheet : FuncData
  F_lean_sheet : Fun K "lean_sheet" "lean_sheet" s_lean_sheet f_lean_sheet fd_lean_sheet
  f__law_crate : Addr
  fd__law_crate : FuncData
  F__law_crate : Fun K "_law_crate" "_law_crate" s__law_crate f__law_crate fd__law_crate
  f__law_lift : Addr
  fd__law_lift : FuncData
  F__law_lift : Fun K "_law_lift" "_law_lift" s__law_lift f__law_lift fd__law_lift
  f__law_tossed : Addr
  fd__law_tossed : FuncData
  F__law_tossed : Fun K "_law_tossed" "_law_tossed" s__law_tossed f__law_tossed fd__law_tossed
  f__law_rule : Addr
  fd__law_rule : FuncData
  F__law_rule : Fun K "_law_rule" "_law_rule" s__law_rule f__law_rule fd__law_rule
  f__law_shut : Addr
  fd__law_shut : FuncData
  F__law_shut : Fun K "_law_shut" "_law_shut" s__law_shut f__law_shut fd__law_shut
  f__law_grown : Addr
  fd__law_grown : FuncData
  F__law_grown : Fun K "_law_grown" "_law_grown" s__law_grown f__law_grown fd__law_grown
  f__law_joins : Addr
  fd__law_joins : FuncData
  F__law_joins : Fun K "_law_joins" "_law_joins" s__law_joins f__law_joins fd__law_joins
  f__law_fours : Addr
  fd__law_fours : FuncData
  F__law_fours : Fun K "_law_fours" "_law_fours" s__law_fours f__law_fours fd__law_fours
  f__law_made : Addr
  fd__law_made : FuncData
  F__law_made : Fun K "_law_made" "_law_made" s__law_made f__law_made fd__law_made
  f__law_table : Addr
  fd__law_table : FuncData
  F__law_table : Fun K "_law_table" "_law_table" s__law_table f__law_table fd__law_table
  f__law_follows : Addr
  fd__law_follows : FuncData
  F__law_follows : Fun K "_law_follows" "_law_follows" s__law_follows f__law_follows fd__law_follows
  f__law_due : Addr
  fd__law_due : FuncData
  F__law_due : Fun K "_law_due" "_law_due" s__law_due f__law_due fd__law_due
  f__law_lean : Addr
  fd__law_lean : FuncData
  F__law_lean : Fun K "_law_lean" "_law_lean" s__law_lean f__law_lean fd__law_lean
  f__law_same : Addr
  fd__law_same : FuncData
  F__law_same : Fun K "_law_same" "_law_same" s__law_same f__law_same fd__law_same
  f__law_asked : Addr
  fd__law_asked : FuncData
  F__law_asked : Fun K "_law_asked" "_law_asked" s__law_asked f__law_asked fd__law_asked
  f__law_small : Addr
  fd__law_small : FuncData
  F__law_small : Fun K "_law_small" "_law_small" s__law_small f__law_small fd__law_small
  f__law_wide : Addr
  fd__law_wide : FuncData
  F__law_wide : Fun K "_law_wide" "_law_wide" s__law_wide f__law_wide fd__law_wide
  f__law_by_hand : Addr
  fd__law_by_hand : FuncData
  F__law_by_hand : Fun K "_law_by_hand" "_law_by_hand" s__law_by_hand f__law_by_hand fd__law_by_hand
  f_law : Addr
  fd_law : FuncData
  F_law : Fun K "law" "law" s_law f_law fd_law
  g__law_asked : mg "_law_asked" = some (.ref f__law_asked)
  g__law_by_hand : mg "_law_by_hand" = some (.ref f__law_by_hand)
  g__law_crate : mg "_law_crate" = some (.ref f__law_crate)
  g__law_due : mg "_law_due" = some (.ref f__law_due)
  g__law_follows : mg "_law_follows" = some (.ref f__law_follows)
  g__law_fours : mg "_law_fours" = some (.ref f__law_fours)
  g__law_grown : mg "_law_grown" = some (.ref f__law_grown)
  g__law_joins : mg "_law_joins" = some (.ref f__law_joins)
  g__law_lean : mg "_law_lean" = some (.ref f__law_lean)
  g__law_lift : mg "_law_lift" = some (.ref f__law_lift)
  g__law_made : mg "_law_made" = some (.ref f__law_made)
  g__law_rule : mg "_law_rule" = some (.ref f__law_rule)
  g__law_same : mg "_law_same" = some (.ref f__law_same)
  g__law_shut : mg "_law_shut" = some (.ref f__law_shut)
  g__law_small : mg "_law_small" = some (.ref f__law_small)
  g__law_table : mg "_law_table" = some (.ref f__law_table)
  g__law_tossed : mg "_law_tossed" = some (.ref f__law_tossed)
  g__law_wide : mg "_law_wide" = some (.ref f__law_wide)
  g_breaking_filling : mg "breaking_filling" = some (.ref f_breaking_filling)
  g_contrary : mg "contrary" = some (.ref f_contrary)
  g_contrary_of : mg "contrary_of" = some (.ref f_contrary_of)
  g_filling_from : mg "filling_from" = some (.ref f_filling_from)
  g_first_filling : mg "first_filling" = some (.ref f_first_filling)
  g_follows : mg "follows" = some (.ref f_follows)
  g_idle_rules : mg "idle_rules" = some (.ref f_idle_rules)
  g_is_idle : mg "is_idle" = some (.ref f_is_idle)
  g_is_kept : mg "is_kept" = some (.ref f_is_kept)
  g_lean_sheet : mg "lean_sheet" = some (.ref f_lean_sheet)
  g_rule_holds : mg "rule_holds" = some (.ref f_rule_holds)
  g_rules_by_last_box : mg "rules_by_last_box" = some (.ref f_rules_by_last_box)
  g_signs_let : mg "signs_let" = some (.ref f_signs_let)
  g_without_number : mg "without_number" = some (.ref f_without_number)
  n_abs : mg "abs" = none
  n_bool : mg "bool" = none
  n_dict : mg "dict" = none
  n_int : mg "int" = none
  n_isinstance : mg "isinstance" = none
  n_len : mg "len" = none
  n_list : mg "list" = none
  n_min : mg "min" = none
  n_range : mg "range" = none
  n_sorted : mg "sorted" = none
  n_tuple : mg "tuple" = none
section
variable {P : Program} {w : World} {K : PySem.W.Frag} {mg : Str → Option Value} {base : Heap}
theorem b_contrary_of (T : Txt K mg) : Binds K T.fd_contrary_of ["literal"] [] := T.F_contrary_of.binds fun _ _ _ _ _ _ us hl => match us, hl with | [_], _ => rfl
theorem b_contrary (T : Txt K mg) : Binds K T.fd_contrary ["rule"] [] := T.F_contrary.binds fun _ _ _ _ _ _ us hl => match us, hl with | [_], _ => rfl
theorem b_rule_holds (T : Txt K mg) : Binds K T.fd_rule_holds ["rule", "filling"] [] := T.F_rule_holds.binds fun _ _ _ _ _ _ us hl => match us, hl with | [_, _], _ => rfl
theorem b_rules_by_last_box (T : Txt K mg) : Binds K T.fd_rules_by_last_box ["sheet"] [] := T.F_rules_by_last_box.binds fun _ _ _ _ _ _ us hl => match us, hl with | [_], _ => rfl
theorem b_signs_let (T : Txt K mg) : Binds K T.fd_signs_let ["box", "known", "start"] [] := T.F_signs_let.binds fun _ _ _ _ _ _ us hl => match us, hl with | [_, _, _], _ => rfl
theorem b_is_kept (T : Txt K mg) : Binds K T.fd_is_kept ["rules", "filling"] [] := T.F_is_kept.binds fun _ _ _ _ _ _ us hl => match us, hl with | [_, _], _ => rfl
theorem b_filling_from (T : Txt K mg) : Binds K T.fd_filling_from ["sheet", "ticks", "begin"] [] := T.F_filling_from.binds fun _ _ _ _ _ _ us hl => match us, hl with | [_, _, _], _ => rfl
theorem b_first_filling (T : Txt K mg) : Binds K T.fd_first_filling ["sheet", "ticks"] [] := T.F_first_filling.binds fun _ _ _ _ _ _ us hl => match us, hl with | [_, _], _ => rfl
theorem b_breaking_filling (T : Txt K mg) : Binds K T.fd_breaking_filling ["sheet", "rule"] [] := T.F_breaking_filling.binds fun _ _ _ _ _ _ us hl => match us, hl with | [_, _], _ => rfl
theorem b_follows (T : Txt K mg) : Binds K T.fd_follows ["sheet", "rule"] [] := T.F_follows.binds fun _ _ _ _ _ _ us hl => match us, hl with | [_, _], _ => rfl
theorem b_without_number (T : Txt K mg) : Binds K T.fd_without_number ["sheet", "number"] [] := T.F_without_number.binds fun _ _ _ _ _ _ us hl => match us, hl with | [_, _], _ => rfl
theorem b_is_idle (T : Txt K mg) : Binds K T.fd_is_idle ["sheet", "number"] [] := T.F_is_idle.binds fun _ _ _ _ _ _ us hl => match us, hl with | [_, _], _ => rfl
theorem b_idle_rules (T : Txt K mg) : Binds K T.fd_idle_rules ["sheet"] [] := T.F_idle_rules.binds fun _ _ _ _ _ _ us hl => match us, hl with | [_], _ => rfl
theorem b_lean_sheet (T : Txt K mg) : Binds K T.fd_lean_sheet ["sheet"] [] := T.F_lean_sheet.binds fun _ _ _ _ _ _ us hl => match us, hl with | [_], _ => rfl
theorem b__law_crate (T : Txt K mg) : Binds K T.fd__law_crate ["script"] [] := T.F__law_crate.binds fun _ _ _ _ _ _ us hl => match us, hl with | [_], _ => rfl
theorem b__law_lift (T : Txt K mg) : Binds K T.fd__law_lift ["crate", "place", "many"] [] := T.F__law_lift.binds fun _ _ _ _ _ _ us hl => match us, hl with | [_, _, _], _ => rfl
theorem b__law_tossed (T : Txt K mg) : Binds K T.fd__law_tossed ["crate", "things"] [] := T.F__law_tossed.binds fun _ _ _ _ _ _ us hl => match us, hl with | [_, _], _ => rfl
theorem b__law_rule (T : Txt K mg) : Binds K T.fd__law_rule ["literals"] [] := T.F__law_rule.binds fun _ _ _ _ _ _ us hl => match us, hl with | [_], _ => rfl
theorem b__law_shut (T : Txt K mg) : Binds K T.fd__law_shut ["literal"] [] := T.F__law_shut.binds fun _ _ _ _ _ _ us hl => match us, hl with | [_], _ => rfl
theorem b__law_grown (T : Txt K mg) : Binds K T.fd__law_grown ["crate", "some", "rules"] [] := T.F__law_grown.binds fun _ _ _ _ _ _ us hl => match us, hl with | [_, _, _], _ => rfl
theorem b__law_joins (T : Txt K mg) : Binds K T.fd__law_joins ["crate", "rules"] [] := T.F__law_joins.binds fun _ _ _ _ _ _ us hl => match us, hl with | [_, _], _ => rfl
theorem b__law_fours (T : Txt K mg) : Binds K T.fd__law_fours ["row"] [] := T.F__law_fours.binds fun _ _ _ _ _ _ us hl => match us, hl with | [_], _ => rfl
theorem b__law_made (T : Txt K mg) : Binds K T.fd__law_made ["crate", "some"] [] := T.F__law_made.binds fun _ _ _ _ _ _ us hl => match us, hl with | [_, _], _ => rfl
theorem b__law_table (T : Txt K mg) : Binds K T.fd__law_table ["groups", "rules"] [] := T.F__law_table.binds fun _ _ _ _ _ _ us hl => match us, hl with | [_, _], _ => rfl
theorem b__law_follows (T : Txt K mg) : Binds K T.fd__law_follows ["groups", "table", "at"] [] := T.F__law_follows.binds fun _ _ _ _ _ _ us hl => match us, hl with | [_, _, _], _ => rfl
theorem b__law_due (T : Txt K mg) : Binds K T.fd__law_due ["groups", "table"] [] := T.F__law_due.binds fun _ _ _ _ _ _ us hl => match us, hl with | [_, _], _ => rfl
theorem b__law_lean (T : Txt K mg) : Binds K T.fd__law_lean ["groups", "rules"] [] := T.F__law_lean.binds fun _ _ _ _ _ _ us hl => match us, hl with | [_, _], _ => rfl
theorem b__law_same (T : Txt K mg) : Binds K T.fd__law_same ["told", "due"] [] := T.F__law_same.binds fun _ _ _ _ _ _ us hl => match us, hl with | [_, _], _ => rfl
theorem b__law_asked (T : Txt K mg) : Binds K T.fd__law_asked ["groups", "sheet"] [] := T.F__law_asked.binds fun _ _ _ _ _ _ us hl => match us, hl with | [_, _], _ => rfl
theorem b__law_small (T : Txt K mg) : Binds K T.fd__law_small ["crate"] [] := T.F__law_small.binds fun _ _ _ _ _ _ us hl => match us, hl with | [_], _ => rfl
theorem b__law_wide (T : Txt K mg) : Binds K T.fd__law_wide ["crate"] [] := T.F__law_wide.binds fun _ _ _ _ _ _ us hl => match us, hl with | [_], _ => rfl
theorem b__law_by_hand (T : Txt K mg) : Binds K T.fd__law_by_hand [] [] := T.F__law_by_hand.binds fun _ _ _ _ _ _ us hl => match us, hl with | [], _ => rfl
theorem b_law (T : Txt K mg) : Binds K T.fd_law ["script"] [] := T.F_law.binds fun _ _ _ _ _ _ us hl => match us, hl with | [_], _ => rfl
theorem kb_idle_rules_0_sheet (T : Txt K mg) : KBinds K T.fd_idle_rules ["sheet"] ["sheet"] (perm 0 1 [0]) (perm 0 1 [0]) := kbinds_of T.F_idle_rules (by decide) fun _ _ _ _ _ _ us ws hl hw => match us, ws, hl, hw with | [], [_], _, _ => rfl
theorem kb_lean_sheet_0_sheet (T : Txt K mg) : KBinds K T.fd_lean_sheet ["sheet"] ["sheet"] (perm 0 1 [0]) (perm 0 1 [0]) := kbinds_of T.F_lean_sheet (by decide) fun _ _ _ _ _ _ us ws hl hw => match us, ws, hl, hw with | [], [_], _, _ => rfl
theorem ok_contrary_of (T : Txt K mg) : FnOk P w K mg base CX0 1 T.f_contrary_of T.fd_contrary_of ["literal"] (toSp0 K wp_contrary_of) :=
  vfn0 (τ := τ_contrary_of) T.F_contrary_of sc_contrary_of len_contrary_of (fun cdv A outer s H E hr => ((vss_one (vs_ret (vo_tup (va_cons (vx_o (vo_ixS 0 (hu_of hr) (pv 0) (vx_c pe_int (fun _ => .int _)))) (va_cons (vx_o (vo_not (vo_ixS 0 (hu_of hr) (pv 0) (vx_c pe_int (fun _ => .int _))))) va_nil))))) : PSs (cxOf CX0 P w K mg base _ _ _ T.f_contrary_of cdv A outer s H E).nox _ (lS K false τ_contrary_of))) rd_contrary_of
theorem ok_contrary (T : Txt K mg) : FnOk P w K mg base CX0 2 T.f_contrary T.fd_contrary ["rule"] (toSp0 K wp_contrary) :=
  vfn0 (τ := τ_contrary) T.F_contrary sc_contrary len_contrary (fun cdv A outer s H E hr => ((vss_one (vs_ret (vo_cty cd_tuple (by rfl) T.n_tuple (by decide +kernel) (va_cons (vx_o (vo_cb (cd_sortedA (r64 hr)) (by rfl) T.n_sorted (by decide +kernel) (va_cons (vx_o (vo_lc (own := [("literal", 1)]) rfl sc_contrary.nd (vi_seq (vx_val 0 (pv 0))) (blkOk_by (by kernel_rfl)) (fun _ _ _ _ _ => (vg_name sc_contrary.nd rfl (.inl rfl) (by decide))) (by decide) (fun _ _ _ _ _ => vts_nil) (fun _ _ _ _ _ => (vx_o (vo_call (ok_contrary_of T) (hr.mono (by decide)) (by rfl) T.g_contrary_of T.F_contrary_of.kp (b_contrary_of T) .nil (fun _ => .nil) (va_cons (vx_val 1 (pv 1)) va_nil)))))) va_nil))) va_nil)))) : PSs (cxOf CX0 P w K mg base _ _ _ T.f_contrary cdv A outer s H E).nox _ (lS K false τ_contrary))) rd_contrary
theorem ok_rule_holds (T : Txt K mg) : FnOk P w K mg base CX0 1 T.f_rule_holds T.fd_rule_holds ["rule", "filling"] (toSp0 K wp_rule_holds) :=
  vfn0 (τ := τ_rule_holds) T.F_rule_holds sc_rule_holds len_rule_holds (fun cdv A outer s H E hr => ((vss_one (vs_ret (vo_cmp o2_gt (vx_o (vo_cb cd_len (by rfl) T.n_len (by decide +kernel) (va_cons (vx_o (vo_lc (own := [("box", 2), ("sign", 3)]) rfl sc_rule_holds.nd (vi_seq (vx_val 0 (pv 0))) (blkOk_by (by kernel_rfl)) (fun _ _ _ _ _ => (vg_tup rfl (vgs_cons (vg_name sc_rule_holds.nd rfl (.inl rfl) (by decide)) (vgs_cons (vg_name sc_rule_holds.nd rfl (.inl rfl) (by decide)) vgs_nil)))) (by decide) (fun _ _ _ _ _ => (vts_one (vt_cmp (o2_eq (r64 hr)) (vx_o (vo_ixS 1 (hu_of hr) (pv 1) (vx_var 2 (pv 2)))) (vx_var 3 (pv 3)) (nomark _)))) (fun _ _ _ _ _ => (vx_val 2 (pv 2))))) va_nil))) (vx_c pe_int (fun _ => .int _)) (nomark _)))) : PSs (cxOf CX0 P w K mg base _ _ _ T.f_rule_holds cdv A outer s H E).nox _ (lS K false τ_rule_holds))) rd_rule_holds
theorem ok_rules_by_last_box (T : Txt K mg) : FnOk P w K mg base CX0 1 T.f_rules_by_last_box T.fd_rules_by_last_box ["sheet"] (toSp0 K wp_rules_by_last_box) :=
  vfn0 (τ := τ_rules_by_last_box) T.F_rules_by_last_box sc_rules_by_last_box len_rules_by_last_box (fun cdv A outer s H E hr => ((vss_cons (vs_setLcO (i := 1) (own := [("_", 3)]) rfl sc_rules_by_last_box.nd rfl rfl (by decide) (sw_true rfl rfl rfl (by decide +kernel)) (vi_range1 (by rfl) T.n_range (va_cons (vx_o (vo_op o2_add (vx_o (vo_ixS 0 (hu_of hr) (pv 0) (vx_c pe_int (fun _ => .int _)))) (vx_c pe_int (fun _ => .int _)))) va_nil)) (blkOk_by (by kernel_rfl)) (fun _ _ _ _ _ => (vg_name sc_rules_by_last_box.nd rfl (.inl rfl) (by decide))) (by decide) (fun _ _ _ _ _ => vts_nil) (fun _ _ _ _ _ => (vo_trL vao_nil)))
    (vss_cons (vs_for PassesOwn.never rfl (vi_seq (vx_o (vo_ixS 0 (hu_of hr) (pv 0) (vx_c pe_int (fun _ => .int _))))) (vg_name sc_rules_by_last_box.nd rfl (.inl rfl) (by decide))
    (vss_one (vs_expr (vo_smE PySem.F.slot_list_append PySem.F.type_list_append sm_append (ve_el 1 (pv 1) (vx_o (vo_if (vt_cmp o2_gt (vx_o (vo_lenS 2 (by rfl) T.n_len (pv 2))) (vx_c pe_int (fun _ => .int _)) (nomark _)) (vo_ix ix2_any (vx_o (vo_ixS 2 (hu_of hr) (pv 2) (vx_o (vo_op o2_sub (vx_o (vo_lenS 2 (by rfl) T.n_len (pv 2))) (vx_c pe_int (fun _ => .int _)))))) (vx_c pe_int (fun _ => .int _))) (vo_ixS 0 (hu_of hr) (pv 0) (vx_c pe_int (fun _ => .int _)))))) (va_cons (vx_val 2 (pv 2)) va_nil)))))
    (vss_one (vs_ret (vo_cty cd_tuple (by rfl) T.n_tuple (by decide +kernel) (va_cons (vx_o (vo_lc (own := [("rules", 4)]) rfl sc_rules_by_last_box.nd (vi_seq (vx_val 1 (pv 1))) (blkOk_by (by kernel_rfl)) (fun _ _ _ _ _ => (vg_name sc_rules_by_last_box.nd rfl (.inl rfl) (by decide))) (by decide) (fun _ _ _ _ _ => vts_nil) (fun _ _ _ _ _ => (vx_o (vo_cty cd_tuple (by rfl) T.n_tuple (by decide +kernel) (va_cons (vx_var 4 (pv 4)) va_nil)))))) va_nil)))))) : PSs (cxOf CX0 P w K mg base _ _ _ T.f_rules_by_last_box cdv A outer s H E).nox _ (lS K false τ_rules_by_last_box))) rd_rules_by_last_box
theorem ok_signs_let (T : Txt K mg) : FnOk P w K mg base CX0 1 T.f_signs_let T.fd_signs_let ["box", "known", "start"] (toSp0 K wp_signs_let) :=
  vfn0 (τ := τ_signs_let) T.F_signs_let sc_signs_let len_signs_let (fun cdv A outer s H E hr => ((vss_cons (vs_set (i := 3) sc_signs_let.nd rfl (.inl rfl) (by decide) (vo_if (vt_notInS 1 (r65 hr) (vx_var 0 (pv 0)) (pv 1)) (vo_lst (va_cons (vx_c pe_bl (fun _ => .bl _)) (va_cons (vx_c pe_bl (fun _ => .bl _)) va_nil))) (vo_lst (va_cons (vx_o (vo_ixS 1 (hu_of hr) (pv 1) (vx_var 0 (pv 0)))) va_nil))))
    (vss_one (vs_ret (vo_lc (own := [("sign", 4)]) rfl sc_signs_let.nd (vi_seq (vx_val 3 (pv 3))) (blkOk_by (by kernel_rfl)) (fun _ _ _ _ _ => (vg_name sc_signs_let.nd rfl (.inl rfl) (by decide))) (by decide) (fun _ _ _ _ _ => (vts_one (vt_not (PW.pt (vw_and (vt_tru (vx_var 2 (pv 2))) (vw_and1 (vt_not (vt_tru (vx_var 4 (pv 4)))))))))) (fun _ _ _ _ _ => (vx_val 4 (pv 4))))))) : PSs (cxOf CX0 P w K mg base _ _ _ T.f_signs_let cdv A outer s H E).nox _ (lS K false τ_signs_let))) rd_signs_let
theorem ok_is_kept (T : Txt K mg) : FnOk P w K mg base CX0 2 T.f_is_kept T.fd_is_kept ["rules", "filling"] (toSp0 K wp_is_kept) :=
  vfn0 (τ := τ_is_kept) T.F_is_kept sc_is_kept len_is_kept (fun cdv A outer s H E hr => ((vss_one (vs_ret (vo_cmp (o2_eq (r64 hr)) (vx_o (vo_cb cd_len (by rfl) T.n_len (by decide +kernel) (va_cons (vx_o (vo_lc (own := [("rule", 2)]) rfl sc_is_kept.nd (vi_seq (vx_val 0 (pv 0))) (blkOk_by (by kernel_rfl)) (fun _ _ _ _ _ => (vg_name sc_is_kept.nd rfl (.inl rfl) (by decide))) (by decide) (fun _ _ _ _ _ => (vts_one (vt_not (vt_tru (vx_o (vo_callB (ok_rule_holds T) (hr.mono (by decide)) (by rfl) T.g_rule_holds T.F_rule_holds.kp (b_rule_holds T) .nil (fun _ => .nil) (va_cons (vx_var 2 (pv 2)) (va_cons (vx_var 1 (pv 1)) va_nil)))))))) (fun _ _ _ _ _ => (vx_val 2 (pv 2))))) va_nil))) (vx_c pe_int (fun _ => .int _)) (nomark _)))) : PSs (cxOf CX0 P w K mg base _ _ _ T.f_is_kept cdv A outer s H E).nox _ (lS K false τ_is_kept))) rd_is_kept
theorem ok_filling_from (T : Txt K mg) : FnOk P w K mg base CX0 3 T.f_filling_from T.fd_filling_from ["sheet", "ticks", "begin"] (toSp0 K wp_filling_from) :=
  vfn0 (τ := τ_filling_from) T.F_filling_from sc_filling_from len_filling_from (fun cdv A outer s H E hr => ((vss_cons (vs_set (i := 3) sc_filling_from.nd rfl (.inl rfl) (by decide) (vo_call (ok_rules_by_last_box T) (hr.mono (by decide)) (by rfl) T.g_rules_by_last_box T.F_rules_by_last_box.kp (b_rules_by_last_box T) .nil (fun _ => .nil) (va_cons (vx_val 0 (pv 0)) va_nil)))
    (vss_cons (vs_if (vt_cmp o2_gt (vx_o (vo_cb cd_len (by rfl) T.n_len (by decide +kernel) (va_cons (vx_o (vo_ixS 3 (hu_of hr) (pv 3) (vx_o (vo_ixS 0 (hu_of hr) (pv 0) (vx_c pe_int (fun _ => .int _)))))) va_nil))) (vx_c pe_int (fun _ => .int _)) (nomark _))
    (vss_one (vs_ret (vo_x (vx_c pe_non (fun _ => .non)))))
    vss_nil)
    (vss_cons (vs_set (i := 4) sc_filling_from.nd rfl (.inl rfl) (by decide) (vo_cty (cd_dict rfl) (by rfl) T.n_dict (by decide +kernel) (va_cons (vx_var 1 (pv 1)) va_nil)))
    (vss_cons (vs_set (i := 5) sc_filling_from.nd rfl (.inl rfl) (by decide) (vo_lst va_nil))
    (vss_cons (vs_set (i := 6) sc_filling_from.nd rfl (.inl rfl) (by decide) (vo_trL (vao_cons (vo_call (ok_signs_let T) (hr.mono (by decide)) (by rfl) T.g_signs_let T.F_signs_let.kp (b_signs_let T) .nil (fun _ => .nil) (va_cons (vx_c pe_int (fun _ => .int _)) (va_cons (vx_val 4 (pv 4)) (va_cons (vx_o (vo_ixS 2 (hu_of hr) (pv 2) (vx_c pe_int (fun _ => .int _)))) va_nil)))) vao_nil)))
    (vss_cons (vs_while PassesOwn.never (vt_cmp o2_gt (vx_o (vo_lenS 6 (by rfl) T.n_len (pv 6))) (vx_c pe_int (fun _ => .int _)) (nomark _))
    (vss_cons (vs_set (i := 7) sc_filling_from.nd rfl (.inl rfl) (by decide) (vo_op o2_sub (vx_o (vo_lenS 6 (by rfl) T.n_len (pv 6))) (vx_c pe_int (fun _ => .int _))))
    (vss_cons (vs_del 5 (pv 5) (vx_val 7 (pv 7)))
    (vss_cons (vs_if (vt_cmp (o2_eq (r64 hr)) (vx_o (vo_cbE cd_len (by rfl) T.n_len (by decide +kernel) (ve_el 6 (pv 6) (vx_var 7 (pv 7))))) (vx_c pe_int (fun _ => .int _)) (nomark _))
    (vss_cons (vs_expr (vo_pop 6 (pv 6)))
    (vss_one vs_continue))
    vss_nil)
    (vss_cons (vs_expr (vo_app false 5 (pv 5) (vo_smE PySem.F.slot_list_pop PySem.F.type_list_pop sm_popAt (ve_el 6 (pv 6) (vx_var 7 (pv 7))) (va_cons (vx_c pe_int (fun _ => .int _)) va_nil))))
    (vss_cons (vs_if (vt_not (vt_tru (vx_o (vo_callB (ok_is_kept T) (hr.mono (by decide)) (by rfl) T.g_is_kept T.F_is_kept.kp (b_is_kept T) .nil (fun _ => .nil) (va_cons (vx_o (vo_ixS 3 (hu_of hr) (pv 3) (vx_var 7 (pv 7)))) (va_cons (vx_var 5 (pv 5)) va_nil))))))
    (vss_one vs_continue)
    vss_nil)
    (vss_cons (vs_if (vt_cmp (o2_eq (r64 hr)) (vx_o (vo_op o2_add (vx_var 7 (pv 7)) (vx_c pe_int (fun _ => .int _)))) (vx_o (vo_ixS 0 (hu_of hr) (pv 0) (vx_c pe_int (fun _ => .int _)))) (nomark _))
    (vss_one (vs_ret (vo_cty cd_tuple (by rfl) T.n_tuple (by decide +kernel) (va_cons (vx_var 5 (pv 5)) va_nil))))
    vss_nil)
    (vss_cons (vs_set (i := 8) sc_filling_from.nd rfl (.inl rfl) (by decide) (vo_cmp (o2_eq (r64 hr)) (vx_o (vo_cty cd_tuple (by rfl) T.n_tuple (by decide +kernel) (va_cons (vx_var 5 (pv 5)) va_nil))) (vx_o (vo_sl (vx_var 2 (pv 2)) vp_none (vp_some (vx_o (vo_op o2_add (vx_var 7 (pv 7)) (vx_c pe_int (fun _ => .int _))))))) (nomark _)))
    (vss_one (vs_expr (vo_app true 6 (pv 6) (vo_call (ok_signs_let T) (hr.mono (by decide)) (by rfl) T.g_signs_let T.F_signs_let.kp (b_signs_let T) .nil (fun _ => .nil) (va_cons (vx_o (vo_op o2_add (vx_var 7 (pv 7)) (vx_c pe_int (fun _ => .int _)))) (va_cons (vx_val 4 (pv 4)) (va_cons (vx_o (vo_and (vo_x (vx_val 8 (pv 8))) (vo_one (vo_ixS 2 (hu_of hr) (pv 2) (vx_o (vo_op o2_add (vx_var 7 (pv 7)) (vx_c pe_int (fun _ => .int _)))))))) va_nil)))))))))))))))
    (vss_one (vs_ret (vo_x (vx_c pe_non (fun _ => .non))))))))))) : PSs (cxOf CX0 P w K mg base _ _ _ T.f_filling_from cdv A outer s H E).nox _ (lS K false τ_filling_from))) rd_filling_from
theorem ok_first_filling (T : Txt K mg) : FnOk P w K mg base CX0 4 T.f_first_filling T.fd_first_filling ["sheet", "ticks"] (toSp0 K wp_first_filling) :=
  vfn0 (τ := τ_first_filling) T.F_first_filling sc_first_filling len_first_filling (fun cdv A outer s H E hr => ((vss_one (vs_ret (vo_call (ok_filling_from T) (hr.mono (by decide)) (by rfl) T.g_filling_from T.F_filling_from.kp (b_filling_from T) .nil (fun _ => .nil) (va_cons (vx_val 0 (pv 0)) (va_cons (vx_val 1 (pv 1)) (va_cons (vx_o (vo_op o2_mul (vx_o (vo_tup (va_cons (vx_c pe_bl (fun _ => .bl _)) va_nil))) (vx_o (vo_ixS 0 (hu_of hr) (pv 0) (vx_c pe_int (fun _ => .int _)))))) va_nil)))))) : PSs (cxOf CX0 P w K mg base _ _ _ T.f_first_filling cdv A outer s H E).nox _ (lS K false τ_first_filling))) rd_first_filling
theorem ok_breaking_filling (T : Txt K mg) : FnOk P w K mg base CX0 5 T.f_breaking_filling T.fd_breaking_filling ["sheet", "rule"] (toSp0 K wp_breaking_filling) :=
  vfn0 (τ := τ_breaking_filling) T.F_breaking_filling sc_breaking_filling len_breaking_filling (fun cdv A outer s H E hr => ((vss_one (vs_ret (vo_call (ok_first_filling T) (hr.mono (by decide)) (by rfl) T.g_first_filling T.F_first_filling.kp (b_first_filling T) .nil (fun _ => .nil) (va_cons (vx_val 0 (pv 0)) (va_cons (vx_o (vo_call (ok_contrary T) (hr.mono (by decide)) (by rfl) T.g_contrary T.F_contrary.kp (b_contrary T) .nil (fun _ => .nil) (va_cons (vx_val 1 (pv 1)) va_nil))) va_nil))))) : PSs (cxOf CX0 P w K mg base _ _ _ T.f_breaking_filling cdv A outer s H E).nox _ (lS K false τ_breaking_filling))) rd_breaking_filling
theorem ok_follows (T : Txt K mg) : FnOk P w K mg base CX0 6 T.f_follows T.fd_follows ["sheet", "rule"] (toSp0 K wp_follows) :=
  vfn0 (τ := τ_follows) T.F_follows sc_follows len_follows (fun cdv A outer s H E hr => ((vss_one (vs_ret (vo_cmp o2_isN (vx_o (vo_call (ok_breaking_filling T) (hr.mono (by decide)) (by rfl) T.g_breaking_filling T.F_breaking_filling.kp (b_breaking_filling T) .nil (fun _ => .nil) (va_cons (vx_val 0 (pv 0)) (va_cons (vx_val 1 (pv 1)) va_nil)))) (vx_c pe_non (fun _ => .non)) (nomark _)))) : PSs (cxOf CX0 P w K mg base _ _ _ T.f_follows cdv A outer s H E).nox _ (lS K false τ_follows))) rd_follows
theorem ok_without_number (T : Txt K mg) : FnOk P w K mg base CX0 1 T.f_without_number T.fd_without_number ["sheet", "number"] (toSp0 K wp_without_number) :=
  vfn0 (τ := τ_without_number) T.F_without_number sc_without_number len_without_number (fun cdv A outer s H E hr => ((vss_one (vs_ret (vo_tup (va_cons (vx_o (vo_ixS 0 (hu_of hr) (pv 0) (vx_c pe_int (fun _ => .int _)))) (va_cons (vx_o (vo_op o2_add (vx_o (vo_sl (vx_o (vo_ixS 0 (hu_of hr) (pv 0) (vx_c pe_int (fun _ => .int _)))) vp_none (vp_some (vx_var 1 (pv 1))))) (vx_o (vo_sl (vx_o (vo_ixS 0 (hu_of hr) (pv 0) (vx_c pe_int (fun _ => .int _)))) (vp_some (vx_o (vo_op o2_add (vx_var 1 (pv 1)) (vx_c pe_int (fun _ => .int _))))) vp_none)))) va_nil))))) : PSs (cxOf CX0 P w K mg base _ _ _ T.f_without_number cdv A outer s H E).nox _ (lS K false τ_without_number))) rd_without_number
theorem ok_is_idle (T : Txt K mg) : FnOk P w K mg base CX0 7 T.f_is_idle T.fd_is_idle ["sheet", "number"] (toSp0 K wp_is_idle) :=
  vfn0 (τ := τ_is_idle) T.F_is_idle sc_is_idle len_is_idle (fun cdv A outer s H E hr => ((vss_one (vs_ret (vo_call (ok_follows T) (hr.mono (by decide)) (by rfl) T.g_follows T.F_follows.kp (b_follows T) .nil (fun _ => .nil) (va_cons (vx_o (vo_call (ok_without_number T) (hr.mono (by decide)) (by rfl) T.g_without_number T.F_without_number.kp (b_without_number T) .nil (fun _ => .nil) (va_cons (vx_val 0 (pv 0)) (va_cons (vx_val 1 (pv 1)) va_nil)))) (va_cons (vx_o (vo_ix ix2_any (vx_o (vo_ixS 0 (hu_of hr) (pv 0) (vx_c pe_int (fun _ => .int _)))) (vx_var 1 (pv 1)))) va_nil))))) : PSs (cxOf CX0 P w K mg base _ _ _ T.f_is_idle cdv A outer s H E).nox _ (lS K false τ_is_idle))) rd_is_idle
theorem ok_idle_rules (T : Txt K mg) : FnOk P w K mg base CX0 8 T.f_idle_rules T.fd_idle_rules ["sheet"] (toSp0 K wp_idle_rules) :=
  vfn0 (τ := τ_idle_rules) T.F_idle_rules sc_idle_rules len_idle_rules (fun cdv A outer s H E hr => ((vss_one (vs_ret (vo_cty cd_tuple (by rfl) T.n_tuple (by decide +kernel) (va_cons (vx_o (vo_lc (own := [("number", 1)]) rfl sc_idle_rules.nd (vi_range1 (by rfl) T.n_range (va_cons (vx_o (vo_cb cd_len (by rfl) T.n_len (by decide +kernel) (va_cons (vx_o (vo_ixS 0 (hu_of hr) (pv 0) (vx_c pe_int (fun _ => .int _)))) va_nil))) va_nil)) (blkOk_by (by kernel_rfl)) (fun _ _ _ _ _ => (vg_name sc_idle_rules.nd rfl (.inl rfl) (by decide))) (by decide) (fun _ _ _ _ _ => (vts_one (vt_tru (vx_o (vo_call (ok_is_idle T) (hr.mono (by decide)) (by rfl) T.g_is_idle T.F_is_idle.kp (b_is_idle T) .nil (fun _ => .nil) (va_cons (vx_val 0 (pv 0)) (va_cons (vx_val 1 (pv 1)) va_nil))))))) (fun _ _ _ _ _ => (vx_val 1 (pv 1))))) va_nil)))) : PSs (cxOf CX0 P w K mg base _ _ _ T.f_idle_rules cdv A outer s H E).nox _ (lS K false τ_idle_rules))) rd_idle_rules
theorem ok_lean_sheet (T : Txt K mg) : FnOk P w K mg base CX0 8 T.f_lean_sheet T.fd_lean_sheet ["sheet"] (toSp0 K wp_lean_sheet) :=
  vfn0 (τ := τ_lean_sheet) T.F_lean_sheet sc_lean_sheet len_lean_sheet (fun cdv A outer s H E hr => ((vss_cons (vs_set (i := 1) sc_lean_sheet.nd rfl (.inl rfl) (by decide) (vo_x (vx_val 0 (pv 0))))
    (vss_cons (vs_set (i := 2) sc_lean_sheet.nd rfl (.inl rfl) (by decide) (vo_x (vx_c pe_int (fun _ => .int _))))
    (vss_cons (vs_while PassesOwn.never (vt_cmp o2_lt (vx_var 2 (pv 2)) (vx_o (vo_cb cd_len (by rfl) T.n_len (by decide +kernel) (va_cons (vx_o (vo_ixS 1 (hu_of hr) (pv 1) (vx_c pe_int (fun _ => .int _)))) va_nil))) (nomark _))
    (vss_one (vs_if (vt_tru (vx_o (vo_call (ok_is_idle T) (hr.mono (by decide)) (by rfl) T.g_is_idle T.F_is_idle.kp (b_is_idle T) .nil (fun _ => .nil) (va_cons (vx_val 1 (pv 1)) (va_cons (vx_val 2 (pv 2)) va_nil)))))
    (vss_one (vs_set (i := 1) sc_lean_sheet.nd rfl (.inl rfl) (by decide) (vo_call (ok_without_number T) (hr.mono (by decide)) (by rfl) T.g_without_number T.F_without_number.kp (b_without_number T) .nil (fun _ => .nil) (va_cons (vx_val 1 (pv 1)) (va_cons (vx_val 2 (pv 2)) va_nil)))))
    (vss_one (vs_augI (i := 2) sc_lean_sheet.nd rfl (.inl rfl) (by decide) ip_add (vx_c pe_int (fun _ => .int _)))))))
    (vss_one (vs_ret (vo_mv 1 (pv 1))))))) : PSs (cxOf CX0 P w K mg base _ _ _ T.f_lean_sheet cdv A outer s H E).nox _ (lS K false τ_lean_sheet))) rd_lean_sheet
theorem ok__law_crate (T : Txt K mg) : FnOk P w K mg base CX0 1 T.f__law_crate T.fd__law_crate ["script"] (toSp0 K wp__law_crate) :=
  vfn0 (τ := τ__law_crate) T.F__law_crate sc__law_crate len__law_crate (fun cdv A outer s H E hr => ((vss_cons (vs_set (i := 1) sc__law_crate.nd rfl (.inl rfl) (by decide) (vo_lst va_nil))
    (vss_cons (vs_set (i := 2) sc__law_crate.nd rfl (.inl rfl) (by decide) (vo_x (vx_c pe_int (fun _ => .int _))))
    (vss_cons (vs_for PassesOwn.never rfl (vi_seq (vx_o (vo_sl (vx_var 0 (pv 0)) vp_none (vp_some (vx_c pe_int (fun _ => .int _)))))) (vg_name sc__law_crate.nd rfl (.inl rfl) (by decide))
    (vss_cons (vs_set (i := 4) sc__law_crate.nd rfl (.inl rfl) (by decide) (vo_op o2_mod (vx_o (vo_cb cd_abs (by rfl) T.n_abs (by decide +kernel) (va_cons (vx_o (vo_cty cd_int (by rfl) T.n_int (by decide +kernel) (va_cons (vx_var 3 (pv 3)) va_nil))) va_nil))) (vx_o (vo_op o2_shl (vx_c pe_int (fun _ => .int _)) (vx_c pe_int (fun _ => .int _))))))
    (vss_cons (vs_set (i := 2) sc__law_crate.nd rfl (.inl rfl) (by decide) (vo_op o2_mod (vx_o (vo_cty cd_int (by rfl) T.n_int (by decide +kernel) (va_cons (vx_o (vo_op o2_add (vx_o (vo_op o2_add (vx_o (vo_op o2_add (vx_o (vo_op o2_mul (vx_var 2 (pv 2)) (vx_c pe_int (fun _ => .int _)))) (vx_o (vo_op o2_mul (vx_o (vo_op o2_mod (vx_var 4 (pv 4)) (vx_c pe_int (fun _ => .int _)))) (vx_c pe_int (fun _ => .int _)))))) (vx_o (vo_cty cd_int (by rfl) T.n_int (by decide +kernel) (va_cons (vx_o (vo_cmp o2_lt (vx_o (vo_cty cd_int (by rfl) T.n_int (by decide +kernel) (va_cons (vx_var 3 (pv 3)) va_nil))) (vx_c pe_int (fun _ => .int _)) (nomark _))) va_nil))))) (vx_c pe_int (fun _ => .int _)))) va_nil))) (vx_c pe_int (fun _ => .int _))))
    (vss_one (vs_if (vt_cmp o2_ge (vx_var 4 (pv 4)) (vx_o (vo_op o2_pow (vx_c pe_int (fun _ => .int _)) (vx_c pe_int (fun _ => .int _)))) (nomark _))
    (vss_one (vs_expr (vo_app false 1 (pv 1) (vo_x (vx_val 4 (pv 4))))))
    vss_nil)))))
    (vss_cons (vs_set (i := 5) sc__law_crate.nd rfl (.inl rfl) (by decide) (vo_lst va_nil))
    (vss_cons (vs_for PassesOwn.never rfl (vi_range1 (by rfl) T.n_range (va_cons (vx_c pe_int (fun _ => .int _)) va_nil)) (vg_name sc__law_crate.nd rfl (.inl rfl) (by decide))
    (vss_cons (vs_set (i := 2) sc__law_crate.nd rfl (.inl rfl) (by decide) (vo_op o2_mod (vx_o (vo_cty cd_int (by rfl) T.n_int (by decide +kernel) (va_cons (vx_o (vo_op o2_add (vx_o (vo_op o2_add (vx_o (vo_op o2_mul (vx_var 2 (pv 2)) (vx_c pe_int (fun _ => .int _)))) (vx_o (vo_op o2_mul (vx_c pe_int (fun _ => .int _)) (vx_var 6 (pv 6)))))) (vx_c pe_int (fun _ => .int _)))) va_nil))) (vx_c pe_int (fun _ => .int _))))
    (vss_one (vs_expr (vo_app false 5 (pv 5) (vo_op o2_mod (vx_o (vo_cty cd_int (by rfl) T.n_int (by decide +kernel) (va_cons (vx_o (vo_op o2_div (vx_var 2 (pv 2)) (vx_c pe_int (fun _ => .int _)))) va_nil))) (vx_c pe_int (fun _ => .int _))))))))
    (vss_one (vs_ret (vo_tdL (ppo_cons (vo_mv 1 (pv 1)) (ppo_cons (vo_x (vx_val 2 (pv 2))) (ppo_cons (vo_x (vx_c pe_int (fun _ => .int _))) (ppo_cons (vo_mv 5 (pv 5)) ppo_nil)))))))))))) : PSs (cxOf CX0 P w K mg base _ _ _ T.f__law_crate cdv A outer s H E).nox _ (lS K false τ__law_crate))) rd__law_crate
theorem ok__law_lift (T : Txt K mg) : FnOk P w K mg base CX0 1 T.f__law_lift T.fd__law_lift ["crate", "place", "many"] (toSp1 K wp__law_lift) :=
  vfn1 (τ := τ__law_lift) T.F__law_lift sc__law_lift len__law_lift (fun cdv A outer s H E hr => ((vss_cons (vs_putD 0 (hu_of hr) _ (pv 0) (vo_op o2_add (vx_elD (ve_elD 0 (hu_of hr) _ (pv 0))) (vx_c pe_int (fun _ => .int _))))
    (vss_cons (vs_if (vt_truDE (ve_elD 0 (hu_of hr) _ (pv 0)))
    (vss_cons (vs_set (i := 3) sc__law_lift.nd rfl (.inl rfl) (by decide) (vo_cty cd_int (by rfl) T.n_int (by decide +kernel) (va_cons (vx_o (vo_smD0 PySem.F.slot_list_pop PySem.F.type_list_pop sm_pop (ve_elD 0 (hu_of hr) _ (pv 0)))) va_nil)))
    (vss_cons (vs_if (vt_cmp o2_ge (vx_var 3 (pv 3)) (vx_var 2 (pv 2)) (nomark _))
    (vss_one (vs_expr (vo_smD PySem.F.slot_list_append PySem.F.type_list_append sm_append (ve_elD 0 (hu_of hr) _ (pv 0)) (va_cons (vx_o (vo_op o2_div (vx_var 3 (pv 3)) (vx_var 2 (pv 2)))) va_nil))))
    vss_nil)
    (vss_one (vs_ret (vo_op o2_mod (vx_var 3 (pv 3)) (vx_var 2 (pv 2)))))))
    vss_nil)
    (vss_cons (vs_putD 0 (hu_of hr) _ (pv 0) (vo_op o2_mod (vx_o (vo_cty cd_int (by rfl) T.n_int (by decide +kernel) (va_cons (vx_o (vo_op o2_add (vx_o (vo_op o2_add (vx_o (vo_op o2_mul (vx_elD (ve_elD 0 (hu_of hr) _ (pv 0))) (vx_c pe_int (fun _ => .int _)))) (vx_o (vo_op o2_mul (vx_elD (ve_elD 0 (hu_of hr) _ (pv 0))) (vx_c pe_int (fun _ => .int _)))))) (vx_var 1 (pv 1)))) va_nil))) (vx_c pe_int (fun _ => .int _))))
    (vss_cons (vs_set (i := 4) sc__law_lift.nd rfl (.inl rfl) (by decide) (vo_ixD ix2_any (ve_elD 0 (hu_of hr) _ (pv 0)) (vx_var 1 (pv 1))))
    (vss_cons (vs_if (vt_cmp o2_lt (vx_var 4 (pv 4)) (vx_c pe_int (fun _ => .int _)) (nomark _))
    (vss_one (vs_ret (vo_x (vx_c pe_int (fun _ => .int _)))))
    vss_nil)
    (vss_cons (vs_if (vt_cmp o2_lt (vx_var 4 (pv 4)) (vx_c pe_int (fun _ => .int _)) (nomark _))
    (vss_one (vs_ret (vo_op o2_sub (vx_var 2 (pv 2)) (vx_c pe_int (fun _ => .int _)))))
    vss_nil)
    (vss_cons (vs_if (vt_cmp o2_lt (vx_var 4 (pv 4)) (vx_c pe_int (fun _ => .int _)) (nomark _))
    (vss_one (vs_ret (vo_op o2_mod (vx_o (vo_cty cd_int (by rfl) T.n_int (by decide +kernel) (va_cons (vx_o (vo_op o2_mul (vx_var 4 (pv 4)) (vx_c pe_int (fun _ => .int _)))) va_nil))) (vx_var 2 (pv 2)))))
    vss_nil)
    (vss_one (vs_ret (vo_op o2_mod (vx_o (vo_cty cd_int (by rfl) T.n_int (by decide +kernel) (va_cons (vx_o (vo_op o2_div (vx_elD (ve_elD 0 (hu_of hr) _ (pv 0))) (vx_c pe_int (fun _ => .int _)))) va_nil))) (vx_var 2 (pv 2)))))))))))) : PSs (cxOf CX0 P w K mg base _ _ _ T.f__law_lift cdv A outer s H E).nox _ (lS K true τ__law_lift))) rd__law_lift
theorem ok__law_tossed (T : Txt K mg) : FnOk P w K mg base CX0 2 T.f__law_tossed T.fd__law_tossed ["crate", "things"] (toSp1 K wp__law_tossed) :=
  vfn1 (τ := τ__law_tossed) T.F__law_tossed sc__law_tossed len__law_tossed (fun cdv A outer s H E hr => ((vss_cons (vs_set (i := 2) sc__law_tossed.nd rfl (.inl rfl) (by decide) (vo_cty cd_list (by rfl) T.n_list (by decide +kernel) (va_cons (vx_var 1 (pv 1)) va_nil)))
    (vss_cons (vs_set (i := 3) sc__law_tossed.nd rfl (.inl rfl) (by decide) (vo_lst va_nil))
    (vss_cons (vs_while PassesOwn.never (vt_tru (vx_var 2 (pv 2)))
    (vss_one (vs_expr (vo_app false 3 (pv 3) (vo_sm 2 PySem.F.slot_list_pop PySem.F.type_list_pop sm_popAt (pv 2) (va_cons (vx_o (vo_callI (ok__law_lift T) (hr.mono (by decide)) (by rfl) T.g__law_lift T.F__law_lift.kp (b__law_lift T) .nil (fun _ => .nil) (va_cons (vx_var 0 (pv 0)) (va_cons (vx_c pe_int (fun _ => .int _)) (va_cons (vx_o (vo_lenS 2 (by rfl) T.n_len (pv 2))) va_nil))))) va_nil))))))
    (vss_one (vs_ret (vo_mv 3 (pv 3))))))) : PSs (cxOf CX0 P w K mg base _ _ _ T.f__law_tossed cdv A outer s H E).nox _ (lS K true τ__law_tossed))) rd__law_tossed
theorem ok__law_rule (T : Txt K mg) : FnOk P w K mg base CX0 1 T.f__law_rule T.fd__law_rule ["literals"] (toSp0 K wp__law_rule) :=
  vfn0 (τ := τ__law_rule) T.F__law_rule sc__law_rule len__law_rule (fun cdv A outer s H E hr => ((vss_one (vs_ret (vo_cty cd_tuple (by rfl) T.n_tuple (by decide +kernel) (va_cons (vx_o (vo_cb (cd_sortedA (r64 hr)) (by rfl) T.n_sorted (by decide +kernel) (va_cons (vx_var 0 (pv 0)) va_nil))) va_nil)))) : PSs (cxOf CX0 P w K mg base _ _ _ T.f__law_rule cdv A outer s H E).nox _ (lS K false τ__law_rule))) rd__law_rule
theorem ok__law_shut (T : Txt K mg) : FnOk P w K mg base CX0 1 T.f__law_shut T.fd__law_shut ["literal"] (toSp0 K wp__law_shut) :=
  vfn0 (τ := τ__law_shut) T.F__law_shut sc__law_shut len__law_shut (fun cdv A outer s H E hr => ((vss_one (vs_ret (vo_tup (va_cons (vx_o (vo_ixS 0 (hu_of hr) (pv 0) (vx_c pe_int (fun _ => .int _)))) (va_cons (vx_o (vo_not (vo_ixS 0 (hu_of hr) (pv 0) (vx_c pe_int (fun _ => .int _))))) va_nil))))) : PSs (cxOf CX0 P w K mg base _ _ _ T.f__law_shut cdv A outer s H E).nox _ (lS K false τ__law_shut))) rd__law_shut
theorem ok__law_grown (T : Txt K mg) : FnOk P w K mg base CX0 2 T.f__law_grown T.fd__law_grown ["crate", "some", "rules"] (toSp1 K wp__law_grown) :=
  vfn1 (τ := τ__law_grown) T.F__law_grown sc__law_grown len__law_grown (fun cdv A outer s H E hr => ((vss_cons (vs_set (i := 3) sc__law_grown.nd rfl (.inl rfl) (by decide) (vo_lst va_nil))
    (vss_cons (vs_for PassesOwn.never rfl (vi_range1 (by rfl) T.n_range (va_cons (vx_o (vo_callI (ok__law_lift T) (hr.mono (by decide)) (by rfl) T.g__law_lift T.F__law_lift.kp (b__law_lift T) .nil (fun _ => .nil) (va_cons (vx_var 0 (pv 0)) (va_cons (vx_c pe_int (fun _ => .int _)) (va_cons (vx_c pe_int (fun _ => .int _)) va_nil))))) va_nil)) (vg_name sc__law_grown.nd rfl (.inl rfl) (by decide))
    (vss_one (vs_if (vt_cmp o2_gt (vx_o (vo_lenS 2 (by rfl) T.n_len (pv 2))) (vx_c pe_int (fun _ => .int _)) (nomark _))
    (vss_cons (vs_set (i := 5) sc__law_grown.nd rfl (.inl rfl) (by decide) (vo_ixS 2 (hu_of hr) (pv 2) (vx_o (vo_callI (ok__law_lift T) (hr.mono (by decide)) (by rfl) T.g__law_lift T.F__law_lift.kp (b__law_lift T) .nil (fun _ => .nil) (va_cons (vx_var 0 (pv 0)) (va_cons (vx_c pe_int (fun _ => .int _)) (va_cons (vx_o (vo_lenS 2 (by rfl) T.n_len (pv 2))) va_nil)))))))
    (vss_cons (vs_set (i := 6) sc__law_grown.nd rfl (.inr rfl) (by decide) (vo_lc (own := [("literal", 8)]) rfl sc__law_grown.nd (vi_seq (vx_val 5 (pv 5))) (blkOk_by (by kernel_rfl)) (fun _ _ _ _ _ => (vg_name sc__law_grown.nd rfl (.inl rfl) (by decide))) (by decide) (fun _ _ _ _ _ => vts_nil) (fun _ _ _ _ _ => (vx_o (vo_ixS 8 (hu_of hr) (pv 8) (vx_c pe_int (fun _ => .int _)))))))
    (vss_cons (vs_setLc (i := 7) (own := [("box", 9)]) rfl sc__law_grown.nd rfl rfl (by decide) (sw_true rfl rfl rfl (by decide +kernel)) (vi_seq (vx_val 1 (pv 1))) (blkOk_by (by kernel_rfl)) (fun _ _ _ _ _ => (vg_name sc__law_grown.nd rfl (.inl rfl) (by decide))) (by decide) (fun _ _ _ _ _ => (vts_one (vt_notInS 6 (r65 hr) (vx_var 9 (pv 9)) (pv 6)))) (fun _ _ _ _ _ => (vx_o (vo_tup (va_cons (vx_val 9 (pv 9)) (va_cons (vx_o (vo_cmp (o2_eq (r64 hr)) (vx_o (vo_callI (ok__law_lift T) (hr.mono (by decide)) (by rfl) T.g__law_lift T.F__law_lift.kp (b__law_lift T) .nil (fun _ => .nil) (va_cons (vx_var 0 (pv 0)) (va_cons (vx_c pe_int (fun _ => .int _)) (va_cons (vx_c pe_int (fun _ => .int _)) va_nil))))) (vx_c pe_int (fun _ => .int _)) (nomark _))) va_nil))))))
    (vss_one (vs_expr (vo_app false 3 (pv 3) (vo_call (ok__law_rule T) (hr.mono (by decide)) (by rfl) T.g__law_rule T.F__law_rule.kp (b__law_rule T) .nil (fun _ => .nil) (va_cons (vx_o (vo_op o2_add (vx_o (vo_cty cd_list (by rfl) T.n_list (by decide +kernel) (va_cons (vx_var 5 (pv 5)) va_nil))) (vx_o (vo_sl (vx_var 7 (pv 7)) vp_none (vp_some (vx_o (vo_callI (ok__law_lift T) (hr.mono (by decide)) (by rfl) T.g__law_lift T.F__law_lift.kp (b__law_lift T) .nil (fun _ => .nil) (va_cons (vx_var 0 (pv 0)) (va_cons (vx_c pe_int (fun _ => .int _)) (va_cons (vx_c pe_int (fun _ => .int _)) va_nil)))))))))) va_nil))))))))
    vss_nil)))
    (vss_one (vs_ret (vo_mv 3 (pv 3)))))) : PSs (cxOf CX0 P w K mg base _ _ _ T.f__law_grown cdv A outer s H E).nox _ (lS K true τ__law_grown))) rd__law_grown
theorem ok__law_joins (T : Txt K mg) : FnOk P w K mg base CX0 3 T.f__law_joins T.fd__law_joins ["crate", "rules"] (toSp1 K wp__law_joins) :=
  vfn1 (τ := τ__law_joins) T.F__law_joins sc__law_joins len__law_joins (fun cdv A outer s H E hr => ((vss_cons (vs_set (i := 2) sc__law_joins.nd rfl (.inl rfl) (by decide) (vo_lst va_nil))
    (vss_cons (vs_for PassesOwn.never rfl (vi_seq (vx_val 1 (pv 1))) (vg_name sc__law_joins.nd rfl (.inl rfl) (by decide))
    (vss_one (vs_for PassesOwn.never rfl (vi_seq (vx_val 1 (pv 1))) (vg_name sc__law_joins.nd rfl (.inr rfl) (by decide))
    (vss_cons (vs_set (i := 5) sc__law_joins.nd rfl (.inr rfl) (by decide) (vo_lc (own := [("literal", 7)]) rfl sc__law_joins.nd (vi_seq (vx_val 3 (pv 3))) (blkOk_by (by kernel_rfl)) (fun _ _ _ _ _ => (vg_name sc__law_joins.nd rfl (.inl rfl) (by decide))) (by decide) (fun _ _ _ _ _ => (vts_one (vt_inS 4 (r65 hr) (vx_o (vo_call (ok__law_shut T) (hr.mono (by decide)) (by rfl) T.g__law_shut T.F__law_shut.kp (b__law_shut T) .nil (fun _ => .nil) (va_cons (vx_val 7 (pv 7)) va_nil))) (pv 4)))) (fun _ _ _ _ _ => (vx_o (vo_ixS 7 (hu_of hr) (pv 7) (vx_c pe_int (fun _ => .int _)))))))
    (vss_one (vs_if (PW.pt (vw_and (vt_cmp (o2_eq (r64 hr)) (vx_o (vo_lenS 5 (by rfl) T.n_len (pv 5))) (vx_c pe_int (fun _ => .int _)) (nomark _)) (vw_and1 (vt_cmp o2_lt (vx_o (vo_lenS 2 (by rfl) T.n_len (pv 2))) (vx_c pe_int (fun _ => .int _)) (nomark _)))))
    (vss_cons (vs_set (i := 6) sc__law_joins.nd rfl (.inr rfl) (by decide) (vo_lc (own := [("literal", 7)]) rfl sc__law_joins.nd (vi_seq (vx_val 3 (pv 3))) (blkOk_by (by kernel_rfl)) (fun _ _ _ _ _ => (vg_name sc__law_joins.nd rfl (.inl rfl) (by decide))) (by decide) (fun _ _ _ _ _ => (vts_one (vt_cmp (o2_ne (r64 hr)) (vx_o (vo_ixS 7 (hu_of hr) (pv 7) (vx_c pe_int (fun _ => .int _)))) (vx_o (vo_ixS 5 (hu_of hr) (pv 5) (vx_c pe_int (fun _ => .int _)))) (nomark _)))) (fun _ _ _ _ _ => (vx_val 7 (pv 7)))))
    (vss_one (vs_expr (vo_app false 2 (pv 2) (vo_call (ok__law_rule T) (hr.mono (by decide)) (by rfl) T.g__law_rule T.F__law_rule.kp (b__law_rule T) .nil (fun _ => .nil) (va_cons (vx_o (vo_op o2_add (vx_var 6 (pv 6)) (vx_o (vo_lc (own := [("literal", 7)]) rfl sc__law_joins.nd (vi_seq (vx_val 4 (pv 4))) (blkOk_by (by kernel_rfl)) (fun _ _ _ _ _ => (vg_name sc__law_joins.nd rfl (.inl rfl) (by decide))) (by decide) (fun _ _ _ _ _ => (vts_one (PW.pt (vw_and (vt_cmp (o2_ne (r64 hr)) (vx_o (vo_ixS 7 (hu_of hr) (pv 7) (vx_c pe_int (fun _ => .int _)))) (vx_o (vo_ixS 5 (hu_of hr) (pv 5) (vx_c pe_int (fun _ => .int _)))) (nomark _)) (vw_and1 (vt_notInS 6 (r65 hr) (vx_var 7 (pv 7)) (pv 6))))))) (fun _ _ _ _ _ => (vx_val 7 (pv 7))))))) va_nil))))))
    vss_nil))))))
    (vss_one (vs_ret (vo_sl (vx_o (vo_callI (ok__law_tossed T) (hr.mono (by decide)) (by rfl) T.g__law_tossed T.F__law_tossed.kp (b__law_tossed T) .nil (fun _ => .nil) (va_cons (vx_var 0 (pv 0)) (va_cons (vx_val 2 (pv 2)) va_nil)))) vp_none (vp_some (vx_o (vo_callI (ok__law_lift T) (hr.mono (by decide)) (by rfl) T.g__law_lift T.F__law_lift.kp (b__law_lift T) .nil (fun _ => .nil) (va_cons (vx_var 0 (pv 0)) (va_cons (vx_c pe_int (fun _ => .int _)) (va_cons (vx_c pe_int (fun _ => .int _)) va_nil))))))))))) : PSs (cxOf CX0 P w K mg base _ _ _ T.f__law_joins cdv A outer s H E).nox _ (lS K true τ__law_joins))) rd__law_joins
theorem ok__law_fours (T : Txt K mg) : FnOk P w K mg base CX0 2 T.f__law_fours T.fd__law_fours ["row"] (toSp0 K wp__law_fours) :=
  vfn0 (τ := τ__law_fours) T.F__law_fours sc__law_fours len__law_fours (fun cdv A outer s H E hr => ((vss_cons (vs_set (i := 1) sc__law_fours.nd rfl (.inl rfl) (by decide) (vo_lst va_nil))
    (vss_cons (vs_for PassesOwn.never rfl (vi_range1 (by rfl) T.n_range (va_cons (vx_c pe_int (fun _ => .int _)) va_nil)) (vg_name sc__law_fours.nd rfl (.inl rfl) (by decide))
    (vss_one (vs_expr (vo_app false 1 (pv 1) (vo_call (ok__law_rule T) (hr.mono (by decide)) (by rfl) T.g__law_rule T.F__law_rule.kp (b__law_rule T) .nil (fun _ => .nil) (va_cons (vx_o (vo_lst (va_cons (vx_o (vo_ixS 0 (hu_of hr) (pv 0) (vx_c pe_int (fun _ => .int _)))) (va_cons (vx_o (vo_tup (va_cons (vx_o (vo_ix ix2_any (vx_o (vo_ixS 0 (hu_of hr) (pv 0) (vx_c pe_int (fun _ => .int _)))) (vx_c pe_int (fun _ => .int _)))) (va_cons (vx_o (vo_cmp o2_gt (vx_var 2 (pv 2)) (vx_c pe_int (fun _ => .int _)) (nomark _))) va_nil)))) (va_cons (vx_o (vo_tup (va_cons (vx_o (vo_ix ix2_any (vx_o (vo_ixS 0 (hu_of hr) (pv 0) (vx_c pe_int (fun _ => .int _)))) (vx_c pe_int (fun _ => .int _)))) (va_cons (vx_o (vo_cmp (o2_eq (r64 hr)) (vx_o (vo_op o2_mod (vx_o (vo_cty cd_int (by rfl) T.n_int (by decide +kernel) (va_cons (vx_var 2 (pv 2)) va_nil))) (vx_c pe_int (fun _ => .int _)))) (vx_c pe_int (fun _ => .int _)) (nomark _))) va_nil)))) va_nil))))) va_nil))))))
    (vss_one (vs_ret (vo_op o2_add (vx_var 1 (pv 1)) (vx_o (vo_lst (va_cons (vx_o (vo_call (ok__law_rule T) (hr.mono (by decide)) (by rfl) T.g__law_rule T.F__law_rule.kp (b__law_rule T) .nil (fun _ => .nil) (va_cons (vx_o (vo_op o2_add (vx_o (vo_sl (vx_var 0 (pv 0)) vp_none (vp_some (vx_c pe_int (fun _ => .int _))))) (vx_o (vo_sl (vx_var 0 (pv 0)) (vp_some (vx_c pe_int (fun _ => .int _))) (vp_some (vx_c pe_int (fun _ => .int _))))))) va_nil))) va_nil)))))))) : PSs (cxOf CX0 P w K mg base _ _ _ T.f__law_fours cdv A outer s H E).nox _ (lS K false τ__law_fours))) rd__law_fours
theorem ok__law_made (T : Txt K mg) : FnOk P w K mg base CX0 4 T.f__law_made T.fd__law_made ["crate", "some"] (toSp1 K wp__law_made) :=
  vfn1 (τ := τ__law_made) T.F__law_made sc__law_made len__law_made (fun cdv A outer s H E hr => ((vss_cons (vs_setLc (i := 2) (own := [("box", 8)]) rfl sc__law_made.nd rfl rfl (by decide) (sw_true rfl rfl rfl (by decide +kernel)) (vi_seq (vx_o (vo_callI (ok__law_tossed T) (hr.mono (by decide)) (by rfl) T.g__law_tossed T.F__law_tossed.kp (b__law_tossed T) .nil (fun _ => .nil) (va_cons (vx_var 0 (pv 0)) (va_cons (vx_val 1 (pv 1)) va_nil))))) (blkOk_by (by kernel_rfl)) (fun _ _ _ _ _ => (vg_name sc__law_made.nd rfl (.inl rfl) (by decide))) (by decide) (fun _ _ _ _ _ => vts_nil) (fun _ _ _ _ _ => (vx_o (vo_tup (va_cons (vx_val 8 (pv 8)) (va_cons (vx_o (vo_cmp (o2_eq (r64 hr)) (vx_o (vo_callI (ok__law_lift T) (hr.mono (by decide)) (by rfl) T.g__law_lift T.F__law_lift.kp (b__law_lift T) .nil (fun _ => .nil) (va_cons (vx_var 0 (pv 0)) (va_cons (vx_c pe_int (fun _ => .int _)) (va_cons (vx_c pe_int (fun _ => .int _)) va_nil))))) (vx_c pe_int (fun _ => .int _)) (nomark _))) va_nil))))))
    (vss_cons (vs_set (i := 3) sc__law_made.nd rfl (.inl rfl) (by decide) (vo_callI (ok__law_lift T) (hr.mono (by decide)) (by rfl) T.g__law_lift T.F__law_lift.kp (b__law_lift T) .nil (fun _ => .nil) (va_cons (vx_var 0 (pv 0)) (va_cons (vx_c pe_int (fun _ => .int _)) (va_cons (vx_c pe_int (fun _ => .int _)) va_nil)))))
    (vss_cons (vs_set (i := 4) sc__law_made.nd rfl (.inl rfl) (by decide) (vo_lst va_nil))
    (vss_cons (vs_if (PW.pt (vw_and (vt_cmp o2_gt (vx_var 3 (pv 3)) (vx_c pe_int (fun _ => .int _)) (nomark _)) (vw_and1 (vt_cmp o2_gt (vx_o (vo_lenS 2 (by rfl) T.n_len (pv 2))) (vx_c pe_int (fun _ => .int _)) (nomark _)))))
    (vss_one (vs_set (i := 4) sc__law_made.nd rfl (.inl rfl) (by decide) (vo_call (ok__law_fours T) (hr.mono (by decide)) (by rfl) T.g__law_fours T.F__law_fours.kp (b__law_fours T) .nil (fun _ => .nil) (va_cons (vx_val 2 (pv 2)) va_nil))))
    vss_nil)
    (vss_cons (vs_if (PW.pt (vw_and (vt_cmp (o2_eq (r64 hr)) (vx_var 3 (pv 3)) (vx_c pe_int (fun _ => .int _)) (nomark _)) (vw_and1 (vt_cmp o2_gt (vx_o (vo_lenS 2 (by rfl) T.n_len (pv 2))) (vx_c pe_int (fun _ => .int _)) (nomark _)))))
    (vss_cons (vs_for PassesOwn.never rfl (vi_range1 (by rfl) T.n_range (va_cons (vx_o (vo_lenS 2 (by rfl) T.n_len (pv 2))) va_nil)) (vg_name sc__law_made.nd rfl (.inl rfl) (by decide))
    (vss_one (vs_expr (vo_app false 4 (pv 4) (vo_call (ok__law_rule T) (hr.mono (by decide)) (by rfl) T.g__law_rule T.F__law_rule.kp (b__law_rule T) .nil (fun _ => .nil) (va_cons (vx_o (vo_lst (va_cons (vx_o (vo_call (ok__law_shut T) (hr.mono (by decide)) (by rfl) T.g__law_shut T.F__law_shut.kp (b__law_shut T) .nil (fun _ => .nil) (va_cons (vx_o (vo_ixS 2 (hu_of hr) (pv 2) (vx_o (vo_op o2_sub (vx_var 5 (pv 5)) (vx_c pe_int (fun _ => .int _)))))) va_nil))) (va_cons (vx_o (vo_ixS 2 (hu_of hr) (pv 2) (vx_var 5 (pv 5)))) va_nil)))) va_nil))))))
    (vss_one (vs_expr (vo_app false 4 (pv 4) (vo_call (ok__law_rule T) (hr.mono (by decide)) (by rfl) T.g__law_rule T.F__law_rule.kp (b__law_rule T) .nil (fun _ => .nil) (va_cons (vx_o (vo_lst (va_cons (vx_o (vo_call (ok__law_shut T) (hr.mono (by decide)) (by rfl) T.g__law_shut T.F__law_shut.kp (b__law_shut T) .nil (fun _ => .nil) (va_cons (vx_o (vo_ixS 2 (hu_of hr) (pv 2) (vx_c pe_int (fun _ => .int _)))) va_nil))) (va_cons (vx_o (vo_ixS 2 (hu_of hr) (pv 2) (vx_o (vo_un o1_neg (vx_c pe_int (fun _ => .int _)))))) va_nil)))) va_nil))))))
    vss_nil)
    (vss_cons (vs_if (PW.pt (vw_and (vt_cmp (o2_eq (r64 hr)) (vx_var 3 (pv 3)) (vx_c pe_int (fun _ => .int _)) (nomark _)) (vw_and1 (vt_cmp o2_gt (vx_o (vo_lenS 2 (by rfl) T.n_len (pv 2))) (vx_c pe_int (fun _ => .int _)) (nomark _)))))
    (vss_one (vs_set (i := 4) sc__law_made.nd rfl (.inl rfl) (by decide) (vo_lst (va_cons (vx_o (vo_call (ok__law_rule T) (hr.mono (by decide)) (by rfl) T.g__law_rule T.F__law_rule.kp (b__law_rule T) .nil (fun _ => .nil) (va_cons (vx_o (vo_sl (vx_var 2 (pv 2)) vp_none (vp_some (vx_c pe_int (fun _ => .int _))))) va_nil))) (va_cons (vx_o (vo_call (ok__law_rule T) (hr.mono (by decide)) (by rfl) T.g__law_rule T.F__law_rule.kp (b__law_rule T) .nil (fun _ => .nil) (va_cons (vx_o (vo_lst (va_cons (vx_o (vo_call (ok__law_shut T) (hr.mono (by decide)) (by rfl) T.g__law_shut T.F__law_shut.kp (b__law_shut T) .nil (fun _ => .nil) (va_cons (vx_o (vo_ixS 2 (hu_of hr) (pv 2) (vx_c pe_int (fun _ => .int _)))) va_nil))) (va_cons (vx_o (vo_ixS 2 (hu_of hr) (pv 2) (vx_c pe_int (fun _ => .int _)))) va_nil)))) va_nil))) (va_cons (vx_o (vo_call (ok__law_rule T) (hr.mono (by decide)) (by rfl) T.g__law_rule T.F__law_rule.kp (b__law_rule T) .nil (fun _ => .nil) (va_cons (vx_o (vo_lst (va_cons (vx_o (vo_call (ok__law_shut T) (hr.mono (by decide)) (by rfl) T.g__law_shut T.F__law_shut.kp (b__law_shut T) .nil (fun _ => .nil) (va_cons (vx_o (vo_ixS 2 (hu_of hr) (pv 2) (vx_c pe_int (fun _ => .int _)))) va_nil))) (va_cons (vx_o (vo_ixS 2 (hu_of hr) (pv 2) (vx_c pe_int (fun _ => .int _)))) va_nil)))) va_nil))) (va_cons (vx_o (vo_tup (va_cons (vx_o (vo_ixS 2 (hu_of hr) (pv 2) (vx_c pe_int (fun _ => .int _)))) va_nil))) va_nil)))))))
    vss_nil)
    (vss_cons (vs_if (PW.pt (vw_and (vt_cmp (o2_eq (r64 hr)) (vx_var 3 (pv 3)) (vx_c pe_int (fun _ => .int _)) (nomark _)) (vw_and1 (vt_cmp o2_gt (vx_o (vo_lenS 2 (by rfl) T.n_len (pv 2))) (vx_c pe_int (fun _ => .int _)) (nomark _)))))
    (vss_one (vs_set (i := 4) sc__law_made.nd rfl (.inl rfl) (by decide) (vo_lst (va_cons (vx_o (vo_tup (va_cons (vx_o (vo_ixS 2 (hu_of hr) (pv 2) (vx_c pe_int (fun _ => .int _)))) va_nil))) (va_cons (vx_o (vo_call (ok__law_rule T) (hr.mono (by decide)) (by rfl) T.g__law_rule T.F__law_rule.kp (b__law_rule T) .nil (fun _ => .nil) (va_cons (vx_o (vo_lst (va_cons (vx_o (vo_call (ok__law_shut T) (hr.mono (by decide)) (by rfl) T.g__law_shut T.F__law_shut.kp (b__law_shut T) .nil (fun _ => .nil) (va_cons (vx_o (vo_ixS 2 (hu_of hr) (pv 2) (vx_c pe_int (fun _ => .int _)))) va_nil))) (va_cons (vx_o (vo_ixS 2 (hu_of hr) (pv 2) (vx_c pe_int (fun _ => .int _)))) va_nil)))) va_nil))) (va_cons (vx_o (vo_tup (va_cons (vx_o (vo_ixS 2 (hu_of hr) (pv 2) (vx_c pe_int (fun _ => .int _)))) va_nil))) (va_cons (vx_o (vo_call (ok__law_rule T) (hr.mono (by decide)) (by rfl) T.g__law_rule T.F__law_rule.kp (b__law_rule T) .nil (fun _ => .nil) (va_cons (vx_o (vo_lst (va_cons (vx_o (vo_call (ok__law_shut T) (hr.mono (by decide)) (by rfl) T.g__law_shut T.F__law_shut.kp (b__law_shut T) .nil (fun _ => .nil) (va_cons (vx_o (vo_ixS 2 (hu_of hr) (pv 2) (vx_c pe_int (fun _ => .int _)))) va_nil))) (va_cons (vx_o (vo_ixS 2 (hu_of hr) (pv 2) (vx_c pe_int (fun _ => .int _)))) va_nil)))) va_nil))) (va_cons (vx_o (vo_call (ok__law_rule T) (hr.mono (by decide)) (by rfl) T.g__law_rule T.F__law_rule.kp (b__law_rule T) .nil (fun _ => .nil) (va_cons (vx_o (vo_lst (va_cons (vx_o (vo_ixS 2 (hu_of hr) (pv 2) (vx_c pe_int (fun _ => .int _)))) (va_cons (vx_o (vo_ixS 2 (hu_of hr) (pv 2) (vx_c pe_int (fun _ => .int _)))) va_nil)))) va_nil))) va_nil))))))))
    vss_nil)
    (vss_cons (vs_if (PW.pt (vw_and (vt_cmp (o2_eq (r64 hr)) (vx_var 3 (pv 3)) (vx_c pe_int (fun _ => .int _)) (nomark _)) (vw_and1 (vt_cmp o2_gt (vx_o (vo_lenS 2 (by rfl) T.n_len (pv 2))) (vx_c pe_int (fun _ => .int _)) (nomark _)))))
    (vss_cons (vs_set (i := 4) sc__law_made.nd rfl (.inl rfl) (by decide) (vo_lst (va_cons (vx_o (vo_call (ok__law_rule T) (hr.mono (by decide)) (by rfl) T.g__law_rule T.F__law_rule.kp (b__law_rule T) .nil (fun _ => .nil) (va_cons (vx_o (vo_sl (vx_var 2 (pv 2)) vp_none (vp_some (vx_c pe_int (fun _ => .int _))))) va_nil))) (va_cons (vx_o (vo_call (ok__law_rule T) (hr.mono (by decide)) (by rfl) T.g__law_rule T.F__law_rule.kp (b__law_rule T) .nil (fun _ => .nil) (va_cons (vx_o (vo_lst (va_cons (vx_o (vo_ixS 2 (hu_of hr) (pv 2) (vx_c pe_int (fun _ => .int _)))) (va_cons (vx_o (vo_call (ok__law_shut T) (hr.mono (by decide)) (by rfl) T.g__law_shut T.F__law_shut.kp (b__law_shut T) .nil (fun _ => .nil) (va_cons (vx_o (vo_ixS 2 (hu_of hr) (pv 2) (vx_c pe_int (fun _ => .int _)))) va_nil))) va_nil)))) va_nil))) (va_cons (vx_o (vo_call (ok__law_rule T) (hr.mono (by decide)) (by rfl) T.g__law_rule T.F__law_rule.kp (b__law_rule T) .nil (fun _ => .nil) (va_cons (vx_o (vo_lst (va_cons (vx_o (vo_call (ok__law_shut T) (hr.mono (by decide)) (by rfl) T.g__law_shut T.F__law_shut.kp (b__law_shut T) .nil (fun _ => .nil) (va_cons (vx_o (vo_ixS 2 (hu_of hr) (pv 2) (vx_c pe_int (fun _ => .int _)))) va_nil))) (va_cons (vx_o (vo_ixS 2 (hu_of hr) (pv 2) (vx_c pe_int (fun _ => .int _)))) va_nil)))) va_nil))) (va_cons (vx_o (vo_call (ok__law_rule T) (hr.mono (by decide)) (by rfl) T.g__law_rule T.F__law_rule.kp (b__law_rule T) .nil (fun _ => .nil) (va_cons (vx_o (vo_lst (va_cons (vx_o (vo_call (ok__law_shut T) (hr.mono (by decide)) (by rfl) T.g__law_shut T.F__law_shut.kp (b__law_shut T) .nil (fun _ => .nil) (va_cons (vx_o (vo_ixS 2 (hu_of hr) (pv 2) (vx_c pe_int (fun _ => .int _)))) va_nil))) (va_cons (vx_o (vo_call (ok__law_shut T) (hr.mono (by decide)) (by rfl) T.g__law_shut T.F__law_shut.kp (b__law_shut T) .nil (fun _ => .nil) (va_cons (vx_o (vo_ixS 2 (hu_of hr) (pv 2) (vx_c pe_int (fun _ => .int _)))) va_nil))) va_nil)))) va_nil))) va_nil))))))
    (vss_one (vs_set (i := 4) sc__law_made.nd rfl (.inl rfl) (by decide) (vo_sl (vx_var 4 (pv 4)) vp_none (vp_some (vx_o (vo_op o2_add (vx_c pe_int (fun _ => .int _)) (vx_o (vo_callI (ok__law_lift T) (hr.mono (by decide)) (by rfl) T.g__law_lift T.F__law_lift.kp (b__law_lift T) .nil (fun _ => .nil) (va_cons (vx_var 0 (pv 0)) (va_cons (vx_c pe_int (fun _ => .int _)) (va_cons (vx_c pe_int (fun _ => .int _)) va_nil))))))))))))
    vss_nil)
    (vss_cons (vs_if (vt_cmp (o2_eq (r64 hr)) (vx_var 3 (pv 3)) (vx_c pe_int (fun _ => .int _)) (nomark _))
    (vss_one (vs_set (i := 4) sc__law_made.nd rfl (.inl rfl) (by decide) (vo_op o2_mul (vx_o (vo_lst (va_cons (vx_o (vo_tup va_nil)) va_nil))) (vx_o (vo_callI (ok__law_lift T) (hr.mono (by decide)) (by rfl) T.g__law_lift T.F__law_lift.kp (b__law_lift T) .nil (fun _ => .nil) (va_cons (vx_var 0 (pv 0)) (va_cons (vx_c pe_int (fun _ => .int _)) (va_cons (vx_c pe_int (fun _ => .int _)) va_nil))))))))
    vss_nil)
    (vss_cons (vs_for PassesOwn.never rfl (vi_range1 (by rfl) T.n_range (va_cons (vx_o (vo_callI (ok__law_lift T) (hr.mono (by decide)) (by rfl) T.g__law_lift T.F__law_lift.kp (b__law_lift T) .nil (fun _ => .nil) (va_cons (vx_var 0 (pv 0)) (va_cons (vx_c pe_int (fun _ => .int _)) (va_cons (vx_c pe_int (fun _ => .int _)) va_nil))))) va_nil)) (vg_name sc__law_made.nd rfl (.inl rfl) (by decide))
    (vss_cons (vs_set (i := 7) sc__law_made.nd rfl (.inl rfl) (by decide) (vo_sl (vx_o (vo_callI (ok__law_tossed T) (hr.mono (by decide)) (by rfl) T.g__law_tossed T.F__law_tossed.kp (b__law_tossed T) .nil (fun _ => .nil) (va_cons (vx_var 0 (pv 0)) (va_cons (vx_val 1 (pv 1)) va_nil)))) vp_none (vp_some (vx_o (vo_op o2_add (vx_c pe_int (fun _ => .int _)) (vx_o (vo_callI (ok__law_lift T) (hr.mono (by decide)) (by rfl) T.g__law_lift T.F__law_lift.kp (b__law_lift T) .nil (fun _ => .nil) (va_cons (vx_var 0 (pv 0)) (va_cons (vx_c pe_int (fun _ => .int _)) (va_cons (vx_o (vo_cb (cd_min2 rfl) (by rfl) T.n_min (by decide +kernel) (va_cons (vx_c pe_int (fun _ => .int _)) (va_cons (vx_o (vo_lenS 1 (by rfl) T.n_len (pv 1))) va_nil)))) va_nil))))))))))
    (vss_one (vs_expr (vo_app false 4 (pv 4) (vo_call (ok__law_rule T) (hr.mono (by decide)) (by rfl) T.g__law_rule T.F__law_rule.kp (b__law_rule T) .nil (fun _ => .nil) (va_cons (vx_o (vo_lc (own := [("box", 8)]) rfl sc__law_made.nd (vi_seq (vx_val 7 (pv 7))) (blkOk_by (by kernel_rfl)) (fun _ _ _ _ _ => (vg_name sc__law_made.nd rfl (.inl rfl) (by decide))) (by decide) (fun _ _ _ _ _ => vts_nil) (fun _ _ _ _ _ => (vx_o (vo_tup (va_cons (vx_val 8 (pv 8)) (va_cons (vx_o (vo_cmp (o2_eq (r64 hr)) (vx_o (vo_callI (ok__law_lift T) (hr.mono (by decide)) (by rfl) T.g__law_lift T.F__law_lift.kp (b__law_lift T) .nil (fun _ => .nil) (va_cons (vx_var 0 (pv 0)) (va_cons (vx_c pe_int (fun _ => .int _)) (va_cons (vx_c pe_int (fun _ => .int _)) va_nil))))) (vx_c pe_int (fun _ => .int _)) (nomark _))) va_nil))))))) va_nil)))))))
    (vss_one (vs_ret (vo_sl (vx_o (vo_callI (ok__law_tossed T) (hr.mono (by decide)) (by rfl) T.g__law_tossed T.F__law_tossed.kp (b__law_tossed T) .nil (fun _ => .nil) (va_cons (vx_var 0 (pv 0)) (va_cons (vx_o (vo_op o2_add (vx_o (vo_op o2_add (vx_var 4 (pv 4)) (vx_o (vo_callI (ok__law_grown T) (hr.mono (by decide)) (by rfl) T.g__law_grown T.F__law_grown.kp (b__law_grown T) .nil (fun _ => .nil) (va_cons (vx_var 0 (pv 0)) (va_cons (vx_val 1 (pv 1)) (va_cons (vx_val 4 (pv 4)) va_nil))))))) (vx_o (vo_callI (ok__law_joins T) (hr.mono (by decide)) (by rfl) T.g__law_joins T.F__law_joins.kp (b__law_joins T) .nil (fun _ => .nil) (va_cons (vx_var 0 (pv 0)) (va_cons (vx_val 4 (pv 4)) va_nil)))))) va_nil)))) vp_none (vp_some (vx_c pe_int (fun _ => .int _)))))))))))))))) : PSs (cxOf CX0 P w K mg base _ _ _ T.f__law_made cdv A outer s H E).nox _ (lS K true τ__law_made))) rd__law_made
theorem ok__law_table (T : Txt K mg) : FnOk P w K mg base CX0 1 T.f__law_table T.fd__law_table ["groups", "rules"] (toSp0 K wp__law_table) :=
  vfn0 (τ := τ__law_table) T.F__law_table sc__law_table len__law_table (fun cdv A outer s H E hr => ((vss_cons (vs_set (i := 2) sc__law_table.nd rfl (.inl rfl) (by decide) (vo_lst va_nil))
    (vss_cons (vs_for PassesOwn.never rfl (vi_seq (vx_val 1 (pv 1))) (vg_name sc__law_table.nd rfl (.inl rfl) (by decide))
    (vss_cons (vs_set (i := 4) sc__law_table.nd rfl (.inl rfl) (by decide) (vo_un o1_neg (vx_c pe_int (fun _ => .int _))))
    (vss_cons (vs_set (i := 5) sc__law_table.nd rfl (.inl rfl) (by decide) (vo_x (vx_c pe_int (fun _ => .int _))))
    (vss_cons (vs_for PassesOwn.never rfl (vi_range1 (by rfl) T.n_range (va_cons (vx_o (vo_lenS 0 (by rfl) T.n_len (pv 0))) va_nil)) (vg_name sc__law_table.nd rfl (.inr rfl) (by decide))
    (vss_one (vs_if (PW.pt (vw_and (vt_cmp o2_gt (vx_o (vo_lenS 3 (by rfl) T.n_len (pv 3))) (vx_c pe_int (fun _ => .int _)) (nomark _)) (vw_and1 (vt_cmp (o2_in (r65 hr)) (vx_o (vo_ix ix2_any (vx_o (vo_ixS 3 (hu_of hr) (pv 3) (vx_c pe_int (fun _ => .int _)))) (vx_c pe_int (fun _ => .int _)))) (vx_o (vo_ixS 0 (hu_of hr) (pv 0) (vx_var 6 (pv 6)))) (by rfl)))))
    (vss_one (vs_set (i := 4) sc__law_table.nd rfl (.inl rfl) (by decide) (vo_x (vx_val 6 (pv 6)))))
    vss_nil)))
    (vss_cons (vs_if (vt_cmp o2_ge (vx_var 4 (pv 4)) (vx_c pe_int (fun _ => .int _)) (nomark _))
    (vss_cons (vs_set (i := 7) sc__law_table.nd rfl (.inr rfl) (by decide) (vo_ixS 0 (hu_of hr) (pv 0) (vx_var 4 (pv 4))))
    (vss_one (vs_for PassesOwn.never rfl (vi_range1 (by rfl) T.n_range (va_cons (vx_o (vo_op o2_shl (vx_c pe_int (fun _ => .int _)) (vx_o (vo_lenS 7 (by rfl) T.n_len (pv 7))))) va_nil)) (vg_name sc__law_table.nd rfl (.inr rfl) (by decide))
    (vss_cons (vs_setLc (i := 8) (own := [("box", 9), ("sign", 10)]) rfl sc__law_table.nd rfl rfl (by decide) (sw_true rfl rfl rfl (by decide +kernel)) (vi_seq (vx_val 3 (pv 3))) (blkOk_by (by kernel_rfl)) (fun _ _ _ _ _ => (vg_tup rfl (vgs_cons (vg_name sc__law_table.nd rfl (.inl rfl) (by decide)) (vgs_cons (vg_name sc__law_table.nd rfl (.inl rfl) (by decide)) vgs_nil)))) (by decide) (fun _ _ _ _ _ => (vts_one (vt_cmp (o2_eq (r64 hr)) (vx_o (vo_cmp (o2_eq (r64 hr)) (vx_o (vo_op o2_and (vx_o (vo_op o2_shr (vx_var 6 (pv 6)) (vx_o (vo_index (r65 hr) (vx_var 7 (pv 7)) (vx_var 9 (pv 9)))))) (vx_c pe_int (fun _ => .int _)))) (vx_c pe_int (fun _ => .int _)) (nomark _))) (vx_var 10 (pv 10)) (nomark _)))) (fun _ _ _ _ _ => (vx_val 9 (pv 9))))
    (vss_one (vs_if (vt_cmp (o2_eq (r64 hr)) (vx_o (vo_lenS 8 (by rfl) T.n_len (pv 8))) (vx_c pe_int (fun _ => .int _)) (nomark _))
    (vss_one (vs_set (i := 5) sc__law_table.nd rfl (.inl rfl) (by decide) (vo_op o2_or (vx_var 5 (pv 5)) (vx_o (vo_op o2_shl (vx_c pe_int (fun _ => .int _)) (vx_var 6 (pv 6)))))))
    vss_nil))))))
    vss_nil)
    (vss_one (vs_expr (vo_app false 2 (pv 2) (vo_tup (va_cons (vx_val 4 (pv 4)) (va_cons (vx_val 5 (pv 5)) va_nil)))))))))))
    (vss_one (vs_ret (vo_mv 2 (pv 2)))))) : PSs (cxOf CX0 P w K mg base _ _ _ T.f__law_table cdv A outer s H E).nox _ (lS K false τ__law_table))) rd__law_table
theorem ok__law_follows (T : Txt K mg) : FnOk P w K mg base CX0 1 T.f__law_follows T.fd__law_follows ["groups", "table", "at"] (toSp0 K wp__law_follows) :=
  vfn0 (τ := τ__law_follows) T.F__law_follows sc__law_follows len__law_follows (fun cdv A outer s H E hr => ((vss_cons (vs_set (i := 3) sc__law_follows.nd rfl (.inl rfl) (by decide) (vo_op o2_mul (vx_o (vo_lst (va_cons (vx_c pe_int (fun _ => .int _)) va_nil))) (vx_o (vo_lenS 0 (by rfl) T.n_len (pv 0)))))
    (vss_cons (vs_for PassesOwn.never rfl (vi_range1 (by rfl) T.n_range (va_cons (vx_o (vo_lenS 1 (by rfl) T.n_len (pv 1))) va_nil)) (vg_name sc__law_follows.nd rfl (.inl rfl) (by decide))
    (vss_cons (vs_asg (vx_o (vo_ixS 1 (hu_of hr) (pv 1) (vx_var 4 (pv 4)))) (vg_tup rfl (vgs_cons (vg_name sc__law_follows.nd rfl (.inl rfl) (by decide)) (vgs_cons (vg_name sc__law_follows.nd rfl (.inl rfl) (by decide)) vgs_nil))))
    (vss_cons (vs_if (PW.pt (vw_and (vt_cmp (o2_ne (r64 hr)) (vx_var 4 (pv 4)) (vx_var 2 (pv 2)) (nomark _)) (vw_and1 (vt_cmp o2_lt (vx_var 5 (pv 5)) (vx_c pe_int (fun _ => .int _)) (nomark _)))))
    (vss_one (vs_ret (vo_x (vx_c pe_bl (fun _ => .bl _)))))
    vss_nil)
    (vss_one (vs_if (vt_cmp (o2_ne (r64 hr)) (vx_var 4 (pv 4)) (vx_var 2 (pv 2)) (nomark _))
    (vss_one (vs_alt 3 (vs_dput 3 (hu_of hr) (pv 3) (vx_val 5 (pv 5)) (vx_o (vo_op o2_or (vx_o (vo_ixS 3 (hu_of hr) (pv 3) (vx_var 5 (pv 5)))) (vx_var 6 (pv 6))))) (vs_put 3 (pv 3) (vx_val 5 (pv 5)) (vo_op o2_or (vx_o (vo_ixS 3 (hu_of hr) (pv 3) (vx_var 5 (pv 5)))) (vx_var 6 (pv 6))))))
    vss_nil)))))
    (vss_cons (vs_for PassesOwn.never rfl (vi_range1 (by rfl) T.n_range (va_cons (vx_o (vo_lenS 0 (by rfl) T.n_len (pv 0))) va_nil)) (vg_name sc__law_follows.nd rfl (.inl rfl) (by decide))
    (vss_one (vs_if (vt_cmp (o2_eq (r64 hr)) (vx_o (vo_ixS 3 (hu_of hr) (pv 3) (vx_var 4 (pv 4)))) (vx_o (vo_op o2_sub (vx_o (vo_op o2_shl (vx_c pe_int (fun _ => .int _)) (vx_o (vo_op o2_shl (vx_c pe_int (fun _ => .int _)) (vx_o (vo_cb cd_len (by rfl) T.n_len (by decide +kernel) (va_cons (vx_o (vo_ixS 0 (hu_of hr) (pv 0) (vx_var 4 (pv 4)))) va_nil))))))) (vx_c pe_int (fun _ => .int _)))) (nomark _))
    (vss_one (vs_ret (vo_x (vx_c pe_bl (fun _ => .bl _)))))
    vss_nil)))
    (vss_cons (vs_asg (vx_o (vo_ixS 1 (hu_of hr) (pv 1) (vx_var 2 (pv 2)))) (vg_tup rfl (vgs_cons (vg_name sc__law_follows.nd rfl (.inl rfl) (by decide)) (vgs_cons (vg_name sc__law_follows.nd rfl (.inl rfl) (by decide)) vgs_nil))))
    (vss_one (vs_ret (vo_and (vo_cmp o2_ge (vx_var 5 (pv 5)) (vx_c pe_int (fun _ => .int _)) (nomark _)) (vo_one (vo_cmp (o2_eq (r64 hr)) (vx_o (vo_op o2_or (vx_var 6 (pv 6)) (vx_o (vo_ixS 3 (hu_of hr) (pv 3) (vx_var 5 (pv 5)))))) (vx_o (vo_ixS 3 (hu_of hr) (pv 3) (vx_var 5 (pv 5)))) (nomark _)))))))))) : PSs (cxOf CX0 P w K mg base _ _ _ T.f__law_follows cdv A outer s H E).nox _ (lS K false τ__law_follows))) rd__law_follows
theorem ok__law_due (T : Txt K mg) : FnOk P w K mg base CX0 2 T.f__law_due T.fd__law_due ["groups", "table"] (toSp0 K wp__law_due) :=
  vfn0 (τ := τ__law_due) T.F__law_due sc__law_due len__law_due (fun cdv A outer s H E hr => ((vss_one (vs_ret (vo_lc (own := [("at", 2)]) rfl sc__law_due.nd (vi_range1 (by rfl) T.n_range (va_cons (vx_o (vo_lenS 1 (by rfl) T.n_len (pv 1))) va_nil)) (blkOk_by (by kernel_rfl)) (fun _ _ _ _ _ => (vg_name sc__law_due.nd rfl (.inl rfl) (by decide))) (by decide) (fun _ _ _ _ _ => (vts_one (vt_tru (vx_o (vo_callB (ok__law_follows T) (hr.mono (by decide)) (by rfl) T.g__law_follows T.F__law_follows.kp (b__law_follows T) .nil (fun _ => .nil) (va_cons (vx_var 0 (pv 0)) (va_cons (vx_var 1 (pv 1)) (va_cons (vx_var 2 (pv 2)) va_nil)))))))) (fun _ _ _ _ _ => (vx_val 2 (pv 2)))))) : PSs (cxOf CX0 P w K mg base _ _ _ T.f__law_due cdv A outer s H E).nox _ (lS K false τ__law_due))) rd__law_due
theorem ok__law_lean (T : Txt K mg) : FnOk P w K mg base CX0 2 T.f__law_lean T.fd__law_lean ["groups", "rules"] (toSp0 K wp__law_lean) :=
  vfn0 (τ := τ__law_lean) T.F__law_lean sc__law_lean len__law_lean (fun cdv A outer s H E hr => ((vss_cons (vs_set (i := 2) sc__law_lean.nd rfl (.inl rfl) (by decide) (vo_cty cd_list (by rfl) T.n_list (by decide +kernel) (va_cons (vx_var 1 (pv 1)) va_nil)))
    (vss_cons (vs_set (i := 3) sc__law_lean.nd rfl (.inl rfl) (by decide) (vo_call (ok__law_table T) (hr.mono (by decide)) (by rfl) T.g__law_table T.F__law_table.kp (b__law_table T) .nil (fun _ => .nil) (va_cons (vx_val 0 (pv 0)) (va_cons (vx_val 1 (pv 1)) va_nil))))
    (vss_cons (vs_for PassesOwn.never rfl (vi_range1 (by rfl) T.n_range (va_cons (vx_o (vo_lenS 1 (by rfl) T.n_len (pv 1))) va_nil)) (vg_name sc__law_lean.nd rfl (.inl rfl) (by decide))
    (vss_cons (vs_set (i := 5) sc__law_lean.nd rfl (.inl rfl) (by decide) (vo_x (vx_c pe_int (fun _ => .int _))))
    (vss_cons (vs_while PassesOwn.never (PW.pt (vw_and (vt_cmp o2_lt (vx_var 5 (pv 5)) (vx_o (vo_lenS 2 (by rfl) T.n_len (pv 2))) (nomark _)) (vw_and1 (vt_not (vt_tru (vx_o (vo_callB (ok__law_follows T) (hr.mono (by decide)) (by rfl) T.g__law_follows T.F__law_follows.kp (b__law_follows T) .nil (fun _ => .nil) (va_cons (vx_var 0 (pv 0)) (va_cons (vx_var 3 (pv 3)) (va_cons (vx_var 5 (pv 5)) va_nil))))))))))
    (vss_one (vs_set (i := 5) sc__law_lean.nd rfl (.inl rfl) (by decide) (vo_op o2_add (vx_var 5 (pv 5)) (vx_c pe_int (fun _ => .int _))))))
    (vss_cons (vs_if (vt_cmp (o2_eq (r64 hr)) (vx_var 5 (pv 5)) (vx_o (vo_lenS 2 (by rfl) T.n_len (pv 2))) (nomark _))
    (vss_one vs_break)
    vss_nil)
    (vss_cons (vs_expr (vo_sm 2 PySem.F.slot_list_pop PySem.F.type_list_pop sm_popAt (pv 2) (va_cons (vx_val 5 (pv 5)) va_nil)))
    (vss_one (vs_expr (vo_sm 3 PySem.F.slot_list_pop PySem.F.type_list_pop sm_popAt (pv 3) (va_cons (vx_val 5 (pv 5)) va_nil)))))))))
    (vss_one (vs_ret (vo_mv 2 (pv 2))))))) : PSs (cxOf CX0 P w K mg base _ _ _ T.f__law_lean cdv A outer s H E).nox _ (lS K false τ__law_lean))) rd__law_lean
theorem ok__law_same (T : Txt K mg) : FnOk P w K mg base CX0 1 T.f__law_same T.fd__law_same ["told", "due"] (toSp0 K wp__law_same) :=
  vfn0 (τ := τ__law_same) T.F__law_same sc__law_same len__law_same (fun cdv A outer s H E hr => ((vss_cons (vs_set (i := 2) sc__law_same.nd rfl (.inl rfl) (by decide) (vo_lst (va_cons (vx_o (vo_tup (va_cons (vx_val 0 (pv 0)) (va_cons (vx_val 1 (pv 1)) va_nil)))) va_nil)))
    (vss_cons (vs_while PassesOwn.never (vt_tru (vx_var 2 (pv 2)))
    (vss_cons (vs_asg (vx_o (vo_pop 2 (pv 2))) (vg_tup rfl (vgs_cons (vg_name sc__law_same.nd rfl (.inr rfl) (by decide)) (vgs_cons (vg_name sc__law_same.nd rfl (.inr rfl) (by decide)) vgs_nil))))
    (vss_one (vs_if (vt_tru (vx_o (vo_isi (by rfl) T.n_isinstance (by rfl) T.n_tuple (by decide +kernel) (vx_var 4 (pv 4)))))
    (vss_cons (vs_if (PW.pt (vw_or (vt_not (vt_tru (vx_o (vo_isi (by rfl) T.n_isinstance (by rfl) T.n_tuple (by decide +kernel) (vx_var 3 (pv 3)))))) (vw_or1 (vt_cmp (o2_ne (r64 hr)) (vx_o (vo_lenS 3 (by rfl) T.n_len (pv 3))) (vx_o (vo_lenS 4 (by rfl) T.n_len (pv 4))) (nomark _)))))
    (vss_one (vs_ret (vo_x (vx_c pe_bl (fun _ => .bl _)))))
    vss_nil)
    (vss_one (vs_set (i := 2) sc__law_same.nd rfl (.inl rfl) (by decide) (vo_op o2_add (vx_var 2 (pv 2)) (vx_o (vo_lc (own := [("at", 5)]) rfl sc__law_same.nd (vi_range1 (by rfl) T.n_range (va_cons (vx_o (vo_lenS 4 (by rfl) T.n_len (pv 4))) va_nil)) (blkOk_by (by kernel_rfl)) (fun _ _ _ _ _ => (vg_name sc__law_same.nd rfl (.inl rfl) (by decide))) (by decide) (fun _ _ _ _ _ => vts_nil) (fun _ _ _ _ _ => (vx_o (vo_tup (va_cons (vx_o (vo_ixS 3 (hu_of hr) (pv 3) (vx_var 5 (pv 5)))) (va_cons (vx_o (vo_ixS 4 (hu_of hr) (pv 4) (vx_var 5 (pv 5)))) va_nil)))))))))))
    (vss_one (vs_if (vt_tru (vx_o (vo_isi (by rfl) T.n_isinstance (by rfl) T.n_bool (by decide +kernel) (vx_var 4 (pv 4)))))
    (vss_one (vs_if (PW.pt (vw_or (vt_not (vt_tru (vx_o (vo_isi (by rfl) T.n_isinstance (by rfl) T.n_bool (by decide +kernel) (vx_var 3 (pv 3)))))) (vw_or1 (vt_cmp (o2_ne (r64 hr)) (vx_var 3 (pv 3)) (vx_var 4 (pv 4)) (nomark _)))))
    (vss_one (vs_ret (vo_x (vx_c pe_bl (fun _ => .bl _)))))
    vss_nil))
    (vss_one (vs_if (PW.pt (vw_or (vt_not (vt_tru (vx_o (vo_isi (by rfl) T.n_isinstance (by rfl) T.n_int (by decide +kernel) (vx_var 3 (pv 3)))))) (vw_or (vt_tru (vx_o (vo_isi (by rfl) T.n_isinstance (by rfl) T.n_bool (by decide +kernel) (vx_var 3 (pv 3))))) (vw_or1 (vt_cmp (o2_ne (r64 hr)) (vx_var 3 (pv 3)) (vx_var 4 (pv 4)) (nomark _))))))
    (vss_one (vs_ret (vo_x (vx_c pe_bl (fun _ => .bl _)))))
    vss_nil))))))))
    (vss_one (vs_ret (vo_x (vx_c pe_bl (fun _ => .bl _))))))) : PSs (cxOf CX0 P w K mg base _ _ _ T.f__law_same cdv A outer s H E).nox _ (lS K false τ__law_same))) rd__law_same
theorem ok__law_asked (T : Txt K mg) : FnOk P w K mg base CX0 9 T.f__law_asked T.fd__law_asked ["groups", "sheet"] (toSp0 K wp__law_asked) :=
  vfn0 (τ := τ__law_asked) T.F__law_asked sc__law_asked len__law_asked (fun cdv A outer s H E hr => ((vss_cons (vs_if (vt_not (vt_tru (vx_o (vo_call (ok__law_same T) (hr.mono (by decide)) (by rfl) T.g__law_same T.F__law_same.kp (b__law_same T) .nil (fun _ => .nil) (va_cons (vx_o (vo_call (ok_idle_rules T) (hr.mono (by decide)) (by rfl) T.g_idle_rules T.F_idle_rules.kp (b_idle_rules T) .nil (fun _ => .nil) (va_cons (vx_val 1 (pv 1)) va_nil))) (va_cons (vx_o (vo_cty cd_tuple (by rfl) T.n_tuple (by decide +kernel) (va_cons (vx_o (vo_call (ok__law_due T) (hr.mono (by decide)) (by rfl) T.g__law_due T.F__law_due.kp (b__law_due T) .nil (fun _ => .nil) (va_cons (vx_val 0 (pv 0)) (va_cons (vx_o (vo_call (ok__law_table T) (hr.mono (by decide)) (by rfl) T.g__law_table T.F__law_table.kp (b__law_table T) .nil (fun _ => .nil) (va_cons (vx_val 0 (pv 0)) (va_cons (vx_o (vo_ixS 1 (hu_of hr) (pv 1) (vx_c pe_int (fun _ => .int _)))) va_nil)))) va_nil)))) va_nil))) va_nil))))))
    (vss_one (vs_ret (vo_x (vx_c pe_bl (fun _ => .bl _)))))
    vss_nil)
    (vss_cons (vs_set (i := 2) sc__law_asked.nd rfl (.inl rfl) (by decide) (vo_tup (va_cons (vx_o (vo_ixS 1 (hu_of hr) (pv 1) (vx_c pe_int (fun _ => .int _)))) (va_cons (vx_o (vo_cty cd_tuple (by rfl) T.n_tuple (by decide +kernel) (va_cons (vx_o (vo_call (ok__law_lean T) (hr.mono (by decide)) (by rfl) T.g__law_lean T.F__law_lean.kp (b__law_lean T) .nil (fun _ => .nil) (va_cons (vx_val 0 (pv 0)) (va_cons (vx_o (vo_ixS 1 (hu_of hr) (pv 1) (vx_c pe_int (fun _ => .int _)))) va_nil)))) va_nil))) va_nil))))
    (vss_cons (vs_if (vt_not (vt_tru (vx_o (vo_call (ok__law_same T) (hr.mono (by decide)) (by rfl) T.g__law_same T.F__law_same.kp (b__law_same T) .nil (fun _ => .nil) (va_cons (vx_o (vo_call (ok_lean_sheet T) (hr.mono (by decide)) (by rfl) T.g_lean_sheet T.F_lean_sheet.kp (b_lean_sheet T) .nil (fun _ => .nil) (va_cons (vx_val 1 (pv 1)) va_nil))) (va_cons (vx_val 2 (pv 2)) va_nil))))))
    (vss_one (vs_ret (vo_x (vx_c pe_bl (fun _ => .bl _)))))
    vss_nil)
    (vss_one (vs_ret (vo_call (ok__law_same T) (hr.mono (by decide)) (by rfl) T.g__law_same T.F__law_same.kp (b__law_same T) .nil (fun _ => .nil) (va_cons (vx_o (vo_tup (va_cons (vx_o (vo_call (ok_idle_rules T) (hr.mono (by decide)) (by rfl) T.g_idle_rules T.F_idle_rules.kp (b_idle_rules T) .nil (fun _ => .nil) (va_cons (vx_val 2 (pv 2)) va_nil))) (va_cons (vx_o (vo_call (ok_lean_sheet T) (hr.mono (by decide)) (by rfl) T.g_lean_sheet T.F_lean_sheet.kp (b_lean_sheet T) .nil (fun _ => .nil) (va_cons (vx_val 2 (pv 2)) va_nil))) va_nil)))) (va_cons (vx_o (vo_tup (va_cons (vx_o (vo_tup va_nil)) (va_cons (vx_val 2 (pv 2)) va_nil)))) va_nil)))))))) : PSs (cxOf CX0 P w K mg base _ _ _ T.f__law_asked cdv A outer s H E).nox _ (lS K false τ__law_asked))) rd__law_asked
theorem ok__law_small (T : Txt K mg) : FnOk P w K mg base CX0 10 T.f__law_small T.fd__law_small ["crate"] (toSp1 K wp__law_small) :=
  vfn1 (τ := τ__law_small) T.F__law_small sc__law_small len__law_small (fun cdv A outer s H E hr => ((vss_cons (vs_set (i := 1) sc__law_small.nd rfl (.inl rfl) (by decide) (vo_op o2_add (vx_c pe_int (fun _ => .int _)) (vx_o (vo_callI (ok__law_lift T) (hr.mono (by decide)) (by rfl) T.g__law_lift T.F__law_lift.kp (b__law_lift T) .nil (fun _ => .nil) (va_cons (vx_var 0 (pv 0)) (va_cons (vx_c pe_int (fun _ => .int _)) (va_cons (vx_c pe_int (fun _ => .int _)) va_nil)))))))
    (vss_cons (vs_if (vt_cmp (o2_eq (r64 hr)) (vx_o (vo_callI (ok__law_lift T) (hr.mono (by decide)) (by rfl) T.g__law_lift T.F__law_lift.kp (b__law_lift T) .nil (fun _ => .nil) (va_cons (vx_var 0 (pv 0)) (va_cons (vx_c pe_int (fun _ => .int _)) (va_cons (vx_c pe_int (fun _ => .int _)) va_nil))))) (vx_c pe_int (fun _ => .int _)) (nomark _))
    (vss_one (vs_set (i := 1) sc__law_small.nd rfl (.inl rfl) (by decide) (vo_x (vx_c pe_int (fun _ => .int _)))))
    vss_nil)
    (vss_cons (vs_set (i := 2) sc__law_small.nd rfl (.inl rfl) (by decide) (vo_listRg1 rfl (by rfl) T.n_list (by rfl) T.n_range (vx_var 1 (pv 1))))
    (vss_cons (vs_set (i := 3) sc__law_small.nd rfl (.inl rfl) (by decide) (vo_callI (ok__law_made T) (hr.mono (by decide)) (by rfl) T.g__law_made T.F__law_made.kp (b__law_made T) .nil (fun _ => .nil) (va_cons (vx_var 0 (pv 0)) (va_cons (vx_val 2 (pv 2)) va_nil))))
    (vss_cons (vs_if (vt_not (vt_tru (vx_o (vo_call (ok__law_asked T) (hr.mono (by decide)) (by rfl) T.g__law_asked T.F__law_asked.kp (b__law_asked T) .nil (fun _ => .nil) (va_cons (vx_o (vo_lst (va_cons (vx_val 2 (pv 2)) va_nil))) (va_cons (vx_o (vo_tup (va_cons (vx_val 1 (pv 1)) (va_cons (vx_o (vo_cty cd_tuple (by rfl) T.n_tuple (by decide +kernel) (va_cons (vx_var 3 (pv 3)) va_nil))) va_nil)))) va_nil))))))
    (vss_one (vs_ret (vo_x (vx_c pe_bl (fun _ => .bl _)))))
    vss_nil)
    (vss_one (vs_ret (vo_call (ok__law_asked T) (hr.mono (by decide)) (by rfl) T.g__law_asked T.F__law_asked.kp (b__law_asked T) .nil (fun _ => .nil) (va_cons (vx_o (vo_lst (va_cons (vx_val 2 (pv 2)) va_nil))) (va_cons (vx_o (vo_tup (va_cons (vx_val 1 (pv 1)) (va_cons (vx_o (vo_cty cd_tuple (by rfl) T.n_tuple (by decide +kernel) (va_cons (vx_o (vo_rev (vx_var 3 (pv 3)))) va_nil))) va_nil)))) va_nil)))))))))) : PSs (cxOf CX0 P w K mg base _ _ _ T.f__law_small cdv A outer s H E).nox _ (lS K true τ__law_small))) rd__law_small
theorem ok__law_wide (T : Txt K mg) : FnOk P w K mg base CX0 10 T.f__law_wide T.fd__law_wide ["crate"] (toSp1 K wp__law_wide) :=
  vfn1 (τ := τ__law_wide) T.F__law_wide sc__law_wide len__law_wide (fun cdv A outer s H E hr => ((vss_cons (vs_set (i := 1) sc__law_wide.nd rfl (.inr rfl) (by decide) (vo_callI (ok__law_tossed T) (hr.mono (by decide)) (by rfl) T.g__law_tossed T.F__law_tossed.kp (b__law_tossed T) .nil (fun _ => .nil) (va_cons (vx_var 0 (pv 0)) (va_cons (vx_o (vo_listRg1 rfl (by rfl) T.n_list (by rfl) T.n_range (vx_c pe_int (fun _ => .int _)))) va_nil))))
    (vss_cons (vs_setLc (i := 2) (own := [("k", 6)]) rfl sc__law_wide.nd rfl rfl (by decide) (sw_true rfl rfl rfl (by decide +kernel)) (vi_range1 (by rfl) T.n_range (va_cons (vx_c pe_int (fun _ => .int _)) va_nil)) (blkOk_by (by kernel_rfl)) (fun _ _ _ _ _ => (vg_name sc__law_wide.nd rfl (.inl rfl) (by decide))) (by decide) (fun _ _ _ _ _ => vts_nil) (fun _ _ _ _ _ => (vx_o (vo_cb (cd_sortedA (r64 hr)) (by rfl) T.n_sorted (by decide +kernel) (va_cons (vx_o (vo_sl (vx_var 1 (pv 1)) (vp_some (vx_o (vo_op o2_mul (vx_c pe_int (fun _ => .int _)) (vx_var 6 (pv 6))))) (vp_some (vx_o (vo_op o2_add (vx_o (vo_op o2_mul (vx_c pe_int (fun _ => .int _)) (vx_var 6 (pv 6)))) (vx_c pe_int (fun _ => .int _))))))) va_nil)))))
    (vss_cons (vs_set (i := 3) sc__law_wide.nd rfl (.inl rfl) (by decide) (vo_lst va_nil))
    (vss_cons (vs_for PassesOwn.never rfl (vi_seq (vx_val 2 (pv 2))) (vg_name sc__law_wide.nd rfl (.inr rfl) (by decide))
    (vss_cons (vs_setLc (i := 5) (own := [("rule", 7)]) rfl sc__law_wide.nd rfl rfl (by decide) (sw_true rfl rfl rfl (by decide +kernel)) (vi_seq (vx_o (vo_op o2_add (vx_o (vo_callI (ok__law_made T) (hr.mono (by decide)) (by rfl) T.g__law_made T.F__law_made.kp (b__law_made T) .nil (fun _ => .nil) (va_cons (vx_var 0 (pv 0)) (va_cons (vx_val 4 (pv 4)) va_nil)))) (vx_o (vo_sl (vx_o (vo_callI (ok__law_made T) (hr.mono (by decide)) (by rfl) T.g__law_made T.F__law_made.kp (b__law_made T) .nil (fun _ => .nil) (va_cons (vx_var 0 (pv 0)) (va_cons (vx_val 4 (pv 4)) va_nil)))) vp_none (vp_some (vx_c pe_int (fun _ => .int _)))))))) (blkOk_by (by kernel_rfl)) (fun _ _ _ _ _ => (vg_name sc__law_wide.nd rfl (.inl rfl) (by decide))) (by decide) (fun _ _ _ _ _ => (vts_one (vt_cmp o2_gt (vx_o (vo_lenS 7 (by rfl) T.n_len (pv 7))) (vx_c pe_int (fun _ => .int _)) (nomark _)))) (fun _ _ _ _ _ => (vx_val 7 (pv 7))))
    (vss_cons (vs_if (vt_cmp (o2_eq (r64 hr)) (vx_var 4 (pv 4)) (vx_o (vo_ixS 2 (hu_of hr) (pv 2) (vx_c pe_int (fun _ => .int _)))) (nomark _))
    (vss_one (vs_set (i := 5) sc__law_wide.nd rfl (.inl rfl) (by decide) (vo_op o2_add (vx_o (vo_call (ok__law_fours T) (hr.mono (by decide)) (by rfl) T.g__law_fours T.F__law_fours.kp (b__law_fours T) .nil (fun _ => .nil) (va_cons (vx_o (vo_lc (own := [("box", 8)]) rfl sc__law_wide.nd (vi_seq (vx_o (vo_callI (ok__law_tossed T) (hr.mono (by decide)) (by rfl) T.g__law_tossed T.F__law_tossed.kp (b__law_tossed T) .nil (fun _ => .nil) (va_cons (vx_var 0 (pv 0)) (va_cons (vx_val 4 (pv 4)) va_nil))))) (blkOk_by (by kernel_rfl)) (fun _ _ _ _ _ => (vg_name sc__law_wide.nd rfl (.inl rfl) (by decide))) (by decide) (fun _ _ _ _ _ => vts_nil) (fun _ _ _ _ _ => (vx_o (vo_tup (va_cons (vx_val 8 (pv 8)) (va_cons (vx_o (vo_cmp (o2_eq (r64 hr)) (vx_o (vo_callI (ok__law_lift T) (hr.mono (by decide)) (by rfl) T.g__law_lift T.F__law_lift.kp (b__law_lift T) .nil (fun _ => .nil) (va_cons (vx_var 0 (pv 0)) (va_cons (vx_c pe_int (fun _ => .int _)) (va_cons (vx_c pe_int (fun _ => .int _)) va_nil))))) (vx_c pe_int (fun _ => .int _)) (nomark _))) va_nil))))))) va_nil))) (vx_o (vo_sl (vx_var 5 (pv 5)) vp_none (vp_some (vx_c pe_int (fun _ => .int _))))))))
    vss_nil)
    (vss_cons (vs_if (PW.pt (vw_and (vt_cmp o2_gt (vx_o (vo_callI (ok__law_lift T) (hr.mono (by decide)) (by rfl) T.g__law_lift T.F__law_lift.kp (b__law_lift T) .nil (fun _ => .nil) (va_cons (vx_var 0 (pv 0)) (va_cons (vx_c pe_int (fun _ => .int _)) (va_cons (vx_c pe_int (fun _ => .int _)) va_nil))))) (vx_c pe_int (fun _ => .int _)) (nomark _)) (vw_and1 (vt_tru (vx_o (vo_callB (ok__law_follows T) (hr.mono (by decide)) (by rfl) T.g__law_follows T.F__law_follows.kp (b__law_follows T) .nil (fun _ => .nil) (va_cons (vx_o (vo_lst (va_cons (vx_val 4 (pv 4)) va_nil))) (va_cons (vx_o (vo_call (ok__law_table T) (hr.mono (by decide)) (by rfl) T.g__law_table T.F__law_table.kp (b__law_table T) .nil (fun _ => .nil) (va_cons (vx_o (vo_lst (va_cons (vx_val 4 (pv 4)) va_nil))) (va_cons (vx_o (vo_op o2_add (vx_var 5 (pv 5)) (vx_o (vo_lst (va_cons (vx_o (vo_tup va_nil)) va_nil))))) va_nil)))) (va_cons (vx_o (vo_lenS 5 (by rfl) T.n_len (pv 5))) va_nil)))))))))
    (vss_one (vs_set (i := 5) sc__law_wide.nd rfl (.inl rfl) (by decide) (vo_op o2_add (vx_o (vo_lc (own := [("k", 6)]) rfl sc__law_wide.nd (vi_range1 (by rfl) T.n_range (va_cons (vx_c pe_int (fun _ => .int _)) va_nil)) (blkOk_by (by kernel_rfl)) (fun _ _ _ _ _ => (vg_name sc__law_wide.nd rfl (.inl rfl) (by decide))) (by decide) (fun _ _ _ _ _ => vts_nil) (fun _ _ _ _ _ => (vx_o (vo_call (ok__law_rule T) (hr.mono (by decide)) (by rfl) T.g__law_rule T.F__law_rule.kp (b__law_rule T) .nil (fun _ => .nil) (va_cons (vx_o (vo_lst (va_cons (vx_o (vo_tup (va_cons (vx_o (vo_ixS 4 (hu_of hr) (pv 4) (vx_o (vo_op o2_sub (vx_var 6 (pv 6)) (vx_c pe_int (fun _ => .int _)))))) (va_cons (vx_c pe_bl (fun _ => .bl _)) va_nil)))) (va_cons (vx_o (vo_tup (va_cons (vx_o (vo_ixS 4 (hu_of hr) (pv 4) (vx_var 6 (pv 6)))) (va_cons (vx_c pe_bl (fun _ => .bl _)) va_nil)))) va_nil)))) va_nil)))))) (vx_o (vo_lst (va_cons (vx_o (vo_tup (va_cons (vx_o (vo_tup (va_cons (vx_o (vo_ixS 4 (hu_of hr) (pv 4) (vx_c pe_int (fun _ => .int _)))) (va_cons (vx_c pe_bl (fun _ => .bl _)) va_nil)))) (va_cons (vx_o (vo_tup (va_cons (vx_o (vo_ixS 4 (hu_of hr) (pv 4) (vx_c pe_int (fun _ => .int _)))) (va_cons (vx_c pe_bl (fun _ => .bl _)) va_nil)))) va_nil)))) (va_cons (vx_o (vo_tup (va_cons (vx_o (vo_tup (va_cons (vx_o (vo_ixS 4 (hu_of hr) (pv 4) (vx_c pe_int (fun _ => .int _)))) (va_cons (vx_c pe_bl (fun _ => .bl _)) va_nil)))) va_nil))) (va_cons (vx_o (vo_tup (va_cons (vx_o (vo_tup (va_cons (vx_o (vo_ixS 4 (hu_of hr) (pv 4) (vx_c pe_int (fun _ => .int _)))) (va_cons (vx_c pe_bl (fun _ => .bl _)) va_nil)))) va_nil))) va_nil))))))))
    vss_nil)
    (vss_one (vs_set (i := 3) sc__law_wide.nd rfl (.inl rfl) (by decide) (vo_op o2_add (vx_var 3 (pv 3)) (vx_var 5 (pv 5)))))))))
    (vss_one (vs_ret (vo_call (ok__law_asked T) (hr.mono (by decide)) (by rfl) T.g__law_asked T.F__law_asked.kp (b__law_asked T) .nil (fun _ => .nil) (va_cons (vx_val 2 (pv 2)) (va_cons (vx_o (vo_tup (va_cons (vx_c pe_int (fun _ => .int _)) (va_cons (vx_o (vo_cty cd_tuple (by rfl) T.n_tuple (by decide +kernel) (va_cons (vx_o (vo_sl (vx_o (vo_callI (ok__law_tossed T) (hr.mono (by decide)) (by rfl) T.g__law_tossed T.F__law_tossed.kp (b__law_tossed T) .nil (fun _ => .nil) (va_cons (vx_var 0 (pv 0)) (va_cons (vx_val 3 (pv 3)) va_nil)))) vp_none (vp_some (vx_c pe_int (fun _ => .int _))))) va_nil))) va_nil)))) va_nil))))))))) : PSs (cxOf CX0 P w K mg base _ _ _ T.f__law_wide cdv A outer s H E).nox _ (lS K true τ__law_wide))) rd__law_wide
theorem ok__law_by_hand (T : Txt K mg) : FnOk P w K mg base CX0 9 T.f__law_by_hand T.fd__law_by_hand [] (toSp0 K wp__law_by_hand) :=
  vfn0 (τ := τ__law_by_hand) T.F__law_by_hand sc__law_by_hand len__law_by_hand (fun cdv A outer s H E hr => ((vss_cons (vs_set (i := 0) sc__law_by_hand.nd rfl (.inl rfl) (by decide) (vo_tup (va_cons (vx_c pe_int (fun _ => .int _)) (va_cons (vx_o (vo_cty cd_tuple (by rfl) T.n_tuple (by decide +kernel) (va_cons (vx_o (vo_call (ok__law_fours T) (hr.mono (by decide)) (by rfl) T.g__law_fours T.F__law_fours.kp (b__law_fours T) .nil (fun _ => .nil) (va_cons (vx_o (vo_lst (va_cons (vx_o (vo_tup (va_cons (vx_c pe_int (fun _ => .int _)) (va_cons (vx_c pe_bl (fun _ => .bl _)) va_nil)))) (va_cons (vx_o (vo_tup (va_cons (vx_c pe_int (fun _ => .int _)) (va_cons (vx_c pe_bl (fun _ => .bl _)) va_nil)))) (va_cons (vx_o (vo_tup (va_cons (vx_c pe_int (fun _ => .int _)) (va_cons (vx_c pe_bl (fun _ => .bl _)) va_nil)))) va_nil))))) va_nil))) va_nil))) va_nil))))
    (vss_cons (vs_if (vt_not (vt_tru (vx_o (vo_call (ok__law_same T) (hr.mono (by decide)) (by rfl) T.g__law_same T.F__law_same.kp (b__law_same T) .nil (fun _ => .nil) (va_cons (vx_o (vo_tup (va_cons (vx_o (vo_call (ok_idle_rules T) (hr.mono (by decide)) (by rfl) T.g_idle_rules T.F_idle_rules.kp (b_idle_rules T) .nil (fun _ => .nil) (va_cons (vx_val 0 (pv 0)) va_nil))) (va_cons (vx_o (vo_call (ok_lean_sheet T) (hr.mono (by decide)) (by rfl) T.g_lean_sheet T.F_lean_sheet.kp (b_lean_sheet T) .nil (fun _ => .nil) (va_cons (vx_val 0 (pv 0)) va_nil))) va_nil)))) (va_cons (vx_o (vo_tup (va_cons (vx_o (vo_tup (va_cons (vx_c pe_int (fun _ => .int _)) (va_cons (vx_c pe_int (fun _ => .int _)) (va_cons (vx_c pe_int (fun _ => .int _)) (va_cons (vx_c pe_int (fun _ => .int _)) (va_cons (vx_c pe_int (fun _ => .int _)) va_nil))))))) (va_cons (vx_o (vo_tup (va_cons (vx_c pe_int (fun _ => .int _)) (va_cons (vx_o (vo_sl (vx_o (vo_ixS 0 (hu_of hr) (pv 0) (vx_c pe_int (fun _ => .int _)))) (vp_some (vx_c pe_int (fun _ => .int _))) vp_none)) va_nil)))) va_nil)))) va_nil))))))
    (vss_one (vs_ret (vo_x (vx_c pe_bl (fun _ => .bl _)))))
    vss_nil)
    (vss_cons (vs_set (i := 1) sc__law_by_hand.nd rfl (.inl rfl) (by decide) (vo_tup (va_cons (vx_c pe_int (fun _ => .int _)) (va_cons (vx_o (vo_tup (va_cons (vx_o (vo_tup (va_cons (vx_o (vo_tup (va_cons (vx_c pe_int (fun _ => .int _)) (va_cons (vx_c pe_bl (fun _ => .bl _)) va_nil)))) va_nil))) (va_cons (vx_o (vo_tup (va_cons (vx_o (vo_tup (va_cons (vx_c pe_int (fun _ => .int _)) (va_cons (vx_c pe_bl (fun _ => .bl _)) va_nil)))) (va_cons (vx_o (vo_tup (va_cons (vx_c pe_int (fun _ => .int _)) (va_cons (vx_c pe_bl (fun _ => .bl _)) va_nil)))) va_nil)))) va_nil)))) va_nil))))
    (vss_cons (vs_if (vt_not (vt_tru (vx_o (vo_call (ok__law_same T) (hr.mono (by decide)) (by rfl) T.g__law_same T.F__law_same.kp (b__law_same T) .nil (fun _ => .nil) (va_cons (vx_o (vo_tup (va_cons (vx_o (vo_call (ok_idle_rules T) (hr.mono (by decide)) (by rfl) T.g_idle_rules T.F_idle_rules.kp (b_idle_rules T) .nil (fun _ => .nil) (va_cons (vx_val 1 (pv 1)) va_nil))) (va_cons (vx_o (vo_call (ok_lean_sheet T) (hr.mono (by decide)) (by rfl) T.g_lean_sheet T.F_lean_sheet.kp (b_lean_sheet T) .nil (fun _ => .nil) (va_cons (vx_val 1 (pv 1)) va_nil))) va_nil)))) (va_cons (vx_o (vo_tup (va_cons (vx_o (vo_tup (va_cons (vx_c pe_int (fun _ => .int _)) va_nil))) (va_cons (vx_o (vo_tup (va_cons (vx_c pe_int (fun _ => .int _)) (va_cons (vx_o (vo_tup (va_cons (vx_o (vo_tup (va_cons (vx_o (vo_tup (va_cons (vx_c pe_int (fun _ => .int _)) (va_cons (vx_c pe_bl (fun _ => .bl _)) va_nil)))) va_nil))) va_nil))) va_nil)))) va_nil)))) va_nil))))))
    (vss_one (vs_ret (vo_x (vx_c pe_bl (fun _ => .bl _)))))
    vss_nil)
    (vss_cons (vs_set (i := 2) sc__law_by_hand.nd rfl (.inl rfl) (by decide) (vo_tup (va_cons (vx_c pe_int (fun _ => .int _)) (va_cons (vx_o (vo_tup (va_cons (vx_o (vo_tup (va_cons (vx_o (vo_tup (va_cons (vx_c pe_int (fun _ => .int _)) (va_cons (vx_c pe_bl (fun _ => .bl _)) va_nil)))) va_nil))) (va_cons (vx_o (vo_tup (va_cons (vx_o (vo_tup (va_cons (vx_c pe_int (fun _ => .int _)) (va_cons (vx_c pe_bl (fun _ => .bl _)) va_nil)))) va_nil))) va_nil)))) va_nil))))
    (vss_cons (vs_if (vt_not (vt_tru (vx_o (vo_call (ok__law_same T) (hr.mono (by decide)) (by rfl) T.g__law_same T.F__law_same.kp (b__law_same T) .nil (fun _ => .nil) (va_cons (vx_o (vo_tup (va_cons (vx_o (vo_callK0 (ok_idle_rules T) (hr.mono (by decide)) (by rfl) T.g_idle_rules T.F_idle_rules.kp (kb_idle_rules_0_sheet T) (vk_cons (vx_val 2 (pv 2)) vk_nil))) (va_cons (vx_o (vo_callK0 (ok_lean_sheet T) (hr.mono (by decide)) (by rfl) T.g_lean_sheet T.F_lean_sheet.kp (kb_lean_sheet_0_sheet T) (vk_cons (vx_val 2 (pv 2)) vk_nil))) va_nil)))) (va_cons (vx_o (vo_tup (va_cons (vx_o (vo_tup (va_cons (vx_c pe_int (fun _ => .int _)) (va_cons (vx_c pe_int (fun _ => .int _)) va_nil)))) (va_cons (vx_o (vo_tup (va_cons (vx_c pe_int (fun _ => .int _)) (va_cons (vx_o (vo_tup (va_cons (vx_o (vo_tup (va_cons (vx_o (vo_tup (va_cons (vx_c pe_int (fun _ => .int _)) (va_cons (vx_c pe_bl (fun _ => .bl _)) va_nil)))) va_nil))) va_nil))) va_nil)))) va_nil)))) va_nil))))))
    (vss_one (vs_ret (vo_x (vx_c pe_bl (fun _ => .bl _)))))
    vss_nil)
    (vss_cons (vs_set (i := 3) sc__law_by_hand.nd rfl (.inl rfl) (by decide) (vo_tup (va_cons (vx_c pe_int (fun _ => .int _)) (va_cons (vx_o (vo_tup (va_cons (vx_o (vo_tup (va_cons (vx_o (vo_tup (va_cons (vx_c pe_int (fun _ => .int _)) (va_cons (vx_c pe_bl (fun _ => .bl _)) va_nil)))) (va_cons (vx_o (vo_tup (va_cons (vx_c pe_int (fun _ => .int _)) (va_cons (vx_c pe_bl (fun _ => .bl _)) va_nil)))) va_nil)))) (va_cons (vx_o (vo_tup (va_cons (vx_o (vo_tup (va_cons (vx_c pe_int (fun _ => .int _)) (va_cons (vx_c pe_bl (fun _ => .bl _)) va_nil)))) (va_cons (vx_o (vo_tup (va_cons (vx_c pe_int (fun _ => .int _)) (va_cons (vx_c pe_bl (fun _ => .bl _)) va_nil)))) va_nil)))) (va_cons (vx_o (vo_tup (va_cons (vx_o (vo_tup (va_cons (vx_c pe_int (fun _ => .int _)) (va_cons (vx_c pe_bl (fun _ => .bl _)) va_nil)))) (va_cons (vx_o (vo_tup (va_cons (vx_c pe_int (fun _ => .int _)) (va_cons (vx_c pe_bl (fun _ => .bl _)) va_nil)))) va_nil)))) (va_cons (vx_o (vo_tup (va_cons (vx_o (vo_tup (va_cons (vx_c pe_int (fun _ => .int _)) (va_cons (vx_c pe_bl (fun _ => .bl _)) va_nil)))) (va_cons (vx_o (vo_tup (va_cons (vx_c pe_int (fun _ => .int _)) (va_cons (vx_c pe_bl (fun _ => .bl _)) va_nil)))) va_nil)))) va_nil)))))) va_nil))))
    (vss_cons (vs_if (vt_not (vt_tru (vx_o (vo_call (ok__law_same T) (hr.mono (by decide)) (by rfl) T.g__law_same T.F__law_same.kp (b__law_same T) .nil (fun _ => .nil) (va_cons (vx_o (vo_tup (va_cons (vx_o (vo_call (ok_idle_rules T) (hr.mono (by decide)) (by rfl) T.g_idle_rules T.F_idle_rules.kp (b_idle_rules T) .nil (fun _ => .nil) (va_cons (vx_val 3 (pv 3)) va_nil))) (va_cons (vx_o (vo_call (ok_lean_sheet T) (hr.mono (by decide)) (by rfl) T.g_lean_sheet T.F_lean_sheet.kp (b_lean_sheet T) .nil (fun _ => .nil) (va_cons (vx_val 3 (pv 3)) va_nil))) va_nil)))) (va_cons (vx_o (vo_tup (va_cons (vx_o (vo_tup (va_cons (vx_c pe_int (fun _ => .int _)) va_nil))) (va_cons (vx_o (vo_tup (va_cons (vx_c pe_int (fun _ => .int _)) (va_cons (vx_o (vo_tup (va_cons (vx_o (vo_ix ix2_any (vx_o (vo_ixS 3 (hu_of hr) (pv 3) (vx_c pe_int (fun _ => .int _)))) (vx_c pe_int (fun _ => .int _)))) (va_cons (vx_o (vo_ix ix2_any (vx_o (vo_ixS 3 (hu_of hr) (pv 3) (vx_c pe_int (fun _ => .int _)))) (vx_c pe_int (fun _ => .int _)))) (va_cons (vx_o (vo_ix ix2_any (vx_o (vo_ixS 3 (hu_of hr) (pv 3) (vx_c pe_int (fun _ => .int _)))) (vx_c pe_int (fun _ => .int _)))) va_nil))))) va_nil)))) va_nil)))) va_nil))))))
    (vss_one (vs_ret (vo_x (vx_c pe_bl (fun _ => .bl _)))))
    vss_nil)
    (vss_cons (vs_set (i := 4) sc__law_by_hand.nd rfl (.inl rfl) (by decide) (vo_tup (va_cons (vx_c pe_int (fun _ => .int _)) (va_cons (vx_o (vo_tup (va_cons (vx_o (vo_tup (va_cons (vx_o (vo_tup (va_cons (vx_c pe_int (fun _ => .int _)) (va_cons (vx_c pe_bl (fun _ => .bl _)) va_nil)))) (va_cons (vx_o (vo_tup (va_cons (vx_c pe_int (fun _ => .int _)) (va_cons (vx_c pe_bl (fun _ => .bl _)) va_nil)))) va_nil)))) (va_cons (vx_o (vo_tup (va_cons (vx_o (vo_tup (va_cons (vx_c pe_int (fun _ => .int _)) (va_cons (vx_c pe_bl (fun _ => .bl _)) va_nil)))) (va_cons (vx_o (vo_tup (va_cons (vx_c pe_int (fun _ => .int _)) (va_cons (vx_c pe_bl (fun _ => .bl _)) va_nil)))) va_nil)))) va_nil)))) va_nil))))
    (vss_cons (vs_set (i := 5) sc__law_by_hand.nd rfl (.inl rfl) (by decide) (vo_tup (va_cons (vx_c pe_int (fun _ => .int _)) (va_cons (vx_o (vo_tup (va_cons (vx_o (vo_tup (va_cons (vx_o (vo_tup (va_cons (vx_c pe_int (fun _ => .int _)) (va_cons (vx_c pe_bl (fun _ => .bl _)) va_nil)))) va_nil))) (va_cons (vx_o (vo_tup (va_cons (vx_o (vo_tup (va_cons (vx_c pe_int (fun _ => .int _)) (va_cons (vx_c pe_bl (fun _ => .bl _)) va_nil)))) va_nil))) (va_cons (vx_o (vo_tup va_nil)) va_nil))))) va_nil))))
    (vss_cons (vs_set (i := 6) sc__law_by_hand.nd rfl (.inl rfl) (by decide) (vo_tup (va_cons (vx_o (vo_call (ok_idle_rules T) (hr.mono (by decide)) (by rfl) T.g_idle_rules T.F_idle_rules.kp (b_idle_rules T) .nil (fun _ => .nil) (va_cons (vx_val 4 (pv 4)) va_nil))) (va_cons (vx_o (vo_call (ok_lean_sheet T) (hr.mono (by decide)) (by rfl) T.g_lean_sheet T.F_lean_sheet.kp (b_lean_sheet T) .nil (fun _ => .nil) (va_cons (vx_val 4 (pv 4)) va_nil))) (va_cons (vx_o (vo_call (ok_idle_rules T) (hr.mono (by decide)) (by rfl) T.g_idle_rules T.F_idle_rules.kp (b_idle_rules T) .nil (fun _ => .nil) (va_cons (vx_val 5 (pv 5)) va_nil))) (va_cons (vx_o (vo_call (ok_lean_sheet T) (hr.mono (by decide)) (by rfl) T.g_lean_sheet T.F_lean_sheet.kp (b_lean_sheet T) .nil (fun _ => .nil) (va_cons (vx_val 5 (pv 5)) va_nil))) (va_cons (vx_o (vo_call (ok_idle_rules T) (hr.mono (by decide)) (by rfl) T.g_idle_rules T.F_idle_rules.kp (b_idle_rules T) .nil (fun _ => .nil) (va_cons (vx_o (vo_tup (va_cons (vx_c pe_int (fun _ => .int _)) (va_cons (vx_o (vo_tup va_nil)) va_nil)))) va_nil))) (va_cons (vx_o (vo_call (ok_lean_sheet T) (hr.mono (by decide)) (by rfl) T.g_lean_sheet T.F_lean_sheet.kp (b_lean_sheet T) .nil (fun _ => .nil) (va_cons (vx_o (vo_tup (va_cons (vx_c pe_int (fun _ => .int _)) (va_cons (vx_o (vo_tup va_nil)) va_nil)))) va_nil))) (va_cons (vx_o (vo_call (ok_idle_rules T) (hr.mono (by decide)) (by rfl) T.g_idle_rules T.F_idle_rules.kp (b_idle_rules T) .nil (fun _ => .nil) (va_cons (vx_o (vo_tup (va_cons (vx_c pe_int (fun _ => .int _)) (va_cons (vx_o (vo_tup (va_cons (vx_o (vo_tup va_nil)) va_nil))) va_nil)))) va_nil))) va_nil)))))))))
    (vss_cons (vs_if (vt_not (vt_tru (vx_o (vo_call (ok__law_same T) (hr.mono (by decide)) (by rfl) T.g__law_same T.F__law_same.kp (b__law_same T) .nil (fun _ => .nil) (va_cons (vx_val 6 (pv 6)) (va_cons (vx_o (vo_tup (va_cons (vx_o (vo_tup va_nil)) (va_cons (vx_val 4 (pv 4)) (va_cons (vx_o (vo_tup (va_cons (vx_c pe_int (fun _ => .int _)) (va_cons (vx_c pe_int (fun _ => .int _)) (va_cons (vx_c pe_int (fun _ => .int _)) va_nil))))) (va_cons (vx_o (vo_tup (va_cons (vx_c pe_int (fun _ => .int _)) (va_cons (vx_o (vo_tup (va_cons (vx_o (vo_tup va_nil)) va_nil))) va_nil)))) (va_cons (vx_o (vo_tup va_nil)) (va_cons (vx_o (vo_tup (va_cons (vx_c pe_int (fun _ => .int _)) (va_cons (vx_o (vo_tup va_nil)) va_nil)))) (va_cons (vx_o (vo_tup va_nil)) va_nil))))))))) va_nil))))))
    (vss_one (vs_ret (vo_x (vx_c pe_bl (fun _ => .bl _)))))
    vss_nil)
    (vss_cons (vs_set (i := 7) sc__law_by_hand.nd rfl (.inl rfl) (by decide) (vo_tup (va_cons (vx_c pe_int (fun _ => .int _)) (va_cons (vx_o (vo_tup (va_cons (vx_o (vo_tup (va_cons (vx_o (vo_tup (va_cons (vx_c pe_int (fun _ => .int _)) (va_cons (vx_c pe_bl (fun _ => .bl _)) va_nil)))) (va_cons (vx_o (vo_tup (va_cons (vx_c pe_int (fun _ => .int _)) (va_cons (vx_c pe_bl (fun _ => .bl _)) va_nil)))) va_nil)))) (va_cons (vx_o (vo_tup (va_cons (vx_o (vo_tup (va_cons (vx_c pe_int (fun _ => .int _)) (va_cons (vx_c pe_bl (fun _ => .bl _)) va_nil)))) va_nil))) (va_cons (vx_o (vo_tup (va_cons (vx_o (vo_tup (va_cons (vx_c pe_int (fun _ => .int _)) (va_cons (vx_c pe_bl (fun _ => .bl _)) va_nil)))) (va_cons (vx_o (vo_tup (va_cons (vx_c pe_int (fun _ => .int _)) (va_cons (vx_c pe_bl (fun _ => .bl _)) va_nil)))) va_nil)))) (va_cons (vx_o (vo_tup (va_cons (vx_o (vo_tup (va_cons (vx_c pe_int (fun _ => .int _)) (va_cons (vx_c pe_bl (fun _ => .bl _)) va_nil)))) (va_cons (vx_o (vo_tup (va_cons (vx_c pe_int (fun _ => .int _)) (va_cons (vx_c pe_bl (fun _ => .bl _)) va_nil)))) va_nil)))) va_nil)))))) va_nil))))
    (vss_one (vs_ret (vo_call (ok__law_same T) (hr.mono (by decide)) (by rfl) T.g__law_same T.F__law_same.kp (b__law_same T) .nil (fun _ => .nil) (va_cons (vx_o (vo_tup (va_cons (vx_o (vo_call (ok_idle_rules T) (hr.mono (by decide)) (by rfl) T.g_idle_rules T.F_idle_rules.kp (b_idle_rules T) .nil (fun _ => .nil) (va_cons (vx_val 7 (pv 7)) va_nil))) (va_cons (vx_o (vo_call (ok_lean_sheet T) (hr.mono (by decide)) (by rfl) T.g_lean_sheet T.F_lean_sheet.kp (b_lean_sheet T) .nil (fun _ => .nil) (va_cons (vx_val 7 (pv 7)) va_nil))) va_nil)))) (va_cons (vx_o (vo_tup (va_cons (vx_o (vo_tup (va_cons (vx_c pe_int (fun _ => .int _)) (va_cons (vx_c pe_int (fun _ => .int _)) (va_cons (vx_c pe_int (fun _ => .int _)) va_nil))))) (va_cons (vx_o (vo_tup (va_cons (vx_c pe_int (fun _ => .int _)) (va_cons (vx_o (vo_op o2_add (vx_o (vo_sl (vx_o (vo_ixS 7 (hu_of hr) (pv 7) (vx_c pe_int (fun _ => .int _)))) (vp_some (vx_c pe_int (fun _ => .int _))) (vp_some (vx_c pe_int (fun _ => .int _))))) (vx_o (vo_sl (vx_o (vo_ixS 7 (hu_of hr) (pv 7) (vx_c pe_int (fun _ => .int _)))) (vp_some (vx_c pe_int (fun _ => .int _))) vp_none)))) va_nil)))) va_nil)))) va_nil)))))))))))))))))) : PSs (cxOf CX0 P w K mg base _ _ _ T.f__law_by_hand cdv A outer s H E).nox _ (lS K false τ__law_by_hand))) rd__law_by_hand
theorem ok_law (T : Txt K mg) : FnOk P w K mg base CX0 11 T.f_law T.fd_law ["script"] (toSp0 K wp_law) :=
  vfn0 (τ := τ_law) T.F_law sc_law len_law (fun cdv A outer s H E hr => ((vss_cons (vs_set (i := 1) sc_law.nd rfl (.inl rfl) (by decide) (vo_call (ok__law_crate T) (hr.mono (by decide)) (by rfl) T.g__law_crate T.F__law_crate.kp (b__law_crate T) .nil (fun _ => .nil) (va_cons (vx_val 0 (pv 0)) va_nil)))
    (vss_cons (vs_set (i := 2) sc_law.nd rfl (.inl rfl) (by decide) (vo_cmp (o2_eq (r64 hr)) (vx_o (vo_callI (ok__law_lift T) (hr.mono (by decide)) (by rfl) T.g__law_lift T.F__law_lift.kp (b__law_lift T) .nil (fun _ => .nil) (va_cons (vx_var 1 (pv 1)) (va_cons (vx_c pe_int (fun _ => .int _)) (va_cons (vx_c pe_int (fun _ => .int _)) va_nil))))) (vx_c pe_int (fun _ => .int _)) (nomark _)))
    (vss_cons (vs_if (vt_not (vt_tru (vx_o (vo_call0 (ok__law_by_hand T) (hr.mono (by decide)) (by rfl) T.g__law_by_hand T.F__law_by_hand.kp (b__law_by_hand T) .nil (fun _ => .nil)))))
    (vss_one (vs_ret (vo_x (vx_c pe_bl (fun _ => .bl _)))))
    vss_nil)
    (vss_cons (vs_for PassesOwn.never rfl (vi_range1 (by rfl) T.n_range (va_cons (vx_c pe_int (fun _ => .int _)) va_nil)) (vg_name sc_law.nd rfl (.inl rfl) (by decide))
    (vss_one (vs_if (vt_not (vt_tru (vx_o (vo_callI (ok__law_small T) (hr.mono (by decide)) (by rfl) T.g__law_small T.F__law_small.kp (b__law_small T) .nil (fun _ => .nil) (va_cons (vx_var 1 (pv 1)) va_nil)))))
    (vss_one (vs_ret (vo_x (vx_c pe_bl (fun _ => .bl _)))))
    vss_nil)))
    (vss_one (vs_ret (vo_or (vo_not (vo_x (vx_val 2 (pv 2)))) (vo_one (vo_callI (ok__law_wide T) (hr.mono (by decide)) (by rfl) T.g__law_wide T.F__law_wide.kp (b__law_wide T) .nil (fun _ => .nil) (va_cons (vx_var 1 (pv 1)) va_nil)))))))))) : PSs (cxOf CX0 P w K mg base _ _ _ T.f_law cdv A outer s H E).nox _ (lS K false τ_law))) rd_law
end
end K18
end
section
namespace K18
open PySem PySem.Spec L2 VL
theorem arg_ok {K : PySem.W.Frag} {H : Hp} {a : Addr} {ns : List Int} {E : XK} (hl : ns.length ≤ 63) (hS : SqL K H a (ns.map V.int)) : toSp0 K wp_law [.ref a] H (fun v _ => v = .bl true) E :=
  ⟨H, [scD ns], fun o => o = .fz (.bool true), fun _ _ e => e, .cons (.scr hS) .nil, ⟨ns, rfl, hl, rfl⟩, fun F' hr H' o v g w s d n q => by subst q; exact rp_bl (own_fz.mp w).2⟩
theorem all_mk {l : PySem.W.OpenLaw} {w : World} {K : PySem.W.Frag} {h : Heap} {mg : Str → Option Value} {fa : Addr} (X : K.In h) (G : h.Ns mainGlobals mg) (hfa : mg "law" = some (.ref fa))
    {f0 : Addr} {od0 an0 : Option Addr} {sl0 : Array (Option Value)} {oc0 kV0 dc0 pm0 cd0 ct0 : Value} (a0_0 : PySem.W.nsIn K mainGlobals "contrary_of" = some (some (.ref f0))) (l0 : K.lookup f0 = some ⟨oc0, od0, .func (PySem.W.fnOf "contrary_of" "contrary_of" (defArgs s_contrary_of) (defBody s_contrary_of) (defScope s_contrary_of) .none kV0 dc0 pm0 an0 cd0 ct0), sl0⟩) (c0 : PySem.W.codeIn K cd0 "contrary_of" = true) (k0 : PySem.W.keepIn K (.ref f0) = true)
    {f1 : Addr} {od1 an1 : Option Addr} {sl1 : Array (Option Value)} {oc1 kV1 dc1 pm1 cd1 ct1 : Value} (a1_0 : PySem.W.nsIn K mainGlobals "contrary" = some (some (.ref f1))) (l1 : K.lookup f1 = some ⟨oc1, od1, .func (PySem.W.fnOf "contrary" "contrary" (defArgs s_contrary) (defBody s_contrary) (defScope s_contrary) .none kV1 dc1 pm1 an1 cd1 ct1), sl1⟩) (c1 : PySem.W.codeIn K cd1 "contrary" = true) (k1 : PySem.W.keepIn K (.ref f1) = true)
    {f2 : Addr} {od2 an2 : Option Addr} {sl2 : Array (Option Value)} {oc2 kV2 dc2 pm2 cd2 ct2 : Value} (a2_0 : PySem.W.nsIn K mainGlobals "rule_holds" = some (some (.ref f2))) (l2 : K.lookup f2 = some ⟨oc2, od2, .func (PySem.W.fnOf "rule_holds" "rule_holds" (defArgs s_rule_holds) (defBody s_rule_holds) (defScope s_rule_holds) .none kV2 dc2 pm2 an2 cd2 ct2), sl2⟩) (c2 : PySem.W.codeIn K cd2 "rule_holds" = true) (k2 : PySem.W.keepIn K (.ref f2) = true)
    {f3 : Addr} {od3 an3 : Option Addr} {sl3 : Array (Option Value)} {oc3 kV3 dc3 pm3 cd3 ct3 : Value} (a3_0 : PySem.W.nsIn K mainGlobals "rules_by_last_box" = some (some (.ref f3))) (l3 : K.lookup f3 = some ⟨oc3, od3, .func (PySem.W.fnOf "rules_by_last_box" "rules_by_last_box" (defArgs s_rules_by_last_box) (defBody s_rules_by_last_box) (defScope s_rules_by_last_box) .none kV3 dc3 pm3 an3 cd3 ct3), sl3⟩) (c3 : PySem.W.codeIn K cd3 "rules_by_last_box" = true) (k3 : PySem.W.keepIn K (.ref f3) = true)
    {f4 : Addr} {od4 an4 : Option Addr} {sl4 : Array (Option Value)} {oc4 kV4 dc4 pm4 cd4 ct4 : Value} (a4_0 : PySem.W.nsIn K mainGlobals "signs_let" = some (some (.ref f4))) (l4 : K.lookup f4 = some ⟨oc4, od4, .func (PySem.W.fnOf "signs_let" "signs_let" (defArgs s_signs_let) (defBody s_signs_let) (defScope s_signs_let) .none kV4 dc4 pm4 an4 cd4 ct4), sl4⟩) (c4 : PySem.W.codeIn K cd4 "signs_let" = true) (k4 : PySem.W.keepIn K (.ref f4) = true)
    {f5 : Addr} {od5 an5 : Option Addr} {sl5 : Array (Option Value)} {oc5 kV5 dc5 pm5 cd5 ct5 : Value} (a5_0 : PySem.W.nsIn K mainGlobals "is_kept" = some (some (.ref f5))) (l5 : K.lookup f5 = some ⟨oc5, od5, .func (PySem.W.fnOf "is_kept" "is_kept" (defArgs s_is_kept) (defBody s_is_kept) (defScope s_is_kept) .none kV5 dc5 pm5 an5 cd5 ct5), sl5⟩) (c5 : PySem.W.codeIn K cd5 "is_kept" = true) (k5 : PySem.W.keepIn K (.ref f5) = true)
    {f6 : Addr} {od6 an6 : Option Addr} {sl6 : Array (Option Value)} {oc6 kV6 dc6 pm6 cd6 ct6 : Value} (a6_0 : PySem.W.nsIn K mainGlobals "filling_from" = some (some (.ref f6))) (l6 : K.lookup f6 = some ⟨oc6, od6, .func (PySem.W.fnOf "filling_from" "filling_from" (defArgs s_filling_from) (defBody s_filling_from) (defScope s_filling_from) .none kV6 dc6 pm6 an6 cd6 ct6), sl6⟩) (c6 : PySem.W.codeIn K cd6 "filling_from" = true) (k6 : PySem.W.keepIn K (.ref f6) = true)
    {f7 : Addr} {od7 an7 : Option Addr} {sl7 : Array (Option Value)} {oc7 kV7 dc7 pm7 cd7 ct7 : Value} (a7_0 : PySem.W.nsIn K mainGlobals "first_filling" = some (some (.ref f7))) (l7 : K.lookup f7 = some ⟨oc7, od7, .func (PySem.W.fnOf "first_filling" "first_filling" (defArgs s_first_filling) (defBody s_first_filling) (defScope s_first_filling) .none kV7 dc7 pm7 an7 cd7 ct7), sl7⟩) (c7 : PySem.W.codeIn K cd7 "first_filling" = true) (k7 : PySem.W.keepIn K (.ref f7) = true)
    {f8 : Addr} {od8 an8 : Option Addr} {sl8 : Array (Option Value)} {oc8 kV8 dc8 pm8 cd8 ct8 : Value} (a8_0 : PySem.W.nsIn K mainGlobals "breaking_filling" = some (some (.ref f8))) (l8 : K.lookup f8 = some ⟨oc8, od8, .func (PySem.W.fnOf "breaking_filling" "breaking_filling" (defArgs s_breaking_filling) (defBody s_breaking_filling) (defScope s_breaking_filling) .none kV8 dc8 pm8 an8 cd8 ct8), sl8⟩) (c8 : PySem.W.codeIn K cd8 "breaking_filling" = true) (k8 : PySem.W.keepIn K (.ref f8) = true)
    {f9 : Addr} {od9 an9 : Option Addr} {sl9 : Array (Option Value)} {oc9 kV9 dc9 pm9 cd9 ct9 : Value} (a9_0 : PySem.W.nsIn K mainGlobals "follows" = some (some (.ref f9))) (l9 : K.lookup f9 = some ⟨oc9, od9, .func (PySem.W.fnOf "follows" "follows" (defArgs s_follows) (defBody s_follows) (defScope s_follows) .none kV9 dc9 pm9 an9 cd9 ct9), sl9⟩) (c9 : PySem.W.codeIn K cd9 "follows" = true) (k9 : PySem.W.keepIn K (.ref f9) = true)
    {f10 : Addr} {od10 an10 : Option Addr} {sl10 : Array (Option Value)} {oc10 kV10 dc10 pm10 cd10 ct10 : Value} (a10_0 : PySem.W.nsIn K mainGlobals "without_number" = some (some (.ref f10))) (l10 : K.lookup f10 = some ⟨oc10, od10, .func (PySem.W.fnOf "without_number" "without_number" (defArgs s_without_number) (defBody s_without_number) (defScope s_without_number) .none kV10 dc10 pm10 an10 cd10 ct10), sl10⟩) (c10 : PySem.W.codeIn K cd10 "without_number" = true) (k10 : PySem.W.keepIn K (.ref f10) = true)
    {f11 : Addr} {od11 an11 : Option Addr} {sl11 : Array (Option Value)} {oc11 kV11 dc11 pm11 cd11 ct11 : Value} (a11_0 : PySem.W.nsIn K mainGlobals "is_idle" = some (some (.ref f11))) (l11 : K.lookup f11 = some ⟨oc11, od11, .func (PySem.W.fnOf "is_idle" "is_idle" (defArgs s_is_idle) (defBody s_is_idle) (defScope s_is_idle) .none kV11 dc11 pm11 an11 cd11 ct11), sl11⟩) (c11 : PySem.W.codeIn K cd11 "is_idle" = true) (k11 : PySem.W.keepIn K (.ref f11) = true)
    {f12 : Addr} {od12 an12 : Option Addr} {sl12 : Array (Option Value)} {oc12 kV12 dc12 pm12 cd12 ct12 : Value} (a12_0 : PySem.W.nsIn K mainGlobals "idle_rules" = some (some (.ref f12))) (l12 : K.lookup f12 = some ⟨oc12, od12, .func (PySem.W.fnOf "idle_rules" "idle_rules" (defArgs s_idle_rules) (defBody s_idle_rules) (defScope s_idle_rules) .none kV12 dc12 pm12 an12 cd12 ct12), sl12⟩) (c12 : PySem.W.codeIn K cd12 "idle_rules" = true) (k12 : PySem.W.keepIn K (.ref f12) = true)
    {f13 : Addr} {od13 an13 : Option Addr} {sl13 : Array (Option Value)} {oc13 kV13 dc13 pm13 cd13 ct13 : Value} (a13_0 : PySem.W.nsIn K mainGlobals "lean_sheet" = some (some (.ref f13))) (l13 : K.lookup f13 = some ⟨oc13, od13, .func (PySem.W.fnOf "lean_sheet" "lean_sheet" (defArgs s_lean_sheet) (defBody s_lean_sheet) (defScope s_lean_sheet) .none kV13 dc13 pm13 an13 cd13 ct13), sl13⟩) (c13 : PySem.W.codeIn K cd13 "lean_sheet" = true) (k13 : PySem.W.keepIn K (.ref f13) = true)
    {f14 : Addr} {od14 an14 : Option Addr} {sl14 : Array (Option Value)} {oc14 kV14 dc14 pm14 cd14 ct14 : Value} (a14_0 : PySem.W.nsIn K mainGlobals "_law_crate" = some (some (.ref f14))) (l14 : K.lookup f14 = some ⟨oc14, od14, .func (PySem.W.fnOf "_law_crate" "_law_crate" (defArgs s__law_crate) (defBody s__law_crate) (defScope s__law_crate) .none kV14 dc14 pm14 an14 cd14 ct14), sl14⟩) (c14 : PySem.W.codeIn K cd14 "_law_crate" = true) (k14 : PySem.W.keepIn K (.ref f14) = true)
    {f15 : Addr} {od15 an15 : Option Addr} {sl15 : Array (Option Value)} {oc15 kV15 dc15 pm15 cd15 ct15 : Value} (a15_0 : PySem.W.nsIn K mainGlobals "_law_lift" = some (some (.ref f15))) (l15 : K.lookup f15 = some ⟨oc15, od15, .func (PySem.W.fnOf "_law_lift" "_law_lift" (defArgs s__law_lift) (defBody s__law_lift) (defScope s__law_lift) .none kV15 dc15 pm15 an15 cd15 ct15), sl15⟩) (c15 : PySem.W.codeIn K cd15 "_law_lift" = true) (k15 : PySem.W.keepIn K (.ref f15) = true)
    {f16 : Addr} {od16 an16 : Option Addr} {sl16 : Array (Option Value)} {oc16 kV16 dc16 pm16 cd16 ct16 : Value} (a16_0 : PySem.W.nsIn K mainGlobals "_law_tossed" = some (some (.ref f16))) (l16 : K.lookup f16 = some ⟨oc16, od16, .func (PySem.W.fnOf "_law_tossed" "_law_tossed" (defArgs s__law_tossed) (defBody s__law_tossed) (defScope s__law_tossed) .none kV16 dc16 pm16 an16 cd16 ct16), sl16⟩) (c16 : PySem.W.codeIn K cd16 "_law_tossed" = true) (k16 : PySem.W.keepIn K (.ref f16) = true)
    {f17 : Addr} {od17 an17 : Option Addr} {sl17 : Array (Option Value)} {oc17 kV17 dc17 pm17 cd17 ct17 : Value} (a17_0 : PySem.W.nsIn K mainGlobals "_law_rule" = some (some (.ref f17))) (l17 : K.lookup f17 = some ⟨oc17, od17, .func (PySem.W.fnOf "_law_rule" "_law_rule" (defArgs s__law_rule) (defBody s__law_rule) (defScope s__law_rule) .none kV17 dc17 pm17 an17 cd17 ct17), sl17⟩) (c17 : PySem.W.codeIn K cd17 "_law_rule" = true) (k17 : PySem.W.keepIn K (.ref f17) = true)
    {f18 : Addr} {od18 an18 : Option Addr} {sl18 : Array (Option Value)} {oc18 kV18 dc18 pm18 cd18 ct18 : Value} (a18_0 : PySem.W.nsIn K mainGlobals "_law_shut" = some (some (.ref f18))) (l18 : K.lookup f18 = some ⟨oc18, od18, .func (PySem.W.fnOf "_law_shut" "_law_shut" (defArgs s__law_shut) (defBody s__law_shut) (defScope s__law_shut) .none kV18 dc18 pm18 an18 cd18 ct18), sl18⟩) (c18 : PySem.W.codeIn K cd18 "_law_shut" = true) (k18 : PySem.W.keepIn K (.ref f18) = true)
    {f19 : Addr} {od19 an19 : Option Addr} {sl19 : Array (Option Value)} {oc19 kV19 dc19 pm19 cd19 ct19 : Value} (a19_0 : PySem.W.nsIn K mainGlobals "_law_grown" = some (some (.ref f19))) (l19 : K.lookup f19 = some ⟨oc19, od19, .func (PySem.W.fnOf "_law_grown" "_law_grown" (defArgs s__law_grown) (defBody s__law_grown) (defScope s__law_grown) .none kV19 dc19 pm19 an19 cd19 ct19), sl19⟩) (c19 : PySem.W.codeIn K cd19 "_law_grown" = true) (k19 : PySem.W.keepIn K (.ref f19) = true)
    {f20 : Addr} {od20 an20 : Option Addr} {sl20 : Array (Option Value)} {oc20 kV20 dc20 pm20 cd20 ct20 : Value} (a20_0 : PySem.W.nsIn K mainGlobals "_law_joins" = some (some (.ref f20))) (l20 : K.lookup f20 = some ⟨oc20, od20, .func (PySem.W.fnOf "_law_joins" "_law_joins" (defArgs s__law_joins) (defBody s__law_joins) (defScope s__law_joins) .none kV20 dc20 pm20 an20 cd20 ct20), sl20⟩) (c20 : PySem.W.codeIn K cd20 "_law_joins" = true) (k20 : PySem.W.keepIn K (.ref f20) = true)
    {f21 : Addr} {od21 an21 : Option Addr} {sl21 : Array (Option Value)} {oc21 kV21 dc21 pm21 cd21 ct21 : Value} (a21_0 : PySem.W.nsIn K mainGlobals "_law_fours" = some (some (.ref f21))) (l21 : K.lookup f21 = some ⟨oc21, od21, .func (PySem.W.fnOf "_law_fours" "_law_fours" (defArgs s__law_fours) (defBody s__law_fours) (defScope s__law_fours) .none kV21 dc21 pm21 an21 cd21 ct21), sl21⟩) (c21 : PySem.W.codeIn K cd21 "_law_fours" = true) (k21 : PySem.W.keepIn K (.ref f21) = true)
    {f22 : Addr} {od22 an22 : Option Addr} {sl22 : Array (Option Value)} {oc22 kV22 dc22 pm22 cd22 ct22 : Value} (a22_0 : PySem.W.nsIn K mainGlobals "_law_made" = some (some (.ref f22))) (l22 : K.lookup f22 = some ⟨oc22, od22, .func (PySem.W.fnOf "_law_made" "_law_made" (defArgs s__law_made) (defBody s__law_made) (defScope s__law_made) .none kV22 dc22 pm22 an22 cd22 ct22), sl22⟩) (c22 : PySem.W.codeIn K cd22 "_law_made" = true) (k22 : PySem.W.keepIn K (.ref f22) = true)
    {f23 : Addr} {od23 an23 : Option Addr} {sl23 : Array (Option Value)} {oc23 kV23 dc23 pm23 cd23 ct23 : Value} (a23_0 : PySem.W.nsIn K mainGlobals "_law_table" = some (some (.ref f23))) (l23 : K.lookup f23 = some ⟨oc23, od23, .func (PySem.W.fnOf "_law_table" "_law_table" (defArgs s__law_table) (defBody s__law_table) (defScope s__law_table) .none kV23 dc23 pm23 an23 cd23 ct23), sl23⟩) (c23 : PySem.W.codeIn K cd23 "_law_table" = true) (k23 : PySem.W.keepIn K (.ref f23) = true)
    {f24 : Addr} {od24 an24 : Option Addr} {sl24 : Array (Option Value)} {oc24 kV24 dc24 pm24 cd24 ct24 : Value} (a24_0 : PySem.W.nsIn K mainGlobals "_law_follows" = some (some (.ref f24))) (l24 : K.lookup f24 = some ⟨oc24, od24, .func (PySem.W.fnOf "_law_follows" "_law_follows" (defArgs s__law_follows) (defBody s__law_follows) (defScope s__law_follows) .none kV24 dc24 pm24 an24 cd24 ct24), sl24⟩) (c24 : PySem.W.codeIn K cd24 "_law_follows" = true) (k24 : PySem.W.keepIn K (.ref f24) = true)
    {f25 : Addr} {od25 an25 : Option Addr} {sl25 : Array (Option Value)} {oc25 kV25 dc25 pm25 cd25 ct25 : Value} (a25_0 : PySem.W.nsIn K mainGlobals "_law_due" = some (some (.ref f25))) (l25 : K.lookup f25 = some ⟨oc25, od25, .func (PySem.W.fnOf "_law_due" "_law_due" (defArgs s__law_due) (defBody s__law_due) (defScope s__law_due) .none kV25 dc25 pm25 an25 cd25 ct25), sl25⟩) (c25 : PySem.W.codeIn K cd25 "_law_due" = true) (k25 : PySem.W.keepIn K (.ref f25) = true)
    {f26 : Addr} {od26 an26 : Option Addr} {sl26 : Array (Option Value)} {oc26 kV26 dc26 pm26 cd26 ct26 : Value} (a26_0 : PySem.W.nsIn K mainGlobals "_law_lean" = some (some (.ref f26))) (l26 : K.lookup f26 = some ⟨oc26, od26, .func (PySem.W.fnOf "_law_lean" "_law_lean" (defArgs s__law_lean) (defBody s__law_lean) (defScope s__law_lean) .none kV26 dc26 pm26 an26 cd26 ct26), sl26⟩) (c26 : PySem.W.codeIn K cd26 "_law_lean" = true) (k26 : PySem.W.keepIn K (.ref f26) = true)
    {f27 : Addr} {od27 an27 : Option Addr} {sl27 : Array (Option Value)} {oc27 kV27 dc27 pm27 cd27 ct27 : Value} (a27_0 : PySem.W.nsIn K mainGlobals "_law_same" = some (some (.ref f27))) (l27 : K.lookup f27 = some ⟨oc27, od27, .func (PySem.W.fnOf "_law_same" "_law_same" (defArgs s__law_same) (defBody s__law_same) (defScope s__law_same) .none kV27 dc27 pm27 an27 cd27 ct27), sl27⟩) (c27 : PySem.W.codeIn K cd27 "_law_same" = true) (k27 : PySem.W.keepIn K (.ref f27) = true)
    {f28 : Addr} {od28 an28 : Option Addr} {sl28 : Array (Option Value)} {oc28 kV28 dc28 pm28 cd28 ct28 : Value} (a28_0 : PySem.W.nsIn K mainGlobals "_law_asked" = some (some (.ref f28))) (l28 : K.lookup f28 = some ⟨oc28, od28, .func (PySem.W.fnOf "_law_asked" "_law_asked" (defArgs s__law_asked) (defBody s__law_asked) (defScope s__law_asked) .none kV28 dc28 pm28 an28 cd28 ct28), sl28⟩) (c28 : PySem.W.codeIn K cd28 "_law_asked" = true) (k28 : PySem.W.keepIn K (.ref f28) = true)
    {f29 : Addr} {od29 an29 : Option Addr} {sl29 : Array (Option Value)} {oc29 kV29 dc29 pm29 cd29 ct29 : Value} (a29_0 : PySem.W.nsIn K mainGlobals "_law_small" = some (some (.ref f29))) (l29 : K.lookup f29 = some ⟨oc29, od29, .func (PySem.W.fnOf "_law_small" "_law_small" (defArgs s__law_small) (defBody s__law_small) (defScope s__law_small) .none kV29 dc29 pm29 an29 cd29 ct29), sl29⟩) (c29 : PySem.W.codeIn K cd29 "_law_small" = true) (k29 : PySem.W.keepIn K (.ref f29) = true)
    {f30 : Addr} {od30 an30 : Option Addr} {sl30 : Array (Option Value)} {oc30 kV30 dc30 pm30 cd30 ct30 : Value} (a30_0 : PySem.W.nsIn K mainGlobals "_law_wide" = some (some (.ref f30))) (l30 : K.lookup f30 = some ⟨oc30, od30, .func (PySem.W.fnOf "_law_wide" "_law_wide" (defArgs s__law_wide) (defBody s__law_wide) (defScope s__law_wide) .none kV30 dc30 pm30 an30 cd30 ct30), sl30⟩) (c30 : PySem.W.codeIn K cd30 "_law_wide" = true) (k30 : PySem.W.keepIn K (.ref f30) = true)
    {f31 : Addr} {od31 an31 : Option Addr} {sl31 : Array (Option Value)} {oc31 kV31 dc31 pm31 cd31 ct31 : Value} (a31_0 : PySem.W.nsIn K mainGlobals "_law_by_hand" = some (some (.ref f31))) (l31 : K.lookup f31 = some ⟨oc31, od31, .func (PySem.W.fnOf "_law_by_hand" "_law_by_hand" (defArgs s__law_by_hand) (defBody s__law_by_hand) (defScope s__law_by_hand) .none kV31 dc31 pm31 an31 cd31 ct31), sl31⟩) (c31 : PySem.W.codeIn K cd31 "_law_by_hand" = true) (k31 : PySem.W.keepIn K (.ref f31) = true)
    {f32 : Addr} {od32 an32 : Option Addr} {sl32 : Array (Option Value)} {oc32 kV32 dc32 pm32 cd32 ct32 : Value} (a32_0 : PySem.W.nsIn K mainGlobals "law" = some (some (.ref f32))) (l32 : K.lookup f32 = some ⟨oc32, od32, .func (PySem.W.fnOf "law" "law" (defArgs s_law) (defBody s_law) (defScope s_law) .none kV32 dc32 pm32 an32 cd32 ct32), sl32⟩) (c32 : PySem.W.codeIn K cd32 "law" = true) (k32 : PySem.W.keepIn K (.ref f32) = true)
    (z0 : PySem.W.nsIn K mainGlobals "abs" = some none)
    (z1 : PySem.W.nsIn K mainGlobals "bool" = some none)
    (z2 : PySem.W.nsIn K mainGlobals "dict" = some none)
    (z3 : PySem.W.nsIn K mainGlobals "int" = some none)
    (z4 : PySem.W.nsIn K mainGlobals "isinstance" = some none)
    (z5 : PySem.W.nsIn K mainGlobals "len" = some none)
    (z6 : PySem.W.nsIn K mainGlobals "list" = some none)
    (z7 : PySem.W.nsIn K mainGlobals "min" = some none)
    (z8 : PySem.W.nsIn K mainGlobals "range" = some none)
    (z9 : PySem.W.nsIn K mainGlobals "sorted" = some none)
    (z10 : PySem.W.nsIn K mainGlobals "tuple" = some none)
    : ∃ fd : FuncData, (∀ (s : Shared) (v : Value), BindsTo s fd ⟨[v], []⟩ [("script", v)]) ∧ ∀ base : Heap, K.In base → base.Ns mainGlobals mg → FnOk l.prog w K mg base CX0 11 fa fd ["script"] (toSp0 K wp_law) := by
  have e := hfa.symm.trans (PySem.W.mg_of X G a32_0)
  cases e
  let T : Txt K mg := { f_contrary_of := f0, fd_contrary_of := _, F_contrary_of := fun_mk (st := s_contrary_of) l0 c0 k0, f_contrary := f1, fd_contrary := _, F_contrary := fun_mk (st := s_contrary) l1 c1 k1, f_rule_holds := f2, fd_rule_holds := _, F_rule_holds := fun_mk (st := s_rule_holds) l2 c2 k2, f_rules_by_last_box := f3, fd_rules_by_last_box := _, F_rules_by_last_box := fun_mk (st := s_rules_by_last_box) l3 c3 k3, f_signs_let := f4, fd_signs_let := _, F_signs_let := fun_mk (st := s_signs_let) l4 c4 k4, f_is_kept := f5, fd_is_kept := _, F_is_kept := fun_mk (st := s_is_kept) l5 c5 k5, f_filling_from := f6, fd_filling_from := _, F_filling_from := fun_mk (st := s_filling_from) l6 c6 k6, f_first_filling := f7, fd_first_filling := _, F_first_filling := fun_mk (st := s_first_filling) l7 c7 k7, f_breaking_filling := f8, fd_breaking_filling := _, F_breaking_filling := fun_mk (st := s_breaking_filling) l8 c8 k8, f_follows := f9, fd_follows := _, F_follows := fun_mk (st := s_follows) l9 c9 k9, f_without_number := f10, fd_without_number := _, F_without_number := fun_mk (st := s_without_number) l10 c10 k10, f_is_idle := f11, fd_is_idle := _, F_is_idle := fun_mk (st := s_is_idle) l11 c11 k11, f_idle_rules := f12, fd_idle_rules := _, F_idle_rules := fun_mk (st := s_idle_rules) l12 c12 k12, f_lean_sheet := f13, fd_lean_sheet := _, F_lean_sheet := fun_mk (st := s_lean_sheet) l13 c13 k13, f__law_crate := f14, fd__law_crate := _, F__law_crate := fun_mk (st := s__law_crate) l14 c14 k14, f__law_lift := f15, fd__law_lift := _, F__law_lift := fun_mk (st := s__law_lift) l15 c15 k15, f__law_tossed := f16, fd__law_tossed := _, F__law_tossed := fun_mk (st := s__law_tossed) l16 c16 k16, f__law_rule := f17, fd__law_rule := _, F__law_rule := fun_mk (st := s__law_rule) l17 c17 k17, f__law_shut := f18, fd__law_shut := _, F__law_shut := fun_mk (st := s__law_shut) l18 c18 k18, f__law_grown := f19, fd__law_grown := _, F__law_grown := fun_mk (st := s__law_grown) l19 c19 k19, f__law_joins := f20, fd__law_joins := _, F__law_joins := fun_mk (st := s__law_joins) l20 c20 k20, f__law_fours := f21, fd__law_fours := _, F__law_fours := fun_mk (st := s__law_fours) l21 c21 k21, f__law_made := f22, fd__law_made := _, F__law_made := fun_mk (st := s__law_made) l22 c22 k22, f__law_table := f23, fd__law_table := _, F__law_table := fun_mk (st := s__law_table) l23 c23 k23, f__law_follows := f24, fd__law_follows := _, F__law_follows := fun_mk (st := s__law_follows) l24 c24 k24, f__law_due := f25, fd__law_due := _, F__law_due := fun_mk (st := s__law_due) l25 c25 k25, f__law_lean := f26, fd__law_lean := _, F__law_lean := fun_mk (st := s__law_lean) l26 c26 k26, f__law_same := f27, fd__law_same := _, F__law_same := fun_mk (st := s__law_same) l27 c27 k27, f__law_asked := f28, fd__law_asked := _, F__law_asked := fun_mk (st := s__law_asked) l28 c28 k28, f__law_small := f29, fd__law_small := _, F__law_small := fun_mk (st := s__law_small) l29 c29 k29, f__law_wide := f30, fd__law_wide := _, F__law_wide := fun_mk (st := s__law_wide) l30 c30 k30, f__law_by_hand := f31, fd__law_by_hand := _, F__law_by_hand := fun_mk (st := s__law_by_hand) l31 c31 k31, f_law := fa, fd_law := _, F_law := fun_mk (st := s_law) l32 c32 k32, g__law_asked := PySem.W.mg_of X G a28_0, g__law_by_hand := PySem.W.mg_of X G a31_0, g__law_crate := PySem.W.mg_of X G a14_0, g__law_due := PySem.W.mg_of X G a25_0, g__law_follows := PySem.W.mg_of X G a24_0, g__law_fours := PySem.W.mg_of X G a21_0, g__law_grown := PySem.W.mg_of X G a19_0, g__law_joins := PySem.W.mg_of X G a20_0, g__law_lean := PySem.W.mg_of X G a26_0, g__law_lift := PySem.W.mg_of X G a15_0, g__law_made := PySem.W.mg_of X G a22_0, g__law_rule := PySem.W.mg_of X G a17_0, g__law_same := PySem.W.mg_of X G a27_0, g__law_shut := PySem.W.mg_of X G a18_0, g__law_small := PySem.W.mg_of X G a29_0, g__law_table := PySem.W.mg_of X G a23_0, g__law_tossed := PySem.W.mg_of X G a16_0, g__law_wide := PySem.W.mg_of X G a30_0, g_breaking_filling := PySem.W.mg_of X G a8_0, g_contrary := PySem.W.mg_of X G a1_0, g_contrary_of := PySem.W.mg_of X G a0_0, g_filling_from := PySem.W.mg_of X G a6_0, g_first_filling := PySem.W.mg_of X G a7_0, g_follows := PySem.W.mg_of X G a9_0, g_idle_rules := PySem.W.mg_of X G a12_0, g_is_idle := PySem.W.mg_of X G a11_0, g_is_kept := PySem.W.mg_of X G a5_0, g_lean_sheet := PySem.W.mg_of X G a13_0, g_rule_holds := PySem.W.mg_of X G a2_0, g_rules_by_last_box := PySem.W.mg_of X G a3_0, g_signs_let := PySem.W.mg_of X G a4_0, g_without_number := PySem.W.mg_of X G a10_0, n_abs := PySem.W.mg_none_of X G z0, n_bool := PySem.W.mg_none_of X G z1, n_dict := PySem.W.mg_none_of X G z2, n_int := PySem.W.mg_none_of X G z3, n_isinstance := PySem.W.mg_none_of X G z4, n_len := PySem.W.mg_none_of X G z5, n_list := PySem.W.mg_none_of X G z6, n_min := PySem.W.mg_none_of X G z7, n_range := PySem.W.mg_none_of X G z8, n_sorted := PySem.W.mg_none_of X G z9, n_tuple := PySem.W.mg_none_of X G z10 }
  exact ⟨T.fd_law, fun s v => .of_eq rfl, fun base _ _ => ok_law T⟩
end K18
end
open PySem PySem.W PyProof.Rows
set_option maxHeartbeats 0 in
theorem PySem.Challenge.cw_forcedtold_k18_idle_rules_holds : PySem.Challenge.rw_forcedtold_k18_idle_rules.Holds := by
  w_on; o_law; k_head; (case hw => w_witness2)
  k_fill
  refine L2.walk_of (l := PySem.Challenge.rw_forcedtold_k18_idle_rules) (n := 63) (k := 11) (x := "script") (CX := fun _ => L2.CX0) (sp := fun w => VL.toSp0 _ K18.wp_law) rfl (by decide) rfl ⟨rfl, by decide, by decide⟩ (fun w h Y => PySem.W.kIn_of Y) ?F (fun _ _ a ns hl _ hS => K18.arg_ok hl hS) (fun _ _ _ _ _ h => h)
  case F =>
    intro w mg fa h KX G hmg
    refine' K18.all_mk KX G hmg ?a0_0 ?l0 ?c0 ?k0 ?a1_0 ?l1 ?c1 ?k1 ?a2_0 ?l2 ?c2 ?k2 ?a3_0 ?l3 ?c3 ?k3 ?a4_0 ?l4 ?c4 ?k4 ?a5_0 ?l5 ?c5 ?k5 ?a6_0 ?l6 ?c6 ?k6 ?a7_0 ?l7 ?c7 ?k7 ?a8_0 ?l8 ?c8 ?k8 ?a9_0 ?l9 ?c9 ?k9 ?a10_0 ?l10 ?c10 ?k10 ?a11_0 ?l11 ?c11 ?k11 ?a12_0 ?l12 ?c12 ?k12 ?a13_0 ?l13 ?c13 ?k13 ?a14_0 ?l14 ?c14 ?k14 ?a15_0 ?l15 ?c15 ?k15 ?a16_0 ?l16 ?c16 ?k16 ?a17_0 ?l17 ?c17 ?k17 ?a18_0 ?l18 ?c18 ?k18 ?a19_0 ?l19 ?c19 ?k19 ?a20_0 ?l20 ?c20 ?k20 ?a21_0 ?l21 ?c21 ?k21 ?a22_0 ?l22 ?c22 ?k22 ?a23_0 ?l23 ?c23 ?k23 ?a24_0 ?l24 ?c24 ?k24 ?a25_0 ?l25 ?c25 ?k25 ?a26_0 ?l26 ?c26 ?k26 ?a27_0 ?l27 ?c27 ?k27 ?a28_0 ?l28 ?c28 ?k28 ?a29_0 ?l29 ?c29 ?k29 ?a30_0 ?l30 ?c30 ?k30 ?a31_0 ?l31 ?c31 ?k31 ?a32_0 ?l32 ?c32 ?k32 ?z0 ?z1 ?z2 ?z3 ?z4 ?z5 ?z6 ?z7 ?z8 ?z9 ?z10
    (case a0_0 => k_is); (case l0 => k_is); (case c0 => k_is); (case k0 => k_is); (case a1_0 => k_is); (case l1 => k_is); (case c1 => k_is); (case k1 => k_is); (case a2_0 => k_is); (case l2 => k_is); (case c2 => k_is); (case k2 => k_is); (case a3_0 => k_is); (case l3 => k_is); (case c3 => k_is); (case k3 => k_is); (case a4_0 => k_is); (case l4 => k_is); (case c4 => k_is); (case k4 => k_is); (case a5_0 => k_is); (case l5 => k_is); (case c5 => k_is); (case k5 => k_is); (case a6_0 => k_is); (case l6 => k_is); (case c6 => k_is); (case k6 => k_is); (case a7_0 => k_is); (case l7 => k_is); (case c7 => k_is); (case k7 => k_is); (case a8_0 => k_is); (case l8 => k_is); (case c8 => k_is); (case k8 => k_is); (case a9_0 => k_is); (case l9 => k_is); (case c9 => k_is); (case k9 => k_is); (case a10_0 => k_is); (case l10 => k_is); (case c10 => k_is); (case k10 => k_is); (case a11_0 => k_is); (case l11 => k_is); (case c11 => k_is); (case k11 => k_is); (case a12_0 => k_is); (case l12 => k_is); (case c12 => k_is); (case k12 => k_is); (case a13_0 => k_is); (case l13 => k_is); (case c13 => k_is); (case k13 => k_is); (case a14_0 => k_is); (case l14 => k_is); (case c14 => k_is); (case k14 => k_is); (case a15_0 => k_is); (case l15 => k_is); (case c15 => k_is); (case k15 => k_is); (case a16_0 => k_is); (case l16 => k_is); (case c16 => k_is); (case k16 => k_is); (case a17_0 => k_is); (case l17 => k_is); (case c17 => k_is); (case k17 => k_is); (case a18_0 => k_is); (case l18 => k_is); (case c18 => k_is); (case k18 => k_is); (case a19_0 => k_is); (case l19 => k_is); (case c19 => k_is); (case k19 => k_is); (case a20_0 => k_is); (case l20 => k_is); (case c20 => k_is); (case k20 => k_is); (case a21_0 => k_is); (case l21 => k_is); (case c21 => k_is); (case k21 => k_is); (case a22_0 => k_is); (case l22 => k_is); (case c22 => k_is); (case k22 => k_is); (case a23_0 => k_is); (case l23 => k_is); (case c23 => k_is); (case k23 => k_is); (case a24_0 => k_is); (case l24 => k_is); (case c24 => k_is); (case k24 => k_is); (case a25_0 => k_is); (case l25 => k_is); (case c25 => k_is); (case k25 => k_is); (case a26_0 => k_is); (case l26 => k_is); (case c26 => k_is); (case k26 => k_is); (case a27_0 => k_is); (case l27 => k_is); (case c27 => k_is); (case k27 => k_is); (case a28_0 => k_is); (case l28 => k_is); (case c28 => k_is); (case k28 => k_is); (case a29_0 => k_is); (case l29 => k_is); (case c29 => k_is); (case k29 => k_is); (case a30_0 => k_is); (case l30 => k_is); (case c30 => k_is); (case k30 => k_is); (case a31_0 => k_is); (case l31 => k_is); (case c31 => k_is); (case k31 => k_is); (case a32_0 => k_is); (case l32 => k_is); (case c32 => k_is); (case k32 => k_is); (case z0 => k_is); (case z1 => k_is); (case z2 => k_is); (case z3 => k_is); (case z4 => k_is); (case z5 => k_is); (case z6 => k_is); (case z7 => k_is); (case z8 => k_is); (case z9 => k_is); (case z10 => k_is)
