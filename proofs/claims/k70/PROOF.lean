import PyProof.Rows.All
import Wide.All
import OpenK.AllK
import Wide.FinOn
import HandS.ForMost
import HandS.TupAny
import HandS.TupMul
import HandS.Flow
import HandS.Style
import HandS.DictComp
import HandS.DeepEq
import HandS.Deep
import HandS.Zip
import HandS.Strs
import HandS.IsInst
import HandS.Slots
import HandS.SlotsOwn
import HandS.Property
import HandS.ClsMeth
import HandS.More
import HandS.Walk
import HandS.Sort
import PySem.Challenge.RW_lostplates_k70_whole_halls_of_long_histo
import HandS.OwnEq
import PyProof.DictCopy
import HandS.SetFor
import HandS.Codes
import KE.GoesEnum
import KE.GoesMore
import KE.GoesZip
import HandS.Conv
import HandS.Head0
import HandS.Head1
import HandS.Head2
import HandS.HeadEnd
import HandS.HeadHook1
import HandS.HeadHook2
import HandS.HeadHook3
/-! ## Tp -/
set_option Elab.async false
set_option linter.all false
set_option maxRecDepth 100000
set_option maxHeartbeats 2000000
/-! Tuples with their object known (so that their methods can be called). -/
namespace Lp
open PySem PySem.Spec PyProof.Rows L2
structure TO (o : Obj) : Prop where
  cls : o.cls = .type "tuple"
  dict : o.dict = none
/-- a tuple stands at a, its object known -/
def TupAt (H : Hp) (a : Addr) (xs : List V) : Prop := ∃ o, H a = some (.frz o (.tup xs)) ∧ TO o
theorem TupAt.sq {K : PySem.W.Frag} {H : Hp} {a : Addr} {xs : List V} (h : TupAt H a xs) : SqT K H a xs := let ⟨o, e, _⟩ := h; .inl (.inr ⟨o, e⟩)
theorem TupAt.mono {H H' : Hp} {a : Addr} {xs : List V} (h : TupAt H a xs) (s : Same H H') : TupAt H' a xs := let ⟨o, e, t⟩ := h; ⟨o, s _ _ e, t⟩
/-- what follows behind a new tuple -/
def NewT (xs : List V) (H : Hp) (Q : VK) : Prop := ∀ p o, H p = none → TO o → Q (.ref p) (upd H p (.frz o (.tup xs)))
section
variable {X : Cx} {pins : List (Addr × Obj)} {σ : L2.St} {H : Hp} {s : Shared}
theorem laidT {h' : Heap} {t' : Nat} {xs : List V} {its : List Value} (I : Inv X pins σ H s) (k : ∀ b u, s.heap.get? b = some u → h'.get? b = some u) {a : Addr} (hp : s.heap.objs.size ≤ a) (z : xs.length ≤ sizeLine) (r : Vals xs its) (hg : h'.get? a = some { cls := .type "tuple", data := .seq its.toArray }) :
    Inv X pins σ (upd H a (.frz { cls := .type "tuple", data := .seq its.toArray } (.tup xs))) { s with heap := h', toks := t' } :=
  I.laid k hp ⟨hg, z, its, r, _, hg, rfl, _, rfl⟩
theorem endT {Q : VK} {xs : List V} {its : List Value} (I : Inv X pins σ H s) (z : xs.length ≤ sizeLine) (r : Vals xs its) (q : NewT xs H Q) {t' : Nat} :
    EP X pins σ Q (.ref s.heap.objs.size) { s with heap := s.heap.push { cls := .type "tuple", data := .seq its.toArray }, toks := t' } :=
  ⟨.ref s.heap.objs.size, _, laidT I (fun b u e => Heap.get?_push_of_some _ e) (Nat.le_refl _) z r (Heap.get?_push_size _ rfl), rfl, q _ _ (I.hok.fresh (Nat.le_refl _)) ⟨rfl, rfl⟩⟩
end
section
variable {X : Cx} {es : List Expr} {t : TA} {pos : Pos}
def tTupF (t : TA) : TE := fun σ H Q => t σ H fun xs H1 => xs.length ≤ sizeLine ∧ NewT xs H1 Q
theorem pe_tupF {k : Nat} (h : PA X es t) : PE X (.Tuple es k pos) (tTupF t) := by
  refine ⟨fun pins s σ H Q I hq => ?_⟩
  exact wpAny_Tuple_spliced (thn (h.run pos pins s σ H _ I hq) fun us s1 ⟨xs, H1, I1, r, z, q⟩ => ⟨by rw [← r.length]; exact z, endT (t' := s1.toks) I1 z r q⟩)
def rCatF (K : PySem.W.Frag) : L2.R2 := fun x y H Q => ∃ a b xs ys, x = .ref a ∧ y = .ref b ∧ SqT K H a xs ∧ SqT K H b ys ∧ xs.length + ys.length ≤ sizeLine ∧
  (xs = [] → Q (.ref b) H) ∧ (xs ≠ [] → ys = [] → Q (.ref a) H) ∧ (xs ≠ [] → ys ≠ [] → NewT (xs ++ ys) H Q)
theorem op_catF : OpR X (binaryOp .Add) (rCatF X.K) := by
  intro pins s σ H x y v u Q I rx ry h
  obtain ⟨a, b, xs, ys, rfl, rfl, ha, hb, hz, q0, q1, q2⟩ := h
  cases rx
  cases ry
  obtain ⟨its, r1, p1, _⟩ := I.tuple ha
  obtain ⟨its2, r2, p2, _⟩ := I.tuple hb
  by_cases hx : xs = []
  · subst hx
    cases r1
    exact cat_tup0 p1 p2 ⟨.ref b, H, I, rfl, q0 rfl⟩
  · have hi : its ≠ [] := fun e => hx (r1.nil_iff.mp e)
    refine HT.cat_tup p1 p2 hi (fun e => ?_) (fun e => ?_) (by rw [← r1.length, ← r2.length]; exact hz)
    · exact ⟨.ref a, H, I, rfl, q1 hx (r2.nil_iff.mp e)⟩
    · exact endT (t' := s.toks) I (by rw [List.length_append]; exact hz) (r1.append r2) (q2 hx fun e' => e (r2.nil_iff.mpr e'))
def rSlF (K : PySem.W.Frag) : V → Option Int → Option Int → Hp → VK → Prop := fun x lo hi H Q => ∃ a xs, x = .ref a ∧ SqT K H a xs ∧
  (HT.sIx xs.length 0 lo = 0 ∧ HT.sIx xs.length xs.length hi = xs.length → Q (.ref a) H) ∧ (¬ (HT.sIx xs.length 0 lo = 0 ∧ HT.sIx xs.length xs.length hi = xs.length) → NewT (cutV xs lo hi) H Q)
theorem sl_tupF : SlR X (rSlF X.K) := by
  intro pins s σ H x v vl vu lo hi sl Q I rx hs pl pu h
  obtain ⟨a, xs, rfl, hx, q1, q2⟩ := h
  cases rx
  obtain ⟨its, r, ht, hz⟩ := I.tuple hx
  have hlen : its.toArray.size = xs.length := by rw [List.size_toArray]; exact r.length.symm
  refine ⟨"tuple", _, PyProof.Rows.slot_tuple_getitem.lookup, ht.typeIs, ?_⟩
  by_cases hw : HT.sIx xs.length 0 lo = 0 ∧ HT.sIx xs.length xs.length hi = xs.length
  · exact getItem_tuple_whole ht hs pl pu (by rw [hlen]; exact hw) ⟨.ref a, H, I, rfl, q1 hw⟩
  · refine HT.getItem_tuple_cut ht hs pl pu (by rw [hlen]; exact hw) ?_ (by rw [hlen]; exact hz)
    have e : ((its.toArray.toList.drop (HT.sIx its.toArray.size 0 lo)).take (HT.sIx its.toArray.size its.toArray.size hi - HT.sIx its.toArray.size 0 lo)) = (its.drop (HT.sIx xs.length 0 lo)).take (HT.sIx xs.length xs.length hi - HT.sIx xs.length 0 lo) := by rw [hlen]
    rw [e]
    exact endT (t' := s.toks) I (Nat.le_trans (cutV_length xs lo hi) hz) ((r.drop _).take _) (q2 hw)
theorem call_tupleF : CallR X (.type "tuple") (fun xs H Q => ∃ p ys, xs = [.ref p] ∧ SqL X.K H p ys ∧ NewT ys H Q) := by
  intro pins s σ H xs us Q I r h
  obtain ⟨p, ys, rfl, hq, q⟩ := h
  obtain ⟨u, rfl, rx⟩ := vals1 r
  cases rx
  obtain ⟨its, r', pl, hz⟩ := I.list hq
  have hlen := r'.length
  refine call_tuple_list pl.isList (fun h' kp => ?_) (by simp only [List.size_toArray]; omega)
  have I1 : Inv X pins σ H { s with heap := h' } := I.kept (t' := s.toks) kp
  exact endT (t' := s.toks) I1 hz r' q
/-- t * k, k at least 2 -/
def rRepF (K : PySem.W.Frag) : L2.R2 := fun x y H Q => ∃ l k xs, x = .ref l ∧ y = .int k ∧ SqT K H l xs ∧ xs ≠ [] ∧ 2 ≤ k ∧ k ≤ 1000 ∧ xs.length ≤ 1000 ∧ NewT (List.replicate k.toNat xs).flatten H Q
theorem op_repF : OpR X (binaryOp .Mult) (rRepF X.K) := by
  intro pins s σ H x y v u Q I rx ry h
  obtain ⟨l, k, xs, rfl, rfl, hT, hne, h1, h2, hz, q⟩ := h
  cases rx
  obtain ⟨t, rfl⟩ := ry
  obtain ⟨its, r, ⟨⟨cls, dd, data, sl⟩, ho, hc, n, hd⟩, hs⟩ := I.tuple hT
  simp only at hc hd
  subst hc hd
  have hle : its.length = xs.length := r.length.symm
  have hn : its ≠ [] := fun e => hne (r.nil_iff.mp e)
  have hi : its.toArray.isEmpty = false := by cases its with | nil => exact absurd rfl hn | cons a b => rfl
  have hsz0 : its.toArray.size = xs.length := by rw [List.size_toArray, hle]
  have hm : ((its.toArray.size : Nat) : Int) * k ≤ 1000000 := by
    rw [hsz0]
    have a1 : ((xs.length : Nat) : Int) * k ≤ 1000 * k := Int.mul_le_mul_of_nonneg_right (by omega) (by omega)
    omega
  have a2 : k.toNat * xs.length ≤ 1000 * 1000 := Nat.mul_le_mul (by omega) hz
  have flen : (List.replicate k.toNat its).flatten.length ≤ sizeLine := by
    rw [PyProof.Rows.lm_len_rep_flat, hle, sizeLine_eq]; omega
  have c0 : (decide (k < -(2 ^ 63)) || decide (k ≥ 2 ^ 63)) = false := by simp only [Bool.or_eq_false_iff, decide_eq_false_iff_not]; omega
  have c1 : (its.toArray.isEmpty || k == 1) = false := by simp only [hi, Bool.false_or, beq_eq_false_iff_ne]; omega
  have c2 : (decide (k ≤ 0) || its.toArray.isEmpty) = false := by simp only [hi, Bool.or_false, decide_eq_false_iff_not]; omega
  have c4 : Builtin.Tuple.tupleTooMany (((its.toArray.size : Nat) : Int) * k) = false := by
    unfold Builtin.Tuple.tupleTooMany
    simp only [sizeLine_eq, decide_eq_false_iff_not]
    omega
  refine wpAny_binaryOp_repeat_ref (T := "tuple") (U := "int") (by decide) ⟨_, ho, rfl⟩ (fun s' => typeIs_int s' k t) noFill_tuple_mul PySem.F.fills_int_mul PySem.F.slot_int_rmul repeat_tuple PySem.F.slot_int_index.lookup
    (call_meets PySem.F.slot_int_rmul (typeIs_int s k t) PySem.F.entry_int_rmul (PySem.F.args_int_rmul_2 _ _) (int_rmul_tuple k t l its.toArray n dd sl)
      ⟨ho, rfl, ⟨_, ho, rfl⟩, call_meets PySem.F.slot_tuple_mul ⟨_, ho, rfl⟩ PySem.F.entry_tuple_mul (PySem.F.args_tuple_mul_2 _ _) (tuple_mulW l its.toArray n dd sl k t c0 c1 c2 (by omega) c4 (by rw [size_rep, List.size_toArray]; exact flen)) ⟨ho, ?_⟩⟩)
  rw [size_rep]
  exact endT (t' := s.toks) I (by rw [PyProof.Rows.lm_len_rep_flat, sizeLine_eq]; omega) (r.rep k.toNat) q
end
end Lp
/-! ## Fw -/
set_option Elab.async false
set_option linter.all false
set_option maxRecDepth 100000
set_option maxHeartbeats 2000000
/-! Forward symbolic execution over the hand layer, with a store of finished data beside the heap. -/
namespace Lp
open PySem PySem.Spec PyProof.Rows L2

/-! ### the layer's rules with each part left as "it runs so" -/
section
variable {X : Cx} {σ : L2.St} {H : Hp}
def RunE (X : Cx) (e : Expr) : TE := fun σ H Q => ∀ (pins : List (Addr × Obj)) (s : Shared), Inv X pins σ H s → wpAny (model X.prog X.w) X.A (eval e X.env) (EP X pins σ Q) X.xe s
def RunT (X : Cx) (e : Expr) : TT := fun σ H Q => ∀ (pins : List (Addr × Obj)) (s : Shared), Inv X pins σ H s → wpAny (model X.prog X.w) X.A (isTrue e X.env (eval e X.env)) (TP X pins σ Q) X.xe s
def RunW (X : Cx) (e : Expr) : TT := fun σ H Q => ∀ (whole : Sem Value) (pins : List (Addr × Obj)) (s : Shared), Inv X pins σ H s → wpAny (model X.prog X.w) X.A (isTrue e X.env whole) (TP X pins σ Q) X.xe s
def RunA (X : Cx) (es : List Expr) : TA := fun σ H Q => ∀ (pos : Pos) (pins : List (Addr × Obj)) (s : Shared), Inv X pins σ H s → wpAny (model X.prog X.w) X.A (spliced (backTo pos (starEach es X.env))) (AP X pins σ Q) X.xe s
def RunC (X : Cx) (st : Stmt) : TS := fun D σ H => ∀ (pins : List (Addr × Obj)) (s : Shared), Inv X pins σ H s → wpAny (model X.prog X.w) X.A (exec st X.env) (SP X pins D) X.xe s
def RunS (X : Cx) (sts : List Stmt) : TS := fun D σ H => ∀ (pins : List (Addr × Obj)) (s : Shared), Inv X pins σ H s → wpAny (model X.prog X.w) X.A (execs sts X.env) (SP X pins D) X.xe s
def RunI (X : Cx) (tg iter : Expr) : TI := fun σ H R => ∀ (pins : List (Addr × Obj)) (s : Shared), Inv X pins σ H s →
  wpAny (model X.prog X.w) X.A (eval iter X.env) (fun v s1 => wpAny (model X.prog X.w) X.A (pyIter v) (PIE X pins σ tg R) X.xe s1) X.xe s
theorem sE {e : Expr} : PE X e (RunE X e) := ⟨fun pins s _ _ _ I h => h pins s I⟩
theorem sT {e : Expr} : PT X e (RunT X e) := ⟨fun pins s _ _ _ I h => h pins s I⟩
theorem sW {e : Expr} : PW X e (RunW X e) := ⟨fun wh pins s _ _ _ I h => h wh pins s I⟩
theorem sA {es : List Expr} : PA X es (RunA X es) := ⟨fun pos pins s _ _ _ I h => h pos pins s I⟩
theorem sC {st : Stmt} : PS X st (RunC X st) := ⟨fun pins s _ _ _ I h => h pins s I⟩
theorem sS {sts : List Stmt} : PSs X sts (RunS X sts) := ⟨fun pins s _ _ _ I h => h pins s I⟩
theorem sI {tg iter : Expr} : PI X tg iter (RunI X tg iter) := ⟨fun pins s _ _ _ I h => h pins s I⟩
theorem gE {e : Expr} {t : TE} {Q : VK} (h : PE X e t) (q : t σ H Q) : RunE X e σ H Q := fun pins s I => h.run pins s σ H Q I q
theorem gT {e : Expr} {t : TT} {Q : Bool → Hp → Prop} (h : PT X e t) (q : t σ H Q) : RunT X e σ H Q := fun pins s I => h.run pins s σ H Q I q
theorem gW {e : Expr} {t : TT} {Q : Bool → Hp → Prop} (h : PW X e t) (q : t σ H Q) : RunW X e σ H Q := fun wh pins s I => h.run wh pins s σ H Q I q
theorem gA {es : List Expr} {t : TA} {Q : List V → Hp → Prop} (h : PA X es t) (q : t σ H Q) : RunA X es σ H Q := fun pos pins s I => h.run pos pins s σ H Q I q
theorem gC {st : Stmt} {t : TS} {D : Ends} (h : PS X st t) (q : t D σ H) : RunC X st D σ H := fun pins s I => h.run pins s σ H D I q
theorem gS {sts : List Stmt} {t : TS} {D : Ends} (h : PSs X sts t) (q : t D σ H) : RunS X sts D σ H := fun pins s I => h.run pins s σ H D I q
theorem gI {tg iter : Expr} {t : TI} {R : It → Hp → Prop} (h : PI X tg iter t) (q : t σ H R) : RunI X tg iter σ H R := fun pins s I => h.run pins s σ H R I q
/-- one statement, then the rest -/
theorem st {c : Stmt} {rest : List Stmt} {t : TS} {D : Ends} (h : PS X c t) (q : t { D with nx := RunS X rest D } σ H) : RunS X (c :: rest) D σ H := gS (pss_cons h sS) q
/-- the last statement -/
theorem st1 {c : Stmt} {t : TS} {D : Ends} (h : PS X c t) (q : t D σ H) : RunS X [c] D σ H := gS (pss_one h) q
theorem st0 {D : Ends} (q : D.nx σ H) : RunS X [] D σ H := gS pss_nil q
end

/-! ### the store of finished data G below the heap H -/
structure Gr (m : Addr → Prop) (G H G' H' : Hp) : Prop where
  g : Same G G'
  s : Same G' H'
  h : ∀ a o, ¬ m a → H a = some o → H' a = some o
  n : ∀ a o, H a = some o → G' a = G a
  t : ∀ a o, H a = some o → ∃ o', H' a = some o'
abbrev no : Addr → Prop := fun _ => False
abbrev Gr0 := Gr no
theorem Gr.refl {m : Addr → Prop} {G H : Hp} (s : Same G H) : Gr m G H G H := ⟨Same.refl G, s, fun _ _ _ e => e, fun _ _ _ => rfl, fun _ o e => ⟨o, e⟩⟩
theorem Gr.trans {m : Addr → Prop} {G H G1 H1 G2 H2 : Hp} (a : Gr m G H G1 H1) (b : Gr m G1 H1 G2 H2) : Gr m G H G2 H2 where
  g := a.g.trans b.g
  s := b.s
  h := fun c o hm e => b.h c o hm (a.h c o hm e)
  n := fun c o e => by
    obtain ⟨o', e'⟩ := a.t c o e
    rw [b.n c o' e', a.n c o e]
  t := fun c o e => by
    obtain ⟨o', e'⟩ := a.t c o e
    exact b.t c o' e'
theorem Gr.mono {m m' : Addr → Prop} {G H G' H' : Hp} (a : Gr m G H G' H') (hm : ∀ x, m x → m' x) : Gr m' G H G' H' := ⟨a.g, a.s, fun c o z e => a.h c o (fun q => z (hm c q)) e, a.n, a.t⟩
theorem Gr.up {m : Addr → Prop} {G H G' H' : Hp} (a : Gr0 G H G' H') : Gr m G H G' H' := a.mono fun _ z => z.elim
theorem Gr.to {m : Addr → Prop} {G H G1 H1 G2 H2 : Hp} (a : Gr m G H G1 H1) (b : Gr0 G1 H1 G2 H2) : Gr m G H G2 H2 := a.trans b.up
theorem Gr.H {G H G' H' : Hp} (a : Gr0 G H G' H') : Same H H' := fun c o e => a.h c o (fun z => z) e
/-- what is not in the store and stands in the heap stays out of the store -/
theorem Gr.out {m : Addr → Prop} {G H G' H' : Hp} {a : Addr} {o : HO} (x : Gr m G H G' H') (e : H a = some o) (n : G a = none) : G' a = none := by rw [x.n a o e]; exact n
theorem sub_none {G H : Hp} {a : Addr} (s : Same G H) (n : H a = none) : G a = none := s.free n
/-- a new object, finished -/
theorem Gr.new {m : Addr → Prop} {G H : Hp} {p : Addr} {o : HO} (s : Same G H) (n : H p = none) : Gr m G H (upd G p o) (upd H p o) where
  g := fun c u e => by rw [upd_ne (ne_of_none e (s.free n))]; exact e
  s := fun c u e => by
    by_cases hc : c = p
    · subst hc; rw [upd_same] at e ⊢; exact e
    · rw [upd_ne hc] at e ⊢; exact s _ _ e
  h := fun c u _ e => by rw [upd_ne (ne_of_none e n)]; exact e
  n := fun c u e => by rw [upd_ne (ne_of_none e n)]
  t := fun c u e => ⟨u, by rw [upd_ne (ne_of_none e n)]; exact e⟩
/-- a new object, not finished -/
theorem Gr.raw {m : Addr → Prop} {G H : Hp} {p : Addr} {o : HO} (s : Same G H) (n : H p = none) : Gr m G H G (upd H p o) where
  g := Same.refl G
  s := fun c u e => by rw [upd_ne (ne_of_none e (s.free n))]; exact s _ _ e
  h := fun c u _ e => by rw [upd_ne (ne_of_none e n)]; exact e
  n := fun _ _ _ => rfl
  t := fun c u e => ⟨u, by rw [upd_ne (ne_of_none e n)]; exact e⟩
/-- an object that is no finished data is written -/
theorem Gr.set {m : Addr → Prop} {G H : Hp} {p : Addr} {o : HO} (s : Same G H) (n : G p = none) (hm : m p) : Gr m G H G (upd H p o) where
  g := Same.refl G
  s := fun c u e => by rw [upd_ne (ne_of_none e n)]; exact s _ _ e
  h := fun c u z e => by
    rw [upd_ne (fun q : c = p => z (by rw [q]; exact hm))]; exact e
  n := fun _ _ _ => rfl
  t := fun c u e => by
    by_cases hc : c = p
    · exact ⟨o, by rw [hc, upd_same]⟩
    · exact ⟨u, by rw [upd_ne hc]; exact e⟩
/-- .. one that was made since (G0, H0) -/
theorem Gr.set' {m : Addr → Prop} {G0 H0 G H : Hp} {p : Addr} {o : HO} (x : Gr m G0 H0 G H) (n : G p = none) (n0 : H0 p = none) : Gr m G0 H0 G (upd H p o) where
  g := x.g
  s := fun c u e => by rw [upd_ne (ne_of_none e n)]; exact x.s _ _ e
  h := fun c u z e => by rw [upd_ne (ne_of_none e n0)]; exact x.h c u z e
  n := x.n
  t := fun c u e => by rw [upd_ne (ne_of_none e n0)]; exact x.t c u e
/-- it is finished -/
theorem Gr.fin {m : Addr → Prop} {G0 H0 G H : Hp} {p : Addr} {o : HO} (x : Gr m G0 H0 G H) (e : H p = some o) (n : G p = none) (n0 : H0 p = none) : Gr m G0 H0 (upd G p o) H ∧ Same G (upd G p o) where
  left := {
    g := fun c u q => by
      rw [upd_ne (ne_of_none (x.g _ _ q) n)]; exact x.g _ _ q
    s := fun c u q => by
      by_cases hc : c = p
      · subst hc; rw [upd_same] at q; rw [e]; exact q
      · rw [upd_ne hc] at q; exact x.s _ _ q
    h := x.h
    n := fun c u q => by rw [upd_ne (ne_of_none q n0)]; exact x.n c u q
    t := x.t }
  right := fun c u q => by rw [upd_ne (ne_of_none q n)]; exact q

/-! ### modes: some addresses m are written, I stays -/
structure Md where
  m : Addr → Prop
  I : Hp → Hp → Prop
  dom : ∀ {G H : Hp} {a : Addr}, I G H → m a → ∃ o, H a = some o
  mo : ∀ {G H G' H' : Hp}, I G H → Same G G' → (∀ a, m a → H' a = H a ∧ G' a = G a) → I G' H'
def pureM : Md := ⟨no, fun _ _ => True, fun _ h => h.elim, fun _ _ _ => trivial⟩
structure Gw (W : Md) (G H G' H' : Hp) : Prop where
  gr : Gr W.m G H G' H'
  i : W.I G' H'
structure Ok (W : Md) (G H : Hp) : Prop where
  s : Same G H
  i : W.I G H
section
variable {W : Md} {G H G1 H1 G2 H2 G0 H0 : Hp} {p : Addr} {o : HO}
theorem Ok.pure (s : Same G H) : Ok pureM G H := ⟨s, trivial⟩
theorem Ok.rf (x : Ok W G H) : Gw W G H G H := ⟨.refl x.s, x.i⟩
theorem Gw.g (x : Gw W G H G1 H1) : Same G G1 := x.gr.g
theorem Gw.s (x : Gw W G H G1 H1) : Same G1 H1 := x.gr.s
theorem Gw.ok (x : Gw W G H G1 H1) : Ok W G1 H1 := ⟨x.s, x.i⟩
theorem Gw.rf (x : Gw W G H G1 H1) : Gw W G1 H1 G1 H1 := x.ok.rf
theorem Gw.trans (x : Gw W G H G1 H1) (y : Gw W G1 H1 G2 H2) : Gw W G H G2 H2 := ⟨x.gr.trans y.gr, y.i⟩
theorem Gw.up0 (x : Ok W G H) (y : Gr0 G H G1 H1) : Gw W G H G1 H1 := ⟨y.up, W.mo x.i y.g fun a h => by
  obtain ⟨o, e⟩ := W.dom x.i h
  exact ⟨(y.H a o e).trans e.symm, y.n a o e⟩⟩
theorem Gw.to0 (x : Gw pureM G H G1 H1) : Gr0 G H G1 H1 := x.gr
theorem Gw.nw (x : Gw W G H G1 H1) (n : H1 p = none) : Gw W G1 H1 (upd G1 p o) (upd H1 p o) := Gw.up0 x.ok (Gr.new x.s n)
theorem Gw.nm (x : Gw W G H G1 H1) (n : H1 p = none) : ¬ W.m p := fun h => by
  obtain ⟨o, e⟩ := W.dom x.i h
  rw [n] at e
  cases e
theorem Gw.raw (x : Gw W G H G1 H1) (n : H1 p = none) : Gw W G1 H1 G1 (upd H1 p o) := Gw.up0 x.ok (Gr.raw x.s n)
theorem Gw.set' (x : Gw W G0 H0 G H) (nm : ¬ W.m p) (n : G p = none) (n0 : H0 p = none) : Gw W G0 H0 G (upd H p o) := ⟨Gr.set' x.gr n n0, W.mo x.i (Same.refl G) fun a h => ⟨upd_ne fun q => nm (q ▸ h), rfl⟩⟩
theorem Gw.fin (x : Gw W G0 H0 G H) (nm : ¬ W.m p) (e : H p = some o) (n : G p = none) (n0 : H0 p = none) : Gw W G0 H0 (upd G p o) H ∧ Same G (upd G p o) :=
  ⟨⟨(Gr.fin x.gr e n n0).1, W.mo x.i (Gr.fin x.gr e n n0).2 fun a h => ⟨rfl, upd_ne fun q => nm (q ▸ h)⟩⟩, (Gr.fin x.gr e n n0).2⟩
theorem Gw.out {a : Addr} (x : Gw W G H G1 H1) (e : H a = some o) (n : G a = none) : G1 a = none := x.gr.out e n
end

/-! ### what data a value shows in the store -/
structure Rel where
  p : V → Hp → Prop
  mo : ∀ {v : V} {G G' : Hp}, Same G G' → p v G → p v G'
def isV (x : V) : Rel := ⟨fun v _ => v = x, fun _ h => h⟩
abbrev isI (i : Int) : Rel := isV (.int i)
abbrev isN (n : Nat) : Rel := isV (.int (n : Int))
abbrev isS (x : Str) : Rel := isV (.str x)
abbrev isB (b : Bool) : Rel := isV (.bl b)
abbrev isO : Rel := isV .non
abbrev PR (G : Hp) : List V → List Rel → Prop := Paired fun v R => R.p v G
theorem PR.mo {G G' : Hp} (s : Same G G') {vs : List V} {Rs : List Rel} (h : PR G vs Rs) : PR G' vs Rs := Paired.mapP h fun _ R q => R.mo s q
def tupR (Rs : List Rel) : Rel := ⟨fun v G => ∃ a vs, v = .ref a ∧ TupAt G a vs ∧ PR G vs Rs, fun s ⟨a, vs, e, h, q⟩ => ⟨a, vs, e, h.mono s, PR.mo s q⟩⟩
def lstR (Rs : List Rel) : Rel := ⟨fun v G => ∃ a vs, v = .ref a ∧ G a = some (.lst vs) ∧ PR G vs Rs, fun s ⟨a, vs, e, h, q⟩ => ⟨a, vs, e, s _ _ h, PR.mo s q⟩⟩
abbrev PD (G : Hp) : List (Key × V) → List (Str × Rel) → Prop := Paired fun p q => p.1 = Sum.inr q.1 ∧ q.2.p p.2 G
theorem PD.mo {G G' : Hp} (s : Same G G') {kvs : List (Key × V)} {Rs : List (Str × Rel)} (h : PD G kvs Rs) : PD G' kvs Rs := Paired.mapP h fun _ R q => ⟨q.1, R.2.mo s q.2⟩
def dctR (Rs : List (Str × Rel)) : Rel := ⟨fun v G => ∃ a kvs, v = .ref a ∧ G a = some (.dK kvs) ∧ PD G kvs Rs, fun s ⟨a, vs, e, h, q⟩ => ⟨a, vs, e, s _ _ h, PD.mo s q⟩⟩
theorem PR.get {G : Hp} : ∀ {vs : List V} {Rs : List Rel} {i : Nat} {R : Rel}, PR G vs Rs → Rs[i]? = some R → ∃ v, vs[i]? = some v ∧ R.p v G
  | _, _, 0, _, .cons r _, e => by simp at e; subst e; exact ⟨_, rfl, r⟩
  | _, _, i + 1, R, .cons _ t, e => by
    obtain ⟨v, h1, h2⟩ := PR.get (i := i) (R := R) t (by simpa using e)
    exact ⟨v, by simpa using h1, h2⟩
theorem PR.len {G : Hp} {vs : List V} {Rs : List Rel} (h : PR G vs Rs) : vs.length = Rs.length := Paired.length h
theorem PR.vals {G : Hp} : ∀ {vs xs : List V}, PR G vs (xs.map isV) → vs = xs
  | _, [], .nil => rfl
  | _, _ :: _, .cons r t => by rw [PR.vals t]; exact congrArg (· :: _) r
theorem PR.ofVals {G : Hp} : ∀ xs : List V, PR G xs (xs.map isV)
  | [] => .nil
  | _ :: xs => .cons rfl (PR.ofVals xs)
theorem PR.app {G : Hp} : ∀ {vs ws : List V} {Rs Ss : List Rel}, PR G vs Rs → PR G ws Ss → PR G (vs ++ ws) (Rs ++ Ss)
  | _, _, _, _, .nil, q => q
  | _, _, _, _, .cons r t, q => .cons r (PR.app t q)
theorem PR.take {G : Hp} : ∀ {vs : List V} {Rs : List Rel} (n : Nat), PR G vs Rs → PR G (vs.take n) (Rs.take n)
  | _, _, 0, _ => .nil
  | _, _, _ + 1, .nil => .nil
  | _, _, n + 1, .cons r t => .cons r (PR.take n t)
theorem PR.drop {G : Hp} : ∀ {vs : List V} {Rs : List Rel} (n : Nat), PR G vs Rs → PR G (vs.drop n) (Rs.drop n)
  | _, _, 0, r => r
  | _, _, _ + 1, .nil => .nil
  | _, _, n + 1, .cons _ t => PR.drop n t
theorem PR.at {G : Hp} {vs : List V} {Rs : List Rel} {i : Int} {R : Rel} (h : PR G vs Rs) (e : atI Rs i = some R) : ∃ v, atI vs i = some v ∧ R.p v G := by
  unfold atI at e ⊢
  rw [h.len]
  cases q : ixN Rs.length i with
  | none => rw [q] at e; cases e
  | some j =>
    rw [q] at e
    exact h.get e
theorem PR.cut {G : Hp} {vs : List V} {Rs : List Rel} (h : PR G vs Rs) (lo hi : Option Int) : PR G (cutV vs lo hi) ((Rs.drop (HT.sIx Rs.length 0 lo)).take (HT.sIx Rs.length Rs.length hi - HT.sIx Rs.length 0 lo)) := by
  unfold cutV
  rw [h.len]
  exact PR.take _ (PR.drop _ h)

/-- one of many -/
def exR {α : Type} (R : α → Rel) : Rel := ⟨fun v G => ∃ a, (R a).p v G, fun s ⟨a, h⟩ => ⟨a, (R a).mo s h⟩⟩
def andR (c : Prop) (R : Rel) : Rel := ⟨fun v G => c ∧ R.p v G, fun s ⟨a, h⟩ => ⟨a, R.mo s h⟩⟩
def pairT (Ra Rb : Rel) : Rel := ⟨fun v G => ∃ T x y, v = .ref T ∧ G T = some (.tup [x, y]) ∧ Ra.p x G ∧ Rb.p y G, fun s ⟨T, x, y, e, h, a, b⟩ => ⟨T, x, y, e, s _ _ h, Ra.mo s a, Rb.mo s b⟩⟩
theorem PR.choose {α β : Type} {G : Hp} {R : α → β → Rel} : ∀ {vs : List V} {xs : List α}, PR G vs (xs.map fun x => exR (R x)) → ∃ ys : List β, ys.length = xs.length ∧ PR G vs (List.zipWith R xs ys)
  | _, [], .nil => ⟨[], rfl, .nil⟩
  | _, _ :: _, .cons ⟨b, r⟩ t => by
    obtain ⟨ys, e, q⟩ := PR.choose t
    exact ⟨b :: ys, by simp [e], .cons r q⟩

/-! ### expressions that make data and change nothing -/
def J (W : Md) (X : Cx) (e : Expr) (σ : L2.St) (G H : Hp) (R : Rel) : Prop := ∀ G1 H1, Gw W G H G1 H1 → ∀ Q : VK, (∀ v G2 H2, Gw W G1 H1 G2 H2 → R.p v G2 → Q v H2) → RunE X e σ H1 Q
def JT (W : Md) (X : Cx) (e : Expr) (σ : L2.St) (G H : Hp) (b : Bool) : Prop := ∀ G1 H1, Gw W G H G1 H1 → ∀ Q : Bool → Hp → Prop, (∀ G2 H2, Gw W G1 H1 G2 H2 → Q b H2) → RunT X e σ H1 Q
def JW (W : Md) (X : Cx) (e : Expr) (σ : L2.St) (G H : Hp) (b : Bool) : Prop := ∀ G1 H1, Gw W G H G1 H1 → ∀ Q : Bool → Hp → Prop, (∀ G2 H2, Gw W G1 H1 G2 H2 → Q b H2) → RunW X e σ H1 Q
def JA (W : Md) (X : Cx) (es : List Expr) (σ : L2.St) (G H : Hp) (Rs : List Rel) : Prop := ∀ G1 H1, Gw W G H G1 H1 → ∀ Q : List V → Hp → Prop, (∀ vs G2 H2, Gw W G1 H1 G2 H2 → PR G2 vs Rs → Q vs H2) → RunA X es σ H1 Q
section
variable {W : Md} {X : Cx} {σ : L2.St} {G H G' H' : Hp} {e a b : Expr} {R R1 R2 : Rel} {pos : Pos}
theorem J.here (h : J W X e σ G H R) (s : Ok W G H) {Q : VK} (q : ∀ v G' H', Gw W G H G' H' → R.p v G' → Q v H') : RunE X e σ H Q := h G H s.rf Q q
theorem JT.here {t : Bool} (h : JT W X e σ G H t) (s : Ok W G H) {Q : Bool → Hp → Prop} (q : ∀ G' H', Gw W G H G' H' → Q t H') : RunT X e σ H Q := h G H s.rf Q q
theorem JA.here {es : List Expr} {Rs : List Rel} (h : JA W X es σ G H Rs) (s : Ok W G H) {Q : List V → Hp → Prop} (q : ∀ vs G' H', Gw W G H G' H' → PR G' vs Rs → Q vs H') : RunA X es σ H Q := h G H s.rf Q q
theorem J.mono (h : J W X e σ G H R) (g : Gw W G H G' H') : J W X e σ G' H' R := fun G1 H1 g1 Q q => h G1 H1 (g.trans g1) Q q
theorem JT.mono {t : Bool} (h : JT W X e σ G H t) (g : Gw W G H G' H') : JT W X e σ G' H' t := fun G1 H1 g1 Q q => h G1 H1 (g.trans g1) Q q
theorem JA.mono {es : List Expr} {Rs : List Rel} (h : JA W X es σ G H Rs) (g : Gw W G H G' H') : JA W X es σ G' H' Rs := fun G1 H1 g1 Q q => h G1 H1 (g.trans g1) Q q
theorem J.imp (h : J W X e σ G H R) (hr : ∀ v G', Same G G' → R.p v G' → R1.p v G') : J W X e σ G H R1 := fun G1 H1 g1 Q q => h G1 H1 g1 Q fun v G2 H2 g2 r => q v G2 H2 g2 (hr v G2 (g1.trans g2).g r)
theorem J.eq (h : J W X e σ G H R) (hr : R = R1) : J W X e σ G H R1 := hr ▸ h
theorem JT.eq {t u : Bool} (h : JT W X e σ G H t) (hr : t = u) : JT W X e σ G H u := hr ▸ h
/-- by a rule of the layer -/
theorem J.pe {t : TE} (h : PE X e t) (q : ∀ G1 H1, Gw W G H G1 H1 → ∀ Q : VK, (∀ v G2 H2, Gw W G1 H1 G2 H2 → R.p v G2 → Q v H2) → t σ H1 Q) : J W X e σ G H R := fun G1 H1 g Q k => gE h (q G1 H1 g Q k)
theorem JT.pt {t : TT} {u : Bool} (h : PT X e t) (q : ∀ G1 H1, Gw W G H G1 H1 → ∀ Q : Bool → Hp → Prop, (∀ G2 H2, Gw W G1 H1 G2 H2 → Q u H2) → t σ H1 Q) : JT W X e σ G H u := fun G1 H1 g Q k => gT h (q G1 H1 g Q k)
/-- .. whose value is told by V and the heap alone, nothing made -/
theorem jv (i : Nat) {x : Str} {v : V} (hσ : σ[i]? = some (some v)) (hr : R.p v G) (hN : X.N[i]? = some x := by rfl) (hv : Vis X.env.scope x := by first | exact Or.inl rfl | exact Or.inr (Or.inl rfl) | exact Or.inr (Or.inr rfl)) (hd : (x == ("__debug__" : Str)) = false := by decide)
    (hcd : (x == ("__classdict__" : Str)) = false := by decide) : J W X (.Name x pos) σ G H R := J.pe (pv i hN hv hd hcd) fun G1 H1 g Q q => ⟨v, hσ, q v G1 H1 g.rf (R.mo g.g hr)⟩
theorem jint {i : Int} {j : Nat} : J W X (.Constant (.int i) j pos) σ G H (isI i) := J.pe pe_int fun G1 H1 g Q q => q _ G1 H1 g.rf rfl
theorem jstr {x : Str} {j : Nat} : J W X (.Constant (.str x) j pos) σ G H (isS x) := J.pe pe_str fun G1 H1 g Q q => q _ G1 H1 g.rf rfl
theorem jbl {x : Bool} {j : Nat} : J W X (.Constant (.bool x) j pos) σ G H (isB x) := J.pe pe_bl fun G1 H1 g Q q => q _ G1 H1 g.rf rfl
theorem jnon {j : Nat} : J W X (.Constant .none j pos) σ G H isO := J.pe pe_non fun G1 H1 g Q q => q _ G1 H1 g.rf rfl
theorem jglob {x : Str} {v : V} {u : Value} (hg : Gl X x) (hm : X.mg x = some u) (r : RelV v u) (hd : (x == ("__debug__" : Str)) = false := by decide) : J W X (.Name x pos) σ G H (isV v) := J.pe (pe_glob hg hm r hd) fun G1 H1 g Q q => q _ G1 H1 g.rf rfl
theorem ja0 : JA W X [] σ G H [] := fun G1 H1 g Q q => gA pa_nil (q [] G1 H1 g.rf .nil)
theorem ja {es : List Expr} {Rs : List Rel} (h : J W X e σ G H R) (hr : JA W X es σ G H Rs) (hs : starEach (e :: es) X.env = (false, eval e X.env) :: starEach es X.env := by rfl) : JA W X (e :: es) σ G H (R :: Rs) := fun G1 H1 g Q q =>
  gA (pa_cons sE sA hs) (h G1 H1 g _ fun v G2 H2 g2 r => hr G2 H2 (g.trans g2) _ fun vs G3 H3 g3 rs => q (v :: vs) G3 H3 (g2.trans g3) (.cons (R.mo g3.g r) rs))
/-- two parts, then a rule on their values -/
theorem two {t : VK → V → V → Hp → Prop} (ha : J W X a σ G H R1) (hb : J W X b σ G H R2) {G1 H1 : Hp} (g : Gw W G H G1 H1) {Q : V → V → Hp → Prop} (q : ∀ x y G2 H2, Gw W G1 H1 G2 H2 → R1.p x G2 → R2.p y G2 → Q x y H2) :
    RunE X a σ H1 fun x H2 => RunE X b σ H2 fun y H3 => Q x y H3 :=
  ha G1 H1 g _ fun x G2 H2 g2 r1 => hb G2 H2 (g.trans g2) _ fun y G3 H3 g3 r2 => q x y G3 H3 (g2.trans g3) (R1.mo g3.g r1) r2
/-- what a rule on two values gives -/
def Tw (W : Md) (r : L2.R2) (G H : Hp) (Ra Rb R : Rel) : Prop := ∀ x y G1 H1, Gw W G H G1 H1 → Ra.p x G1 → Rb.p y G1 → ∀ Q : VK, (∀ v G2 H2, Gw W G1 H1 G2 H2 → R.p v G2 → Q v H2) → r x y H1 Q
theorem jop {op : Operator} {r : L2.R2} (ho : OpR X (binaryOp op) r) (ha : J W X a σ G H R1) (hb : J W X b σ G H R2) (hr : Tw W r G H R1 R2 R) : J W X (.BinOp a op b pos) σ G H R :=
  J.pe (pe_op ho sE sE) fun G1 H1 g Q q => two (t := fun _ _ _ _ => True) ha hb g fun x y G2 H2 g2 r1 r2 => hr x y G2 H2 (g.trans g2) r1 r2 Q fun v G3 H3 g3 z => q v G3 H3 (g2.trans g3) z
theorem jcmp {op : CmpOp} {r : L2.R2} (ho : OpR X (compareOp op) r) (ha : J W X a σ G H R1) (hb : J W X b σ G H R2) (hr : Tw W r G H R1 R2 R) (hm : behindInMarks op b = false := by first | exact nomark _ | rfl) : J W X (.Compare a [op] [b] pos) σ G H R :=
  J.pe (pe_cmpR ho sE sE hm) fun G1 H1 g Q q => two (t := fun _ _ _ _ => True) ha hb g fun x y G2 H2 g2 r1 r2 => hr x y G2 H2 (g.trans g2) r1 r2 Q fun v G3 H3 g3 z => q v G3 H3 (g2.trans g3) z
theorem jtcmp {op : CmpOp} {r : L2.R2} {t : Bool} (ho : OpR X (compareOp op) r) (ha : J W X a σ G H R1) (hb : J W X b σ G H R2) (hr : Tw W r G H R1 R2 (isB t)) (hm : behindInMarks op b = false := by first | exact nomark _ | rfl) : JT W X (.Compare a [op] [b] pos) σ G H t :=
  JT.pt (pt_cmpR ho sE sE hm) fun G1 H1 g Q q => two (t := fun _ _ _ _ => True) ha hb g fun x y G2 H2 g2 r1 r2 => hr x y G2 H2 (g.trans g2) r1 r2 _ fun v G3 H3 g3 z => ⟨t, z, q G3 H3 (g2.trans g3)⟩
theorem jix {r : L2.R2} (ho : IxR X r) (ha : J W X a σ G H R1) (hb : J W X b σ G H R2) (hr : Tw W r G H R1 R2 R) (hs : PlainIx b := by intro _ _; rfl) : J W X (.Subscript a b pos) σ G H R :=
  J.pe (pe_ix ho sE sE hs) fun G1 H1 g Q q => two (t := fun _ _ _ _ => True) ha hb g fun x y G2 H2 g2 r1 r2 => hr x y G2 H2 (g.trans g2) r1 r2 Q fun v G3 H3 g3 z => q v G3 H3 (g2.trans g3) z
theorem Gw.selfQ {G1 H1 : Hp} {v : V} {Q : VK} {R : Rel} (g : Gw W G H G1 H1) (r : R.p v G1) (q : ∀ v G2 H2, Gw W G1 H1 G2 H2 → R.p v G2 → Q v H2) : Q v H1 := q v G1 H1 g.rf r
theorem Tw.exl {α : Type} {r : L2.R2} {Ra R' : α → Rel} {Rb : Rel} (h : ∀ x, Tw W r G H (Ra x) Rb (R' x)) : Tw W r G H (exR Ra) Rb (exR R') := fun x y G1 H1 g ⟨a, ha⟩ hb Q k => h a x y G1 H1 g ha hb Q fun v G2 H2 g2 r => k v G2 H2 g2 ⟨a, r⟩
theorem Tw.exr {α : Type} {r : L2.R2} {Rb R' : α → Rel} {Ra : Rel} (h : ∀ x, Tw W r G H Ra (Rb x) (R' x)) : Tw W r G H Ra (exR Rb) (exR R') := fun x y G1 H1 g ha ⟨b, hb⟩ Q k => h b x y G1 H1 g ha hb Q fun v G2 H2 g2 r => k v G2 H2 g2 ⟨b, r⟩
theorem J.imp' (h : J W X e σ G H R) (q : ∀ v G1 H1, Gw W G H G1 H1 → R.p v G1 → R1.p v G1) : J W X e σ G H R1 := fun G1 H1 g1 Q k => h G1 H1 g1 _ fun v G2 H2 g2 r => k v G2 H2 g2 (q v G2 H2 (g1.trans g2) r)
theorem sqT {K : PySem.W.Frag} {G1 H1 : Hp} (g : Gw W G H G1 H1) {p : Addr} {vs : List V} (e : TupAt G1 p vs) : SqT K H1 p vs := (e.mono g.s).sq
theorem sqL {K : PySem.W.Frag} {G1 H1 : Hp} (g : Gw W G H G1 H1) {p : Addr} {vs : List V} (e : G1 p = some (.lst vs)) : SqL K H1 p vs := SqL.of (g.s _ _ e)
end
end Lp
/-! ## Fw2 -/
set_option Elab.async false
set_option linter.all false
set_option maxRecDepth 100000
set_option maxHeartbeats 2000000
/-! Rules for expressions that make data; comprehensions; defs by their promise. -/
namespace Lp
open PySem PySem.Spec PyProof.Rows L2

section
variable {W : Md} {X : Cx} {σ : L2.St} {G H G' H' : Hp} {e a b c : Expr} {es : List Expr} {R R1 R2 : Rel} {Rs Ss : List Rel} {pos p p2 apos : Pos}
/-! ### items, displays -/
theorem newT {vs : List V} {Q : VK} (s : Ok W G H) (pr : PR G vs Rs) (q : ∀ v G' H', Gw W G H G' H' → (tupR Rs).p v G' → Q v H') : NewT vs H Q := fun u o hu ho => q _ _ _ (s.rf.nw hu) ⟨u, vs, rfl, ⟨o, upd_same, ho⟩, PR.mo (Gr.new (m := no) s.s hu).g pr⟩
theorem jixT {i : Int} (ha : J W X a σ G H (tupR Rs)) (hb : J W X b σ G H (isI i)) (e : atI Rs i = some R) (hs : PlainIx b := by intro _ _; rfl) : J W X (.Subscript a b pos) σ G H R :=
  jix ix_tup ha hb (fun x y G1 H1 g ⟨q, vs, e1, h, pr⟩ hy Q k => by
    obtain ⟨v, hv, r⟩ := pr.at e
    exact ⟨q, vs, i, v, e1, hy, sqT g h, hv, k v G1 H1 g.rf r⟩) hs
theorem jixL {i : Int} (ha : J W X a σ G H (lstR Rs)) (hb : J W X b σ G H (isI i)) (e : atI Rs i = some R) (hs : PlainIx b := by intro _ _; rfl) : J W X (.Subscript a b pos) σ G H R :=
  jix ix_list ha hb (fun x y G1 H1 g ⟨q, vs, e1, h, pr⟩ hy Q k => by
    obtain ⟨v, hv, r⟩ := pr.at e
    exact ⟨q, vs, i, v, e1, hy, sqL g h, hv, k v G1 H1 g.rf r⟩) hs
theorem jixS {z : Str} {i : Int} {d : Nat} (ha : J W X a σ G H (isS z)) (hb : J W X b σ G H (isI i)) (hz : z.length ≤ sizeLine) (e : atI z.cps.toList i = some d) (hs : PlainIx b := by intro _ _; rfl) : J W X (.Subscript a b pos) σ G H (isS ⟨#[d]⟩) :=
  jix ix_str ha hb (fun x y G1 H1 g hx hy Q k => ⟨z, i, d, hx, hy, hz, e, k _ G1 H1 g.rf rfl⟩) hs
theorem jtup {k : Nat} (h : JA W X es σ G H Rs) (hz : Rs.length ≤ 100000) : J W X (.Tuple es k pos) σ G H (tupR Rs) :=
  J.pe (pe_tupF sA) fun G1 H1 g Q q => h G1 H1 g _ fun vs G2 H2 g2 pr => ⟨by rw [pr.len]; exact Nat.le_trans hz (by decide), newT g2.ok pr fun v G3 H3 g3 r => q v G3 H3 (g2.trans g3) r⟩
theorem jlst (h : JA W X es σ G H Rs) (hz : Rs.length ≤ 100000) : J W X (.List es pos) σ G H (lstR Rs) :=
  J.pe (pe_lst sA) fun G1 H1 g Q q => h G1 H1 g _ fun vs G2 H2 g2 pr => ⟨by rw [pr.len]; exact Nat.le_trans hz (by decide), fun u hu => q _ _ _ (g2.trans (g2.nw hu)) ⟨u, vs, rfl, upd_same, PR.mo (Gr.new (m := no) g2.s hu).g pr⟩⟩
/-! ### calls of built-ins -/
theorem jcallB {id : String} {x : Str} {r : List V → Hp → VK → Prop} (hc : CallR X (.builtin id) r) (hg : Gl X x) (hm : X.mg x = none) (hv : bootBuiltins x = some (.builtin id)) (ha : JA W X (e :: es) σ G H Rs)
    (hr : ∀ vs G1 H1, Gw W G H G1 H1 → PR G1 vs Rs → ∀ Q : VK, (∀ v G2 H2, Gw W G1 H1 G2 H2 → R.p v G2 → Q v H2) → r vs H1 Q) (hn : x ≠ "__name__" := by decide) (hdb : (x == ("__debug__" : Str)) = false := by decide)
    (he : starEach (e :: es) X.env = (false, eval e X.env) :: starEach es X.env := by rfl) (hpl : (backTo pos (starEach es X.env)).any (·.1) = false := by rfl) : J W X (.Call (.Name x p) (e :: es) [] pos) σ G H R :=
  J.pe (pe_callB hc hg hm hv sA hn hdb he hpl) fun G1 H1 g Q q => ha G1 H1 g _ fun vs G2 H2 g2 pr => hr vs G2 H2 (g.trans g2) pr Q fun v G3 H3 g3 z => q v G3 H3 (g2.trans g3) z
theorem jcallTy {T : String} {x : Str} {r : List V → Hp → VK → Prop} (hc : CallR X (.type T) r) (hg : Gl X x) (hm : X.mg x = none) (hv : bootBuiltins x = some (.type T)) (ha : JA W X (e :: es) σ G H Rs)
    (hr : ∀ vs G1 H1, Gw W G H G1 H1 → PR G1 vs Rs → ∀ Q : VK, (∀ v G2 H2, Gw W G1 H1 G2 H2 → R.p v G2 → Q v H2) → r vs H1 Q) (hn : x ≠ "__name__" := by decide) (hdb : (x == ("__debug__" : Str)) = false := by decide)
    (he : starEach (e :: es) X.env = (false, eval e X.env) :: starEach es X.env := by rfl) (hpl : (backTo pos (starEach es X.env)).any (·.1) = false := by rfl) : J W X (.Call (.Name x p) (e :: es) [] pos) σ G H R :=
  J.pe (pe_callTy hc hg hm hv sA hn hdb he hpl) fun G1 H1 g Q q => ha G1 H1 g _ fun vs G2 H2 g2 pr => hr vs G2 H2 (g.trans g2) pr Q fun v G3 H3 g3 z => q v G3 H3 (g2.trans g3) z
/-- a built-in's name as a value -/
theorem jbltn {x : Str} {v : V} {u : Value} (hg : Gl X x) (hm : X.mg x = none) (hv : bootBuiltins x = some u) (r : RelV v u) (hn : x ≠ "__name__" := by decide) (hd : (x == ("__debug__" : Str)) = false := by decide) : J W X (.Name x pos) σ G H (isV v) :=
  J.pe (pe_bltn hg hm hv r hn hd) fun G1 H1 g Q q => q _ G1 H1 g.rf rfl
theorem PR.one {v : List V} (h : PR G v [R]) : ∃ x, v = [x] ∧ R.p x G := by
  cases h with
  | cons r t => cases t; exact ⟨_, rfl, r⟩
theorem PR.two {v : List V} (h : PR G v [R1, R2]) : ∃ x y, v = [x, y] ∧ R1.p x G ∧ R2.p y G := by
  cases h with
  | cons r t =>
    obtain ⟨y, e, q⟩ := PR.one t
    subst e
    exact ⟨_, y, rfl, r, q⟩
theorem jlenT (hm : X.mg "len" = none) (h : J W X e σ G H (tupR Rs)) (hg : Gl X "len" := by rfl) (hs : starEach [e] X.env = [(false, eval e X.env)] := by rfl) : J W X (.Call (.Name "len" p) [e] [] pos) σ G H (isN Rs.length) :=
  jcallB call_len_seq hg hm PySem.boot_len (ja h ja0 hs) (fun vs G1 H1 g pr Q k => by
    obtain ⟨x, rfl, a, ws, rfl, h, q⟩ := PR.one pr
    exact ⟨a, ws, rfl, .inr (sqT g h), by rw [q.len]; exact k _ G1 H1 g.rf rfl⟩) (he := hs)
theorem jlenL (hm : X.mg "len" = none) (h : J W X e σ G H (lstR Rs)) (hg : Gl X "len" := by rfl) (hs : starEach [e] X.env = [(false, eval e X.env)] := by rfl) : J W X (.Call (.Name "len" p) [e] [] pos) σ G H (isN Rs.length) :=
  jcallB call_len_seq hg hm PySem.boot_len (ja h ja0 hs) (fun vs G1 H1 g pr Q k => by
    obtain ⟨x, rfl, a, ws, rfl, h, q⟩ := PR.one pr
    exact ⟨a, ws, rfl, .inl (sqL g h), by rw [q.len]; exact k _ G1 H1 g.rf rfl⟩) (he := hs)
theorem jlenS {z : Str} (hm : X.mg "len" = none) (h : J W X e σ G H (isS z)) (hz : z.length ≤ 100000) (hg : Gl X "len" := by rfl) (hs : starEach [e] X.env = [(false, eval e X.env)] := by rfl) : J W X (.Call (.Name "len" p) [e] [] pos) σ G H (isN z.length) :=
  jcallB call_len_str hg hm PySem.boot_len (ja h ja0 hs) (fun vs G1 H1 g pr Q k => by
    obtain ⟨x, rfl, rx⟩ := PR.one pr
    obtain rfl : x = V.str z := rx
    exact ⟨z, rfl, Nat.le_trans hz (by decide), k _ G1 H1 g.rf rfl⟩) (he := hs)
theorem jlistT (hm : X.mg "list" = none) (h : J W X e σ G H (tupR Rs)) (hg : Gl X "list" := by rfl) (hs : starEach [e] X.env = [(false, eval e X.env)] := by rfl) : J W X (.Call (.Name "list" p) [e] [] pos) σ G H (lstR Rs) :=
  jcallTy call_list_of hg hm (by decide +kernel) (ja h ja0 hs) (fun vs G1 H1 g pr Q k => by
    obtain ⟨x, rfl, a, ws, rfl, h, q⟩ := PR.one pr
    exact ⟨a, ws, rfl, .inr (sqT g h), fun l hl => k _ _ _ (g.nw hl) ⟨l, ws, rfl, upd_same, PR.mo (Gr.new (m := no) g.s hl).g q⟩⟩) (he := hs)
theorem jtupL (hm : X.mg "tuple" = none) (h : J W X e σ G H (lstR Rs)) (hg : Gl X "tuple" := by rfl) (hs : starEach [e] X.env = [(false, eval e X.env)] := by rfl) : J W X (.Call (.Name "tuple" p) [e] [] pos) σ G H (tupR Rs) :=
  jcallTy call_tupleF hg hm (by decide +kernel) (ja h ja0 hs) (fun vs G1 H1 g pr Q k => by
    obtain ⟨x, rfl, a, ws, rfl, h, q⟩ := PR.one pr
    exact ⟨a, ws, rfl, sqL g h, newT g.ok q k⟩) (he := hs)
/-! ### operators -/
theorem jadd {i j : Int} (ha : J W X a σ G H (isI i)) (hb : J W X b σ G H (isI j)) : J W X (.BinOp a .Add b pos) σ G H (isI (i + j)) := jop op_add ha hb fun x y G1 H1 g hx hy Q k => ⟨i, j, hx, hy, k _ G1 H1 g.rf rfl⟩
theorem jsub {i j : Int} (ha : J W X a σ G H (isI i)) (hb : J W X b σ G H (isI j)) : J W X (.BinOp a .Sub b pos) σ G H (isI (i - j)) := jop op_sub ha hb fun x y G1 H1 g hx hy Q k => ⟨i, j, hx, hy, k _ G1 H1 g.rf rfl⟩
theorem jmul {i j : Int} (ha : J W X a σ G H (isI i)) (hb : J W X b σ G H (isI j)) (hc : CMul i j) : J W X (.BinOp a .Mult b pos) σ G H (isI (i * j)) := jop op_mul ha hb fun x y G1 H1 g hx hy Q k => ⟨i, j, hx, hy, hc, k _ G1 H1 g.rf rfl⟩
theorem jmod {i j : Int} (ha : J W X a σ G H (isI i)) (hb : J W X b σ G H (isI j)) (hc : 0 < j) : J W X (.BinOp a .Mod b pos) σ G H (isI (i % j)) := jop op_mod ha hb fun x y G1 H1 g hx hy Q k => ⟨i, j, hx, hy, hc, k _ G1 H1 g.rf rfl⟩
theorem jdiv {i j : Int} (ha : J W X a σ G H (isI i)) (hb : J W X b σ G H (isI j)) (hc : CDiv i j) : J W X (.BinOp a .FloorDiv b pos) σ G H (isI (i / j)) := jop op_fdiv ha hb fun x y G1 H1 g hx hy Q k => ⟨i, j, hx, hy, hc, k _ G1 H1 g.rf rfl⟩
theorem jaddS {x y : Str} (ha : J W X a σ G H (isS x)) (hb : J W X b σ G H (isS y)) (hz : x.length + y.length ≤ 100000) : J W X (.BinOp a .Add b pos) σ G H (isS (x ++ y)) := jop op_add_str ha hb fun u v G1 H1 g hx hy Q k => ⟨x, y, hx, hy, Nat.le_trans hz (by decide), k _ G1 H1 g.rf rfl⟩
theorem jcatT (ha : J W X a σ G H (tupR Rs)) (hb : J W X b σ G H (tupR Ss)) (hz : Rs.length + Ss.length ≤ 100000) : J W X (.BinOp a .Add b pos) σ G H (tupR (Rs ++ Ss)) :=
  jop op_catF ha hb fun x y G1 H1 g ⟨q1, vs, e1, h1, pr1⟩ ⟨q2, ws, e2, h2, pr2⟩ Q k => by
    refine ⟨q1, q2, vs, ws, e1, e2, sqT g h1, sqT g h2, by rw [pr1.len, pr2.len]; exact Nat.le_trans hz (by decide), fun n => ?_, fun _ n => ?_, fun _ _ => newT g.ok (pr1.app pr2) k⟩
    · subst n
      have n2 : Rs = [] := List.eq_nil_of_length_eq_zero pr1.len.symm
      subst n2
      exact k _ G1 H1 g.rf ⟨q2, ws, rfl, h2, pr2⟩
    · subst n
      have n2 : Ss = [] := List.eq_nil_of_length_eq_zero pr2.len.symm
      subst n2
      exact k _ G1 H1 g.rf ⟨q1, vs, rfl, h1, by rw [List.append_nil]; exact pr1⟩
theorem jcatL (ha : J W X a σ G H (lstR Rs)) (hb : J W X b σ G H (lstR Ss)) (hz : Rs.length + Ss.length ≤ 100000) : J W X (.BinOp a .Add b pos) σ G H (lstR (Rs ++ Ss)) :=
  jop op_cat ha hb fun x y G1 H1 g ⟨q1, vs, e1, h1, pr1⟩ ⟨q2, ws, e2, h2, pr2⟩ Q k =>
    ⟨q1, q2, vs, ws, e1, e2, g.s _ _ h1, g.s _ _ h2, by rw [pr1.len, pr2.len]; exact Nat.le_trans hz (by decide), fun u hu => k _ _ _ (g.nw hu) ⟨u, _, rfl, upd_same, PR.mo (Gr.new (m := no) g.s hu).g (pr1.app pr2)⟩⟩
/-! ### slices -/
def JO (W : Md) (X : Cx) (e : Option Expr) (σ : L2.St) (G H : Hp) (o : Option Int) : Prop := ∃ t, PO X e t ∧ ∀ G1 H1, Gw W G H G1 H1 → ∀ Q : Option Int → Hp → Prop, (∀ G2 H2, Gw W G1 H1 G2 H2 → Q o H2) → t σ H1 Q
theorem jo0 : JO W X none σ G H none := ⟨_, po_none, fun G1 H1 g Q q => q G1 H1 g.rf⟩
theorem jo1 {i : Int} (h : J W X e σ G H (isI i)) : JO W X (some e) σ G H (some i) := ⟨_, po_some sE, fun G1 H1 g Q q => h G1 H1 g _ fun v G2 H2 g2 r => ⟨i, r, q G2 H2 g2⟩⟩
def cutR (Rs : List Rel) (lo hi : Option Int) : List Rel := (Rs.drop (HT.sIx Rs.length 0 lo)).take (HT.sIx Rs.length Rs.length hi - HT.sIx Rs.length 0 lo)
theorem cut_whole {Rs : List Rel} {lo hi : Option Int} (h : HT.sIx Rs.length 0 lo = 0 ∧ HT.sIx Rs.length Rs.length hi = Rs.length) : cutR Rs lo hi = Rs := by
  unfold cutR
  rw [h.1, h.2]
  simp
theorem jslT {lo hi : Option Expr} {l u : Option Int} (ha : J W X a σ G H (tupR Rs)) (hl : JO W X lo σ G H l) (hu : JO W X hi σ G H u) : J W X (.Subscript a (.Slice lo hi none p2) pos) σ G H (tupR (cutR Rs l u)) := by
  obtain ⟨tl, pl, ql⟩ := hl
  obtain ⟨tu, pu, qu⟩ := hu
  refine J.pe (pe_slice sl_tupF sE pl pu) fun G1 H1 g Q q => ha G1 H1 g _ fun x G2 H2 g2 r => ql G2 H2 (g.trans g2) _ fun G3 H3 g3 => qu G3 H3 ((g.trans g2).trans g3) _ fun G4 H4 g4 => ?_
  obtain ⟨t, vs, e, h, pr⟩ := r
  have h4 : TupAt G4 t vs := h.mono (g3.trans g4).g
  have pr4 := PR.mo (g3.trans g4).g pr
  have gg : Gw W G1 H1 G4 H4 := (g2.trans g3).trans g4
  refine ⟨t, vs, e, sqT gg h4, fun w => ?_, fun _ => ?_⟩
  · refine q _ G4 H4 gg ⟨t, vs, rfl, h4, ?_⟩
    rw [pr.len] at w
    rw [cut_whole w]
    exact pr4
  · exact newT gg.ok (pr4.cut l u) fun v G5 H5 g5 r => q v G5 H5 (gg.trans g5) r
theorem jslL {lo hi : Option Expr} {l u : Option Int} (ha : J W X a σ G H (lstR Rs)) (hl : JO W X lo σ G H l) (hu : JO W X hi σ G H u) : J W X (.Subscript a (.Slice lo hi none p2) pos) σ G H (lstR (cutR Rs l u)) := by
  obtain ⟨tl, pl, ql⟩ := hl
  obtain ⟨tu, pu, qu⟩ := hu
  refine J.pe (pe_slice sl_list sE pl pu) fun G1 H1 g Q q => ha G1 H1 g _ fun x G2 H2 g2 r => ql G2 H2 (g.trans g2) _ fun G3 H3 g3 => qu G3 H3 ((g.trans g2).trans g3) _ fun G4 H4 g4 => ?_
  obtain ⟨t, vs, e, h, pr⟩ := r
  have h4 : G4 t = some (.lst vs) := (g3.trans g4).g _ _ h
  have pr4 := PR.mo (g3.trans g4).g pr
  have gg : Gw W G1 H1 G4 H4 := (g2.trans g3).trans g4
  exact ⟨t, vs, e, sqL gg h4, fun n hn => q _ _ _ (gg.trans (gg.nw hn)) ⟨n, _, rfl, upd_same, PR.mo (Gr.new (m := no) gg.s hn).g (pr4.cut l u)⟩⟩
/-! ### comparisons, as values and as tests -/
section
variable {i j : Int} {x y : V} {xs : List V}
theorem tw_lt : Tw W (rI0 fun i j => .bl (decide (i < j))) G H (isI i) (isI j) (isB (decide (i < j))) := fun _ _ G1 H1 g hx hy Q k => ⟨i, j, hx, hy, k _ G1 H1 g.rf rfl⟩
theorem tw_le : Tw W (rI0 fun i j => .bl (decide (i ≤ j))) G H (isI i) (isI j) (isB (decide (i ≤ j))) := fun _ _ G1 H1 g hx hy Q k => ⟨i, j, hx, hy, k _ G1 H1 g.rf rfl⟩
theorem tw_eq (h : scal x y = true) : Tw W L2.rEq G H (isV x) (isV y) (isB (decide (x = y))) := fun u v G1 H1 g hx hy Q k => by
  obtain rfl : u = x := hx
  obtain rfl : v = y := hy
  exact ⟨h, k _ G1 H1 g.rf rfl⟩
theorem tw_ne (h : scal x y = true) : Tw W L2.rNe G H (isV x) (isV y) (isB (!decide (x = y))) := fun u v G1 H1 g hx hy Q k => by
  obtain rfl : u = x := hx
  obtain rfl : v = y := hy
  exact ⟨h, k _ G1 H1 g.rf rfl⟩
theorem tw_isN : Tw W (fun x y H Q => y = .non ∧ Q (.bl (decide (x = .non))) H) G H (isV x) isO (isB (decide (x = .non))) := fun u v G1 H1 g hx hy Q k => by
  obtain rfl : u = x := hx
  exact ⟨hy, k _ G1 H1 g.rf rfl⟩
theorem tw_isNref : Tw W (fun x y H Q => y = .non ∧ Q (.bl (decide (x = .non))) H) G H (tupR Rs) isO (isB false) := fun u v G1 H1 g ⟨a, vs, e, _⟩ hy Q k => by
  subst e
  exact ⟨hy, k _ G1 H1 g.rf rfl⟩
theorem tw_in {K : PySem.W.Frag} (hx : flatV x = true) (hs : xs.all flatV = true) : Tw W (rIn K false) G H (isV x) (tupR (xs.map isV)) (isB (inV x xs)) := fun u v G1 H1 g hu ⟨a, vs, e, h, pr⟩ Q k => by
  obtain rfl : u = x := hu
  obtain rfl := PR.vals pr
  exact ⟨a, vs, e, .inr (sqT g h), hx, hs, k _ G1 H1 g.rf rfl⟩
theorem tw_nin {K : PySem.W.Frag} (hx : flatV x = true) (hs : xs.all flatV = true) : Tw W (rIn K true) G H (isV x) (tupR (xs.map isV)) (isB (!inV x xs)) := fun u v G1 H1 g hu ⟨a, vs, e, h, pr⟩ Q k => by
  obtain rfl : u = x := hu
  obtain rfl := PR.vals pr
  exact ⟨a, vs, e, .inr (sqT g h), hx, hs, k _ G1 H1 g.rf rfl⟩
theorem tw_inL {K : PySem.W.Frag} (hx : flatV x = true) (hs : xs.all flatV = true) : Tw W (rIn K false) G H (isV x) (lstR (xs.map isV)) (isB (inV x xs)) := fun u v G1 H1 g hu ⟨a, vs, e, h, pr⟩ Q k => by
  obtain rfl : u = x := hu
  obtain rfl := PR.vals pr
  exact ⟨a, vs, e, .inl (sqL g h), hx, hs, k _ G1 H1 g.rf rfl⟩
theorem tw_ltS {x y : Str} : Tw W (fun x y H Q => ∃ i j, x = V.str i ∧ y = V.str j ∧ Q (.bl (decide (i.cps.toList < j.cps.toList))) H) G H (isS x) (isS y) (isB (decide (x.cps.toList < y.cps.toList))) := fun _ _ G1 H1 g hx hy Q k => ⟨x, y, hx, hy, k _ G1 H1 g.rf rfl⟩
end
/-- the two parts of a chain -/
theorem jchain {op op' : CmpOp} {r r' : L2.R2} {t u : Bool} {R3 : Rel} (ho : OpR X (compareOp op) r) (ho' : OpR X (compareOp op') r') (ha : J W X a σ G H R1) (hb : J W X b σ G H R2) (hc : J W X c σ G H R3)
    (h1 : Tw W r G H R1 R2 (isB t)) (h2 : Tw W r' G H R2 R3 (isB u)) (hm : lastMarks [op, op'] [b, c] = false := by rfl) : J W X (.Compare a [op, op'] [b, c] pos) σ G H (isB (t && u)) := by
  refine J.pe (pe_chain ho ho' sE sE sE hm) fun G1 H1 g Q q => two (t := fun _ _ _ _ => True) ha hb g fun x y G2 H2 g2 r1 r2 => h1 x y G2 H2 (g.trans g2) r1 r2 _ fun v G3 H3 g3 z => ?_
  refine ⟨t, z, ?_⟩
  cases t with
  | false =>
    show Q (.bl false) H3
    exact q _ G3 H3 (g2.trans g3) rfl
  | true =>
    show RunE X c σ H3 _
    refine hc G3 H3 ((g.trans g2).trans g3) _ fun w G4 H4 g4 r3 => h2 y w G4 H4 (((g.trans g2).trans g3).trans g4) (R2.mo (g3.trans g4).g r2) r3 _ fun v5 G5 H5 g5 z5 => ?_
    have e5 : v5 = V.bl u := z5
    rw [e5]
    exact q _ G5 H5 (((g2.trans g3).trans g4).trans g5) rfl
theorem jtchain {op op' : CmpOp} {r r' : L2.R2} {t u : Bool} {R3 : Rel} (ho : OpR X (compareOp op) r) (ho' : OpR X (compareOp op') r') (ha : J W X a σ G H R1) (hb : J W X b σ G H R2) (hc : J W X c σ G H R3)
    (h1 : Tw W r G H R1 R2 (isB t)) (h2 : Tw W r' G H R2 R3 (isB u)) (hm : lastMarks [op, op'] [b, c] = false := by rfl) : JT W X (.Compare a [op, op'] [b, c] pos) σ G H (t && u) := by
  refine JT.pt (pt_chain ho ho' sE sE sE hm) fun G1 H1 g Q q => two (t := fun _ _ _ _ => True) ha hb g fun x y G2 H2 g2 r1 r2 => h1 x y G2 H2 (g.trans g2) r1 r2 _ fun v G3 H3 g3 z => ?_
  refine ⟨t, z, ?_⟩
  cases t with
  | false =>
    exact ⟨false, rfl, q G3 H3 (g2.trans g3)⟩
  | true =>
    show RunE X c σ H3 _
    refine hc G3 H3 ((g.trans g2).trans g3) _ fun w G4 H4 g4 r3 => h2 y w G4 H4 (((g.trans g2).trans g3).trans g4) (R2.mo (g3.trans g4).g r2) r3 _ fun v5 G5 H5 g5 z5 => ?_
    exact ⟨u, z5, q G5 H5 (((g2.trans g3).trans g4).trans g5)⟩
/-! ### tests -/
theorem jtval {t : Bool} (h : J W X e σ G H (isB t)) (he : ∀ whole, isTrue e X.env whole = (do let v ← whole; standAt e.pos; holding [v] (truthy v)) := by intro _; rfl) : JT W X e σ G H t :=
  JT.pt (pt_val sE he) fun G1 H1 g Q q => h G1 H1 g _ fun v G2 H2 g2 r => ⟨t, r, q G2 H2 g2⟩
theorem jtw {t : Bool} (h : JW W X e σ G H t) : JT W X e σ G H t := fun G1 H1 g Q q => gT sW.pt (h G1 H1 g Q q)
theorem jw1a {t : Bool} (h : JT W X a σ G H t) : JW W X (.BoolOp .And [a] pos) σ G H t := fun G1 H1 g Q q => gW (pw_and1 sT) (h G1 H1 g Q q)
theorem jw1o {t : Bool} (h : JT W X a σ G H t) : JW W X (.BoolOp .Or [a] pos) σ G H t := fun G1 H1 g Q q => gW (pw_or1 sT) (h G1 H1 g Q q)
theorem jwa {t u : Bool} (h : JT W X a σ G H t) (h2 : t = true → JW W X (.BoolOp .And (b :: es) pos) σ G H u) : JW W X (.BoolOp .And (a :: b :: es) pos) σ G H (t && u) := fun G1 H1 g Q q => gW (pw_and sT sW) (h G1 H1 g _ fun G2 H2 g2 => by
  cases t with
  | true => exact h2 rfl G2 H2 (g.trans g2) Q fun G3 H3 g3 => q G3 H3 (g2.trans g3)
  | false => exact q G2 H2 g2)
theorem jwo {t u : Bool} (h : JT W X a σ G H t) (h2 : t = false → JW W X (.BoolOp .Or (b :: es) pos) σ G H u) : JW W X (.BoolOp .Or (a :: b :: es) pos) σ G H (t || u) := fun G1 H1 g Q q => gW (pw_or sT sW) (h G1 H1 g _ fun G2 H2 g2 => by
  cases t with
  | false => exact h2 rfl G2 H2 (g.trans g2) Q fun G3 H3 g3 => q G3 H3 (g2.trans g3)
  | true => exact q G2 H2 g2)
theorem jtnot {t : Bool} (h : JT W X a σ G H t) : JT W X (.UnaryOp .Not a pos) σ G H (!t) := JT.pt (pt_not sT) fun G1 H1 g Q q => h G1 H1 g _ fun G2 H2 g2 => q G2 H2 g2
theorem j1 {op : BoolOp} (h : J W X a σ G H R) : J W X (.BoolOp op [a] pos) σ G H R := J.pe (pe_one sE) fun G1 H1 g Q q => h G1 H1 g Q q
theorem jand {t u : Bool} (h : J W X a σ G H (isB t)) (h2 : t = true → J W X (.BoolOp .And (b :: es) pos) σ G H (isB u)) : J W X (.BoolOp .And (a :: b :: es) pos) σ G H (isB (t && u)) :=
  J.pe (pe_and sE sE) fun G1 H1 g Q q => h G1 H1 g _ fun v G2 H2 g2 r => ⟨t, r, by
    cases t with
    | true => exact h2 rfl G2 H2 (g.trans g2) Q fun v G3 H3 g3 z => q v G3 H3 (g2.trans g3) z
    | false => exact q _ G2 H2 g2 rfl⟩
theorem jor {t u : Bool} (h : J W X a σ G H (isB t)) (h2 : t = false → J W X (.BoolOp .Or (b :: es) pos) σ G H (isB u)) : J W X (.BoolOp .Or (a :: b :: es) pos) σ G H (isB (t || u)) :=
  J.pe (pe_or sE sE) fun G1 H1 g Q q => h G1 H1 g _ fun v G2 H2 g2 r => ⟨t, r, by
    cases t with
    | false => exact h2 rfl G2 H2 (g.trans g2) Q fun v G3 H3 g3 z => q v G3 H3 (g2.trans g3) z
    | true => exact q _ G2 H2 g2 rfl⟩
theorem jnot {t : Bool} (h : J W X a σ G H (isB t)) : J W X (.UnaryOp .Not a pos) σ G H (isB (!t)) := J.pe (pe_not sE) fun G1 H1 g Q q => h G1 H1 g _ fun v G2 H2 g2 r => ⟨t, r, q _ G2 H2 g2 rfl⟩
theorem jif {t : Bool} (h : JT W X c σ G H t) (h1 : t = true → J W X a σ G H R) (h2 : t = false → J W X b σ G H R) : J W X (.IfExp c a b pos) σ G H R :=
  J.pe (pe_ifExp sT sE sE) fun G1 H1 g Q q => h G1 H1 g _ fun G2 H2 g2 => by
    cases t with
    | true => exact h1 rfl G2 H2 (g.trans g2) Q fun v G3 H3 g3 z => q v G3 H3 (g2.trans g3) z
    | false => exact h2 rfl G2 H2 (g.trans g2) Q fun v G3 H3 g3 z => q v G3 H3 (g2.trans g3) z
/-! ### isinstance of plain values -/
theorem jisi {n : String} {t : String} {r : Bool} (hm : X.mg "isinstance" = none) (ha : J W X a σ G H R) (hx : ∀ v G1 H1, Same G1 H1 → R.p v G1 → TyX X.K H1 v (.type t)) (hk : kitB t n = some r)
    (hb : J W X b σ G H (isV (.ty n))) (hg : Gl X "isinstance" := by rfl) (hs : starEach [a, b] X.env = [(false, eval a X.env), (false, eval b X.env)] := by rfl) (hs2 : starEach [b] X.env = [(false, eval b X.env)] := by rfl) : J W X (.Call (.Name "isinstance" p) [a, b] [] pos) σ G H (isB r) :=
  jcallB call_isi hg hm (by decide +kernel) (ja ha (ja hb ja0 hs2) (by rw [hs, hs2])) (fun vs G1 H1 g pr Q k => by
    obtain ⟨v, w, rfl, rv, rw'⟩ := PR.two pr
    obtain rfl : w = V.ty n := rw'
    exact ⟨v, _, .type t, .type n, r, rfl, .ty n, hx v G1 H1 g.s rv, kit_ty hk, k _ G1 H1 g.rf rfl⟩) (he := by rw [hs, hs2]) (hpl := by rw [hs2]; rfl)
end
end Lp
/-! ## Fw3 -/
set_option Elab.async false
set_option linter.all false
set_option maxRecDepth 100000
set_option maxHeartbeats 2000000
/-! Comprehensions, loops, statements, defs by their promise. -/
namespace Lp
open PySem PySem.Spec PyProof.Rows L2

/-! ### what a body sees: X is kept closed, these are known of it -/
structure Sees (X : Cx) (N C : List Str) (sc : Scope) : Prop where
  hN : X.N = N ++ C
  loc : ∀ x, x ∈ N → Loc X.env.scope x
  gl : ∀ x, sc.names.lookup x = some .globalImplicit → Gl X x
  lo : ∀ x, sc.names.lookup x = some .local → X.env.scope.names.lookup x = some .local
  sce : X.env.scope = sc
  kd : X.env.scope.kind = .function
  calm : X.calm = true
  fn : ∀ x, X.fn x = true
  nd : X.N.Nodup
theorem app_ix {α : Type} {N C : List α} {i : Nat} {x : α} (h : N[i]? = some x) : (N ++ C)[i]? = some x := by
  rw [List.getElem?_append_left (List.getElem?_eq_some_iff.mp h).1]; exact h
/-- within a comprehension's block -/
structure SeesB (X : Cx) (N : List Str) (sc : Scope) : Prop where
  hN : X.N = N
  vis : ∀ x, Vis sc x → Vis X.env.scope x
  gl : ∀ x, sc.names.lookup x = some .globalImplicit → Gl X x
  calm : X.calm = true
  cf : ∀ x, (sc.names.lookup x = some .cell ∨ sc.names.lookup x = some .free) → (X.env.scope.names.lookup x = some .cell ∨ X.env.scope.names.lookup x = some .free)
  nd : X.N.Nodup
theorem relab_free {env : Env} : ∀ {names : List (Str × NameKind)} {x : Str}, names.lookup x = some .free →
    let ns := names.map fun (n, k) => if (k == NameKind.free && env.scope.kind == .function && env.kindOf n == some .cell) then (n, NameKind.cell) else (n, k)
    ns.lookup x = some .cell ∨ ns.lookup x = some .free
  | [], _, h => by simp at h
  | (n, k) :: r, x, h => by
    have ih := @relab_free env r x
    show List.lookup x ((if (k == NameKind.free && env.scope.kind == .function && env.kindOf n == some .cell) = true then (n, NameKind.cell) else (n, k)) :: _) = _ ∨ List.lookup x ((if (k == NameKind.free && env.scope.kind == .function && env.kindOf n == some .cell) = true then (n, NameKind.cell) else (n, k)) :: _) = _
    by_cases e : (x == n) = true
    · rw [List.lookup_cons, e] at h
      split
      · left; rw [List.lookup_cons, e]
      · right
        rw [List.lookup_cons, e]
        exact h
    · have e' : (x == n) = false := by simpa using e
      rw [List.lookup_cons, e'] at h
      split
      · rw [List.lookup_cons, e']; exact ih h
      · rw [List.lookup_cons, e']; exact ih h
theorem relab_keep {env : Env} {kd : NameKind} (hk : kd ≠ .free) : ∀ {names : List (Str × NameKind)} {x : Str}, names.lookup x = some kd →
    (names.map fun (n, k) => if (k == NameKind.free && env.scope.kind == .function && env.kindOf n == some .cell) then (n, NameKind.cell) else (n, k)).lookup x = some kd
  | [], _, h => by simp at h
  | (n, k) :: r, x, h => by
    have ih := @relab_keep env kd hk r x
    show List.lookup x ((if (k == NameKind.free && env.scope.kind == .function && env.kindOf n == some .cell) = true then (n, NameKind.cell) else (n, k)) :: _) = _
    by_cases e : (x == n) = true
    · rw [List.lookup_cons, e] at h
      have ek : k = kd := by simpa using h
      split
      · rename_i hc
        simp only [Bool.and_eq_true] at hc
        have : k = .free := by simpa using hc.1.1
        exact absurd (ek.symm.trans this) hk
      · rw [List.lookup_cons, e, ek]
    · have e' : (x == n) = false := by simpa using e
      rw [List.lookup_cons, e'] at h
      split
      · rw [List.lookup_cons, e']; exact ih h
      · rw [List.lookup_cons, e']; exact ih h
theorem Sees.blk {X : Cx} {N Cs : List Str} {sc : Scope} (S : Sees X N Cs sc) (s : Shared) (H : Hp) (scope : Scope) (cl : List (Str × Addr)) (C : Addr) (fp : List Addr) : SeesB (X.blk s H scope (compEnvC scope cl C X.env) fp) (N ++ Cs) scope where
  hN := S.hN
  vis := fun x h => by
    rcases h with h | h | h
    · exact .inl (relab_keep (kd := .local) (by decide) h)
    · exact .inr (.inl (relab_keep (kd := .cell) (by decide) h))
    · exact .inr (relab_free h)
  gl := fun x h => relab_keep (kd := .globalImplicit) (by decide) h
  calm := S.calm
  cf := fun x h => h.elim (fun h => .inl (relab_keep (kd := .cell) (by decide) h)) (fun h => relab_free h)
  nd := S.nd
theorem SeesB.blk {X : Cx} {N : List Str} {sc : Scope} (S : SeesB X N sc) (s : Shared) (H : Hp) (scope : Scope) (cl : List (Str × Addr)) (C : Addr) (fp : List Addr) : SeesB (X.blk s H scope (compEnvC scope cl C X.env) fp) N scope where
  hN := S.hN
  vis := fun x h => by
    rcases h with h | h | h
    · exact .inl (relab_keep (kd := .local) (by decide) h)
    · exact .inr (.inl (relab_keep (kd := .cell) (by decide) h))
    · exact .inr (relab_free h)
  gl := fun x h => relab_keep (kd := .globalImplicit) (by decide) h
  calm := S.calm
  cf := fun x h => h.elim (fun h => .inl (relab_keep (kd := .cell) (by decide) h)) (fun h => relab_free h)
  nd := S.nd

section
variable {W : Md} {X : Cx} {σ : L2.St} {G H G' H' : Hp} {e a b c : Expr} {es : List Expr} {R R1 R2 : Rel} {Rs Ss : List Rel} {pos p p2 apos : Pos} {N : List Str} {sc : Scope}
/-- a name of the def -/
theorem nm {C : List Str} (S : Sees X N C sc) (i : Nat) {x : Str} {v : V} (hr : R.p v G) (hσ : σ[i]? = some (some v) := by rfl) (hN : N[i]? = some x := by rfl) (hd : (x == ("__debug__" : Str)) = false := by decide)
    (hcd : (x == ("__classdict__" : Str)) = false := by decide) : J W X (.Name x pos) σ G H R :=
  jv i hσ hr (by rw [S.hN]; exact app_ix hN) (by rcases S.loc x (List.mem_of_getElem? hN) with k | k; exact .inl k; exact .inr (.inl k)) hd hcd
/-- a name in a block -/
theorem nb (S : SeesB X N sc) (i : Nat) {x : Str} {v : V} (hr : R.p v G) (hσ : σ[i]? = some (some v) := by rfl) (hN : N[i]? = some x := by rfl) (hv : Vis sc x := by first | exact Or.inl rfl | exact Or.inr (Or.inl rfl) | exact Or.inr (Or.inr rfl)) (hd : (x == ("__debug__" : Str)) = false := by decide)
    (hcd : (x == ("__classdict__" : Str)) = false := by decide) : J W X (.Name x pos) σ G H R :=
  jv i hσ hr (by rw [S.hN]; exact hN) (S.vis x hv) hd hcd

/-! ### what is walked, item by item -/
/-- at turn i item i is data like Rs[i] -/
def Gives (Y : Nat → Hp → V → Hp → Prop) (G : Hp) (Rs : List Rel) : Prop := ∀ i R G3 H3 v H4, Rs[i]? = some R → Same G G3 → Same G3 H3 → Y i H3 v H4 → ∃ G4, Gr0 G3 H3 G4 H4 ∧ R.p v G4
def JI (W : Md) (X : Cx) (tg iter : Expr) (σ : L2.St) (G H : Hp) (Rs : List Rel) : Prop := ∀ G1 H1, Gw W G H G1 H1 → ∀ R' : It → Hp → Prop,
  (∀ Jt Gc Y G2 H2, Gw W G1 H1 G2 H2 → Walk Jt Rs.length Gc Y → (∀ H3, Same G2 H3 → Gc H3) → Gives Y G2 Rs → R' Jt H2) → RunI X tg iter σ H1 R'
theorem JI.mono {tg iter : Expr} (h : JI W X tg iter σ G H Rs) (g : Gw W G H G' H') : JI W X tg iter σ G' H' Rs := fun G1 H1 g1 => h G1 H1 (g.trans g1)
theorem gives_at {vs : List V} {G : Hp} {Rs : List Rel} (pr : PR G vs Rs) : Gives (YAt vs) G Rs := fun i R G3 H3 v H4 hR s1 s2 ⟨e, hv⟩ => by
  obtain ⟨v', h1, h2⟩ := (PR.mo s1 pr).get hR
  rw [hv] at h1
  cases h1
  subst e
  exact ⟨G3, .refl s2, h2⟩
theorem gives_pair {xs ys : Nat → Option V} {G : Hp} {n : Nat} {Ra Rb : Nat → Rel} {Rs : List Rel} (hl : Rs = (List.range n).map fun i => pairT (Ra i) (Rb i)) (ha : ∀ i x, i < n → xs i = some x → (Ra i).p x G) (hb : ∀ i x, i < n → ys i = some x → (Rb i).p x G) : Gives (YPair xs ys) G Rs := fun i R G3 H3 v H4 hR s1 s2 ⟨T, x, y, e, hT, eH, hx, hy⟩ => by
  subst hl eH e
  have hi : i < n := by
    rcases Nat.lt_or_ge i n with q | q
    · exact q
    · rw [List.getElem?_eq_none (by simpa using q)] at hR; cases hR
  rw [List.getElem?_map, List.getElem?_range hi] at hR
  obtain rfl : pairT (Ra i) (Rb i) = R := by simpa using hR
  have g : Gr0 G3 H3 (upd G3 T (.tup [x, y])) (upd H3 T (.tup [x, y])) := Gr.new s2 hT
  exact ⟨_, g, T, x, y, rfl, upd_same, (Ra i).mo (s1.trans g.g) (ha i x hi hx), (Rb i).mo (s1.trans g.g) (hb i y hi hy)⟩
theorem jiT {tg : Expr} (h : J W X e σ G H (tupR Rs)) : JI W X tg e σ G H Rs := fun G1 H1 g R' k => gI (pi_tup sE) (h G1 H1 g _ fun v G2 H2 g2 ⟨a, vs, e1, h1, pr⟩ =>
  ⟨a, e1, ⟨vs, sqT g2 h1⟩, k _ (fun H3 => SqT X.K H3 a vs) (YAt vs) G2 H2 g2 (by rw [← pr.len]; exact walk_tup) (fun H3 s => (h1.mono s).sq) (gives_at pr)⟩)
theorem jiL {tg : Expr} (h : J W X e σ G H (lstR Rs)) : JI W X tg e σ G H Rs := fun G1 H1 g R' k => gI (pi_list sE) (h G1 H1 g _ fun v G2 H2 g2 ⟨a, vs, e1, h1, pr⟩ =>
  ⟨a, e1, ⟨vs, sqL g2 h1⟩, k _ (fun H3 => SqL X.K H3 a vs) (YAt vs) G2 H2 g2 (by rw [← pr.len]; exact walk_list) (fun H3 s => SqL.of (s _ _ h1)) (gives_at pr)⟩)
theorem jiRange {tg : Expr} {n : Nat} (hm : X.mg "range" = none) (hg : Gl X "range") (h : J W X e σ G H (isN n)) (hn : n ≤ 100000) (hs : starEach [e] X.env = [(false, eval e X.env)] := by rfl) : JI W X tg (.Call (.Name "range" p) [e] [] pos) σ G H ((List.range n).map isN) := fun G1 H1 g R' k =>
  gI (pi_range1 hg hm sA hs) (ja h ja0 hs G1 H1 g _ fun vs G2 H2 g2 pr => by
    obtain ⟨x, rfl, rx⟩ := PR.one pr
    obtain rfl : x = V.int (n : Int) := rx
    refine ⟨(n : Int), rfl, by omega, by omega, ?_⟩
    refine k _ (fun _ => True) (YAt ((List.range n).map fun i : Nat => V.int (i : Int))) G2 H2 g2 ?_ (fun _ _ => trivial) (gives_at ?_)
    · have e : ((List.range n).map isN).length = n := by simp
      rw [e]
      exact (walk_range (lo := 0) (n := (n : Int).toNat)).mono (fun _ h => h) (fun i H x H' hi _ y => by
        obtain ⟨e1, e2⟩ := y
        refine ⟨e1, ?_⟩
        rw [e2, List.getElem?_map, List.getElem?_range (by simpa using hi)]
        simp)
    · have : ((List.range n).map isN) = (((List.range n).map fun i : Nat => V.int (i : Int))).map isV := by rw [List.map_map]; rfl
      rw [this]
      exact PR.ofVals _)
/-- range of a number that is one of many -/
theorem jiRangeX {tg : Expr} {m : Nat} {Rs : List Rel} (hm : X.mg "range" = none) (hg : Gl X "range") (h : J W X e σ G H (exR fun n : Fin m => isN n.val)) (hn : m ≤ 100000) (hs : starEach [e] X.env = [(false, eval e X.env)] := by rfl) : ∀ G1 H1, Gw W G H G1 H1 → ∀ R' : It → Hp → Prop,
    (∀ (n : Fin m) Jt Gc Y G2 H2, Gw W G1 H1 G2 H2 → Walk Jt n.val Gc Y → (∀ H3, Same G2 H3 → Gc H3) → Gives Y G2 ((List.range n.val).map isN) → R' Jt H2) → RunI X tg (.Call (.Name "range" p) [e] [] pos) σ H1 R' := fun G1 H1 g R' k =>
  gI (pi_range1 hg hm sA hs) (ja h ja0 hs G1 H1 g _ fun vs G2 H2 g2 pr => by
    obtain ⟨x, rfl, n, rx⟩ := PR.one pr
    obtain rfl : x = V.int (n.val : Int) := rx
    refine ⟨(n.val : Int), rfl, by omega, by omega, ?_⟩
    refine k n _ (fun _ => True) (YAt ((List.range n.val).map fun i : Nat => V.int (i : Int))) G2 H2 g2 ?_ (fun _ _ => trivial) (gives_at ?_)
    · exact (walk_range (lo := 0) (n := (n.val : Int).toNat)).mono (fun _ h => h) (fun i H x H' hi _ y => by
        obtain ⟨e1, e2⟩ := y
        refine ⟨e1, ?_⟩
        rw [e2, List.getElem?_map, List.getElem?_range (by simpa using hi)]
        simp)
    · have : ((List.range n.val).map isN) = (((List.range n.val).map fun i : Nat => V.int (i : Int))).map isV := by rw [List.map_map]; rfl
      rw [this]
      exact PR.ofVals _)
theorem jiStr {tg : Expr} {z : Str} (h : J W X e σ G H (isS z)) : JI W X tg e σ G H (z.cps.toList.map fun c => isS ⟨#[c]⟩) := fun G1 H1 g R' k =>
  gI (pi_str sE) (h G1 H1 g _ fun v G2 H2 g2 r => by
    refine ⟨z, r, ?_⟩
    refine k _ (fun _ => True) (YAt (z.cps.toList.map fun c => V.str ⟨#[c]⟩)) G2 H2 g2 ?_ (fun _ _ => trivial) (gives_at ?_)
    · have e : (z.cps.toList.map fun c => isS ⟨#[c]⟩).length = z.cps.size := by simp
      rw [e]
      exact walk_str.mono (fun _ h => h) (fun i H x H' hi _ y => by
        obtain ⟨e1, c, hc, e2⟩ := y
        refine ⟨e1, ?_⟩
        rw [e2, List.getElem?_map, Array.getElem?_toList, hc]
        rfl)
    · have : (z.cps.toList.map fun c => isS ⟨#[c]⟩) = (z.cps.toList.map fun c => V.str ⟨#[c]⟩).map isV := by rw [List.map_map]; rfl
      rw [this]
      exact PR.ofVals _)

/-! ### comprehensions -/
/-- the element, the test in any block of this text -/
def bE (X : Cx) (scope : Scope) (elt : Expr) : TE := fun σ H Q => ∀ s0 H0 C cl fp, RunE (X.blk s0 H0 scope (compEnvC scope cl C X.env) fp) elt σ H Q
def bT (X : Cx) (scope : Scope) (c : Expr) : TT := fun σ H Q => ∀ s0 H0 C cl fp, RunT (X.blk s0 H0 scope (compEnvC scope cl C X.env) fp) c σ H Q
theorem sbE {scope : Scope} {elt : Expr} (s0 : Shared) (H0 : Hp) (C : Addr) (cl : List (Str × Addr)) (fp : List Addr) : PE (X.blk s0 H0 scope (compEnvC scope cl C X.env) fp) elt (bE X scope elt) := ⟨fun pins s _ _ _ I h => h s0 H0 C cl fp pins s I⟩
theorem sbT {scope : Scope} {elt : Expr} (s0 : Shared) (H0 : Hp) (C : Addr) (cl : List (Str × Addr)) (fp : List Addr) : PT (X.blk s0 H0 scope (compEnvC scope cl C X.env) fp) elt (bT X scope elt) := ⟨fun pins s _ _ _ I h => h s0 H0 C cl fp pins s I⟩
def JC (W : Md) (t : TE) (σ : L2.St) (G H : Hp) (R : Rel) : Prop := ∀ G1 H1, Gw W G H G1 H1 → ∀ Q : VK, (∀ v G2 H2, Gw W G1 H1 G2 H2 → R.p v G2 → Q v H2) → t σ H1 Q
theorem wipe_one {σ : L2.St} {j : Nat} {v : Option V} : wipe ((wipe σ [j]).set j v) [j] = wipe σ [j] := by
  show ((σ.set j none).set j v).set j none = σ.set j none
  rw [List.set_set, List.set_set]
theorem jc_core {α : Type} {tg iter : Expr} {g : TG} {tt : TT} {te : TE} {ws : List Nat} (xs : List α) (Ri : α → Rel) (keep : α → Bool) (Ro : α → Rel) (hi : JI W X tg iter σ G H (xs.map Ri)) (hn : xs.length ≤ 100000)
    (hs : ∀ x v G1 H1, x ∈ xs → Gw W G H G1 H1 → (Ri x).p v G1 → ∀ (K1 : VK) (K0 : Hp → Prop), (keep x = true → ∀ y G2 H2, Gw W G1 H1 G2 H2 → (Ro x).p y G2 → K1 y H2) → (keep x = false → ∀ G2 H2, Gw W G1 H1 G2 H2 → K0 H2) →
      g v (wipe σ ws) H1 fun σ2 H2 => wipe σ2 ws = wipe σ ws ∧ tt σ2 H2 fun b H3 => if b = true then te σ2 H3 K1 else K0 H3) :
    JC W (tLc (RunI X tg iter) g tt te ws) σ G H (lstR ((xs.filter keep).map Ro)) := by
  intro G1 H1 g1 Q q
  refine hi G1 H1 g1 _ fun Jt Gc Y G2 H2 g2 w hG gv D hD => ?_
  rw [List.length_map] at w
  have nm := g2.nm hD
  refine lc_it w (fun i H' => ∃ G' acc, Gw W G2 H2 G' H' ∧ H' D = some (.lst acc) ∧ G' D = none ∧ acc.length ≤ i ∧ PR G' acc (((xs.take i).filter keep).map Ro)) ⟨G2, [], g2.raw hD, upd_same, sub_none g2.s hD, Nat.le_refl _, .nil⟩ (fun i H' _ ⟨G', acc, g3, _⟩ => hG H' (g3.g.trans g3.s)) ?_ ?_
  · rintro i v H' H'' hix ⟨G', acc, g3, hacc, gD, hal, pa⟩ yv
    have ex : xs[i]? = some xs[i] := List.getElem?_eq_getElem hix
    obtain ⟨Gv, gv0, rv⟩ := gv i (Ri xs[i]) G' H' v H'' (by rw [List.getElem?_map, ex]; rfl) g3.g g3.s yv
    have et : xs.take (i + 1) = xs.take i ++ [xs[i]] := by rw [List.take_succ, ex]; rfl
    have hacc2 := gv0.H _ _ hacc
    have gD2 := gv0.out hacc gD
    have g3' := g3.trans (Gw.up0 g3.ok gv0)
    refine hs xs[i] v Gv H'' (List.getElem_mem hix) ((g1.trans g2).trans g3') rv _ _ (fun hk y G4 H4 g4 ry => ?_) (fun hk G4 H4 g4 => ?_)
    · have h4 := g4.gr.h _ _ nm hacc2
      have d4 := g4.out hacc2 gD2
      refine ⟨acc, h4, by rw [sizeLine_eq]; omega, G4, acc ++ [y], (g3'.trans g4).set' nm d4 hD, upd_same, d4, by rw [List.length_append]; simp; omega, ?_⟩
      rw [et, List.filter_append, List.map_append]
      refine PR.app (PR.mo (gv0.g.trans g4.g) pa) ?_
      rw [List.filter_cons, if_pos hk]
      exact .cons ry .nil
    · refine ⟨G4, acc, g3'.trans g4, g4.gr.h _ _ nm hacc2, g4.out hacc2 gD2, by omega, ?_⟩
      rw [et, List.filter_append, List.map_append, List.filter_cons, if_neg (by rw [hk]; exact Bool.false_ne_true)]
      rw [List.filter_nil, List.map_nil, List.append_nil]
      exact PR.mo (gv0.g.trans g4.g) pa
  · rintro H' ⟨G', acc, g3, hacc, gD, _, pa⟩
    obtain ⟨g4, s4⟩ := Gw.fin g3 nm hacc gD hD
    refine q _ _ H' (g2.trans g4) ⟨D, acc, rfl, upd_same, ?_⟩
    rw [List.take_length] at pa
    exact PR.mo s4 pa
/-- [elt for tg in ..] with any target -/
theorem jlcG {α : Type} {elt tg iter : Expr} {scope : Scope} {own : List (Str × Nat)} {g : TG} (calm : X.calm = true) (nd : X.N.Nodup) (xs : List α) (Ri : α → Rel) (Ro : α → Rel) (hi : JI W X tg iter σ G H (xs.map Ri)) (hn : xs.length ≤ 100000)
    (ok : BlkOk X.N X.env.scope scope own) (hg : ∀ (s : Shared) (H : Hp) (C : Addr) (cl : List (Str × Addr)) (fp : List Addr), PG (X.blk s H scope (compEnvC scope cl C X.env) fp) tg g)
    (he : ∀ y v G1 H1, y ∈ xs → Gw W G H G1 H1 → (Ri y).p v G1 → ∀ K1 : L2.St → Hp → Prop, (∀ σ2, wipe σ2 (own.map (·.2)) = wipe σ (own.map (·.2)) → (∀ s0 H0 C cl fp, J W (X.blk s0 H0 scope (compEnvC scope cl C X.env) fp) elt σ2 G1 H1 (Ro y)) → K1 σ2 H1) → g v (wipe σ (own.map (·.2))) H1 K1) (hf : ∀ x, foldedSetIterable iter X.env x = pure x := by intro _; rfl) :
    J W X (.ListComp elt [⟨tg, iter, [], 0⟩] scope pos) σ G H (lstR (xs.map Ro)) := by
  refine J.pe (pe_lc (own := own) (g := g) (tt := tYes) (te := bE X scope elt) calm nd sI ok hg (fun _ _ _ _ _ => pts_nil) sbE hf) ?_
  have h := jc_core (X := X) (ws := own.map (·.2)) (tt := tYes) (g := g) (te := bE X scope elt) xs Ri (fun _ => true) Ro hi hn fun y v G1 H1 hy g1 r K1 K0 k1 _ => he y v G1 H1 hy g1 r _ fun σ2 hw hj => ⟨hw, fun s0 H0 C cl fp => (hj s0 H0 C cl fp).here g1.ok (k1 rfl)⟩
  rw [List.filter_eq_self.mpr (fun _ _ => rfl)] at h
  exact h
/-- [elt for x in ..] -/
theorem jlc {α : Type} {elt iter : Expr} {x : Str} {tp : Pos} {scope : Scope} {j : Nat} (calm : X.calm = true) (nd : X.N.Nodup) (xs : List α) (Ri : α → Rel) (Ro : α → Rel) (hi : JI W X (.Name x tp) iter σ G H (xs.map Ri)) (hn : xs.length ≤ 100000)
    (ok : BlkOk X.N X.env.scope scope [(x, j)]) (hg : ∀ (s : Shared) (H : Hp) (C : Addr) (cl : List (Str × Addr)) (fp : List Addr), PG (X.blk s H scope (compEnvC scope cl C X.env) fp) (.Name x tp) (gName j))
    (he : ∀ y v G1 H1, y ∈ xs → Gw W G H G1 H1 → (Ri y).p v G1 → ∀ s0 H0 C cl fp, J W (X.blk s0 H0 scope (compEnvC scope cl C X.env) fp) elt ((wipe σ [j]).set j (some v)) G1 H1 (Ro y)) (hf : ∀ x, foldedSetIterable iter X.env x = pure x := by intro _; rfl) :
    J W X (.ListComp elt [⟨.Name x tp, iter, [], 0⟩] scope pos) σ G H (lstR (xs.map Ro)) :=
  jlcG (own := [(x, j)]) calm nd xs Ri Ro hi hn ok hg (fun y v G1 H1 hy g1 r K1 k => k _ wipe_one (he y v G1 H1 hy g1 r)) hf
/-- [elt for x in .. if c] -/
theorem jlci {α : Type} {elt iter : Expr} {x : Str} {tp : Pos} {scope : Scope} {j : Nat} (calm : X.calm = true) (nd : X.N.Nodup) (xs : List α) (Ri : α → Rel) (keep : α → Bool) (Ro : α → Rel) (hi : JI W X (.Name x tp) iter σ G H (xs.map Ri)) (hn : xs.length ≤ 100000)
    (ok : BlkOk X.N X.env.scope scope [(x, j)]) (hg : ∀ (s : Shared) (H : Hp) (C : Addr) (cl : List (Str × Addr)) (fp : List Addr), PG (X.blk s H scope (compEnvC scope cl C X.env) fp) (.Name x tp) (gName j))
    (ht : ∀ y v G1 H1, y ∈ xs → Gw W G H G1 H1 → (Ri y).p v G1 → ∀ s0 H0 C cl fp, JT W (X.blk s0 H0 scope (compEnvC scope cl C X.env) fp) c ((wipe σ [j]).set j (some v)) G1 H1 (keep y))
    (he : ∀ y v G1 H1, y ∈ xs → keep y = true → Gw W G H G1 H1 → (Ri y).p v G1 → ∀ s0 H0 C cl fp, J W (X.blk s0 H0 scope (compEnvC scope cl C X.env) fp) elt ((wipe σ [j]).set j (some v)) G1 H1 (Ro y)) (hf : ∀ x, foldedSetIterable iter X.env x = pure x := by intro _; rfl) :
    J W X (.ListComp elt [⟨.Name x tp, iter, [c], 0⟩] scope pos) σ G H (lstR ((xs.filter keep).map Ro)) := by
  refine J.pe (pe_lc (own := [(x, j)]) (g := gName j) (tt := bT X scope c) (te := bE X scope elt) calm nd sI ok hg (fun s H C cl fp => pts_one (sbT s H C cl fp)) sbE hf) ?_
  refine jc_core (X := X) (ws := [j]) (tt := bT X scope c) (g := gName j) (te := bE X scope elt) xs Ri keep Ro hi hn fun y v G1 H1 hy g1 r K1 K0 k1 k0 => ⟨wipe_one, fun s0 H0 C cl fp => (ht y v G1 H1 hy g1 r s0 H0 C cl fp).here g1.ok fun G2 H2 g2 => ?_⟩
  cases hk : keep y with
  | true =>
    show bE X scope elt _ H2 K1
    exact fun s0 H0 C cl fp => (he y v G2 H2 hy hk (g1.trans g2) ((Ri y).mo g2.g r) s0 H0 C cl fp).here g2.ok fun y' G3 H3 g3 r3 => k1 hk y' G3 H3 (g2.trans g3) r3
  | false =>
    show K0 H2
    exact k0 hk G2 H2 g2

/-! ### statements -/
theorem st_set {C : List Str} {x : Str} {rest : List Stmt} {D : Ends} {p' : Pos} (S : Sees X N C sc) (i : Nat) (s : Ok W G H) (h : J W X e σ G H R) (k : ∀ v G' H', Gw W G H G' H' → R.p v G' → RunS X rest D (σ.set i (some v)) H') (hN : N[i]? = some x := by rfl)
    (hs : swapsWith e (some (.Name x p')) pos.line X.env = pure false := by rfl) : RunS X (.Assign [.Name x p'] e pos :: rest) D σ H :=
  st (ps_set (i := i) S.nd (by rw [S.hN]; exact app_ix hN) (S.loc x (List.mem_of_getElem? hN)) sE hs (.inl (S.fn x))) (h.here s k)
theorem st_ret {rest : List Stmt} {D : Ends} (s : Ok W G H) (h : J W X e σ G H R) (k : ∀ v G' H', Gw W G H G' H' → R.p v G' → D.rt v H') : RunS X (.Return (some e) pos :: rest) D σ H :=
  st (ps_ret sE) (h.here s k)
theorem st_if {x y rest : List Stmt} {D : Ends} {t : Bool} (s : Ok W G H) (h : JT W X c σ G H t) (k1 : t = true → ∀ G' H', Gw W G H G' H' → RunS X x { D with nx := RunS X rest D } σ H') (k0 : t = false → ∀ G' H', Gw W G H G' H' → RunS X y { D with nx := RunS X rest D } σ H') :
    RunS X (.If c x y pos :: rest) D σ H :=
  st (ps_if sT sS sS) (h.here s fun G' H' g => by
    cases t with
    | true => exact k1 rfl G' H' g
    | false => exact k0 rfl G' H' g)
theorem st_expr {rest : List Stmt} {D : Ends} (s : Ok W G H) (h : J W X e σ G H R) (k : ∀ v G' H', Gw W G H G' H' → R.p v G' → RunS X rest D σ H') (hs : swapsWith e none pos.line X.env = pure false := by rfl) : RunS X (.Expr e pos :: rest) D σ H :=
  st (ps_expr sE hs) (h.here s k)
/-- a for over data; whatever is written on the way keeps the finished data -/
theorem st_for {tg iter : Expr} {body rest : List Stmt} {g : TG} {D : Ends} (Rs : List Rel) (s : Ok W G H) (calm : X.calm = true) (hx : X.xe = fun _ _ => False) (hi : JI W X tg iter σ G H Rs) (hg : PG X tg g)
    (k : ∀ G2 H2, Gw W G H G2 H2 → ∃ Pv : Nat → L2.St → Hp → Hp → Prop, Pv 0 σ G2 H2 ∧ (∀ i σ' G' H', Pv i σ' G' H' → Same G2 G' ∧ Same G' H') ∧
      (∀ i R v σ' G' H' G3 H3, Rs[i]? = some R → Pv i σ' G' H' → Gr0 G' H' G3 H3 → R.p v G3 → g v σ' H3 fun σ2 H3 => RunS X body { D with nx := fun σ4 H4 => ∃ G4, Pv (i + 1) σ4 G4 H4, ct := fun σ4 H4 => ∃ G4, Pv (i + 1) σ4 G4 H4, bk := RunS X rest D } σ2 H3) ∧
      ∀ σ' G' H', Pv Rs.length σ' G' H' → RunS X rest D σ' H') (hf : ∀ x, foldedSetIterable iter X.env x = pure x := by intro _; rfl) : RunS X (.For tg iter body [] pos :: rest) D σ H := by
  refine st (ps_for (by rw [hx]; exact PassesOwn.never) calm sI hg sS hf) (hi G H s.rf _ fun Jt Gc Y G2 H2 g2 w hG gv => ?_)
  obtain ⟨Pv, h0, hs, hstep, hd⟩ := k G2 H2 g2
  refine for_it w (fun i σ' H' => ∃ G', Pv i σ' G' H') ⟨G2, h0⟩ (fun i σ' H' _ ⟨G', q⟩ => hG H' ((hs _ _ _ _ q).1.trans (hs _ _ _ _ q).2)) ?_ ?_
  · rintro i v σ' H' H'' hi' ⟨G', q⟩ yv
    have ex : Rs[i]? = some Rs[i] := List.getElem?_eq_getElem hi'
    obtain ⟨G3, g3, r⟩ := gv i Rs[i] G' H' v H'' ex (hs _ _ _ _ q).1 (hs _ _ _ _ q).2 yv
    exact hstep i Rs[i] v σ' G' H' G3 H'' ex q g3 r
  · rintro σ' H' ⟨G', q⟩
    exact hd σ' G' H' q
end

/-! ### defs -/
structure Def (K : PySem.W.Frag) (mg : Str → Option Value) (x : Str) (st : Stmt) (ps : List Str) : Prop where
  ex : ∃ (f : Addr) (fd : FuncData), mg x = some (.ref f) ∧ Fun K x x st f fd ∧ Binds K fd ps []
/-- the promise of a def that makes data within a mode -/
def spM {ι : Type} (Wd : ι → Md) (c : ι → Prop) (pre : ι → List Rel) (post : ι → Rel) : Sp := fun vs H Q _ => ∃ (i : ι) (G : Hp), Ok (Wd i) G H ∧ c i ∧ PR G vs (pre i) ∧ ∀ v G' H', Gw (Wd i) G H G' H' → (post i).p v G' → Q v H'
/-- .. and changes nothing -/
abbrev spP {ι : Type} (c : ι → Prop) (pre : ι → List Rel) (post : ι → Rel) : Sp := spM (fun _ => pureM) c pre post
structure Kn (P : Program) (w : World) (K : PySem.W.Frag) (mg : Str → Option Value) (base : Heap) (k : Nat) (x : Str) (sp : Sp) : Prop where
  ex : ∃ (f : Addr) (fd : FuncData) (ps : List Str), mg x = some (.ref f) ∧ PySem.W.keepIn K (.ref f) = true ∧ Binds K fd ps [] ∧ FnOk P w K mg base CX0 k f fd ps sp
theorem Kn.mono {P : Program} {w : World} {K : PySem.W.Frag} {mg : Str → Option Value} {base : Heap} {k j : Nat} {x : Str} {sp : Sp} (h : Kn P w K mg base k x sp) (hj : k ≤ j) : Kn P w K mg base j x sp := by
  obtain ⟨f, fd, ps, a, b, c, d⟩ := h.ex
  exact ⟨f, fd, ps, a, b, c, d.mono hj⟩
section
variable {W : Md} {X : Cx} {σ : L2.St} {G H G' H' : Hp} {e a b c : Expr} {es : List Expr} {R R1 R2 : Rel} {Rs Ss : List Rel} {pos p p2 apos : Pos} {N ps : List Str} {sc : Scope}
/-- a call as it stands -/
theorem gcall {sp : Sp} {k : Nat} {x : Str} {Q : VK} (h : Kn X.prog X.w X.K X.mg X.base k x sp) (hg : Gl X x) (hr : Room k X.A) (q : RunA X (e :: es) σ H fun vs H1 => sp vs H1 Q E0) (hdb : (x == ("__debug__" : Str)) = false := by decide)
    (he : starEach (e :: es) X.env = (false, eval e X.env) :: starEach es X.env := by rfl) (hpl : (backTo pos (starEach es X.env)).any (·.1) = false := by rfl) : RunE X (.Call (.Name x p) (e :: es) [] pos) σ H Q := by
  obtain ⟨f, fd, ps, h1, h2, h3, h4⟩ := h.ex
  refine gE (pe_call h4 hr hg h1 h2 h3 .nil pass0 sA hdb he hpl) ?_
  show RunA X (e :: es) σ H fun vs H1 => sp (vs ++ []) H1 Q E0
  have : (fun (vs : List V) H1 => sp (vs ++ []) H1 Q E0) = fun vs H1 => sp vs H1 Q E0 := by funext vs H1; rw [List.append_nil]
  rw [this]
  exact q
theorem jcall {ι : Type} {cc : ι → Prop} {pre : ι → List Rel} {post : ι → Rel} {k : Nat} {x : Str} (h : Kn X.prog X.w X.K X.mg X.base k x (spP cc pre post)) (hg : Gl X x) (hr : Room k X.A) (i : ι) (hc : cc i) (ha : JA W X (e :: es) σ G H (pre i)) (hdb : (x == ("__debug__" : Str)) = false := by decide)
    (he : starEach (e :: es) X.env = (false, eval e X.env) :: starEach es X.env := by rfl) (hpl : (backTo pos (starEach es X.env)).any (·.1) = false := by rfl) : J W X (.Call (.Name x p) (e :: es) [] pos) σ G H (post i) := fun G1 H1 g Q q =>
  gcall h hg hr (ha G1 H1 g _ fun vs G2 H2 g2 pr => ⟨i, G2, .pure g2.s, hc, pr, fun v G3 H3 g3 r => q v G3 H3 (g2.trans (Gw.up0 g2.ok g3.to0)) r⟩) hdb he hpl
/-- a call that writes within the mode -/
theorem jcallM {ι : Type} {Wd : ι → Md} {cc : ι → Prop} {pre : ι → List Rel} {post : ι → Rel} {k : Nat} {x : Str} (h : Kn X.prog X.w X.K X.mg X.base k x (spM Wd cc pre post)) (hg : Gl X x) (hr : Room k X.A) (i : ι) (hW : Wd i = W) (hc : cc i) (ha : JA W X (e :: es) σ G H (pre i)) (hdb : (x == ("__debug__" : Str)) = false := by decide)
    (he : starEach (e :: es) X.env = (false, eval e X.env) :: starEach es X.env := by rfl) (hpl : (backTo pos (starEach es X.env)).any (·.1) = false := by rfl) : J W X (.Call (.Name x p) (e :: es) [] pos) σ G H (post i) := fun G1 H1 g Q q =>
  gcall h hg hr (ha G1 H1 g _ fun vs G2 H2 g2 pr => ⟨i, G2, hW ▸ g2.ok, hc, pr, fun v G3 H3 g3 r => q v G3 H3 (g2.trans (hW ▸ g3)) r⟩) hdb he hpl
theorem nodup_take {l : List Str} {n : Nat} (h : l.Nodup) : (l.take n).Nodup := h.sublist (List.take_sublist _ _)
/-- a def's promise by its body; X is closed -/
theorem fn_body {P : Program} {w : World} {K : PySem.W.Frag} {mg : Str → Option Value} {base : Heap} {x qual : Str} {st : Stmt} {f : Addr} {fd : FuncData} {k : Nat} {sp : Sp} {C : List Str} (F : Fun K x qual st f fd) (S : FnScope (N ++ C) ps (defScope st)) (hloc : ∀ y ∈ N, Loc (defScope st) y)
    (len : ∀ vs H Q E, sp vs H Q E → vs.length = ps.length)
    (body : ∀ (X : Cx), Sees X N C (defScope st) → X.prog = P → X.w = w → X.K = K → X.mg = mg → X.base = base → X.xe = (fun _ _ => False) → Room k X.A → ∀ (vs : List V) (H : Hp) (Q : VK) (E : XK), sp vs H Q E →
      RunS X (defBody st) { nx := fun _ H' => Q .non H', rt := Q } (start (N ++ C) vs) H) : FnOk P w K mg base CX0 (k + 1) f fd ps sp := by
  refine F.ok S len fun cdv A outer s H vs Q E hr h => ⟨RunS _ _, sS, ?_⟩
  have sees : Sees (cxOf CX0 P w K mg base (N ++ C) qual (defScope st) f cdv A outer s H E).nox N C (defScope st) := ⟨rfl, fun y hy => hloc y hy, fun y h => (show (defScope st).names.lookup y = some .globalImplicit from h), fun y h => h, rfl, S.kind, rfl, fun _ => rfl, S.nd⟩
  exact body _ sees rfl rfl rfl rfl rfl rfl hr vs H Q E h
theorem kn_body {ι : Type} {Wd : ι → Md} {cc : ι → Prop} {pre : ι → List Rel} {post : ι → Rel} {P : Program} {w : World} {K : PySem.W.Frag} {mg : Str → Option Value} {base : Heap} {x : Str} {st : Stmt} {C : List Str} {k : Nat} (D : Def K mg x st ps) (S : FnScope (N ++ C) ps (defScope st)) (hloc : ∀ y ∈ N, Loc (defScope st) y)
    (len : ∀ i, (pre i).length = ps.length)
    (body : ∀ (X : Cx), Sees X N C (defScope st) → X.prog = P → X.w = w → X.K = K → X.mg = mg → X.base = base → X.xe = (fun _ _ => False) → Room k X.A → ∀ (vs : List V) (G H : Hp) (Q : VK) (i : ι), Ok (Wd i) G H → cc i → PR G vs (pre i) →
      (∀ v G' H', Gw (Wd i) G H G' H' → (post i).p v G' → Q v H') → RunS X (defBody st) { nx := fun _ H' => Q .non H', rt := Q } (start (N ++ C) vs) H) : Kn P w K mg base (k + 1) x (spM Wd cc pre post) := by
  obtain ⟨f, fd, h1, F, hb⟩ := D.ex
  refine ⟨f, fd, ps, h1, F.kp, hb, fn_body F S hloc (fun vs H Q E h => ?_) (fun X S hP hw hK hm hB hx hr vs H Q E h => ?_)⟩
  · obtain ⟨i, G, _, _, pr, _⟩ := h
    rw [pr.len, len i]
  · obtain ⟨i, G, s, hc, pr, q⟩ := h
    exact body X S hP hw hK hm hB hx hr vs G H Q i s hc pr q
end
end Lp
/-! ## Tx -/
set_option Elab.async false
set_option linter.all false
set_option maxRecDepth 100000
set_option maxHeartbeats 2000000
/-! The defs of the linked text by their places. Printed by gen_tx.py. -/
namespace Lp
open PySem L2
def top (i : Nat) : Stmt := PySem.Challenge.pw_lostplates_k70_whole_halls_of_long_histo.main.body.getD i (.Pass ⟨0, 0, 0, 0⟩)
abbrev s_is_number : Stmt := top 19
abbrev L_is_number : List Str := ["value", "smallest", "largest"]
abbrev C_is_number : List Str := []
abbrev p_is_number : List Str := ["value", "smallest", "largest"]
theorem sc_is_number : FnScope (L_is_number ++ C_is_number) p_is_number (defScope s_is_number) := ⟨rfl, rfl, rfl, by decide +kernel, rfl, by decide +kernel, by decide +kernel⟩
theorem lo_is_number : ∀ y ∈ L_is_number, L2.Loc (defScope s_is_number) y := by unfold L2.Loc; decide +kernel
abbrev s_is_text : Stmt := top 20
abbrev L_is_text : List Str := ["value", "signs"]
abbrev C_is_text : List Str := ["sign"]
abbrev p_is_text : List Str := ["value", "signs"]
theorem sc_is_text : FnScope (L_is_text ++ C_is_text) p_is_text (defScope s_is_text) := ⟨rfl, rfl, rfl, by decide +kernel, rfl, by decide +kernel, by decide +kernel⟩
theorem lo_is_text : ∀ y ∈ L_is_text, L2.Loc (defScope s_is_text) y := by unfold L2.Loc; decide +kernel
abbrev s_are_names : Stmt := top 21
abbrev L_are_names : List Str := ["row"]
abbrev C_are_names : List Str := ["name", "one", "other"]
abbrev p_are_names : List Str := ["row"]
theorem sc_are_names : FnScope (L_are_names ++ C_are_names) p_are_names (defScope s_are_names) := ⟨rfl, rfl, rfl, by decide +kernel, rfl, by decide +kernel, by decide +kernel⟩
theorem lo_are_names : ∀ y ∈ L_are_names, L2.Loc (defScope s_are_names) y := by unfold L2.Loc; decide +kernel
abbrev s_are_plates : Stmt := top 22
abbrev L_are_plates : List Str := ["row", "count"]
abbrev C_are_plates : List Str := ["plate"]
abbrev p_are_plates : List Str := ["row", "count"]
theorem sc_are_plates : FnScope (L_are_plates ++ C_are_plates) p_are_plates (defScope s_are_plates) := ⟨rfl, rfl, rfl, by decide +kernel, rfl, by decide +kernel, by decide +kernel⟩
theorem lo_are_plates : ∀ y ∈ L_are_plates, L2.Loc (defScope s_are_plates) y := by unfold L2.Loc; decide +kernel
abbrev s_is_manner : Stmt := top 23
abbrev L_is_manner : List Str := ["value", "names", "boxes"]
abbrev C_is_manner : List Str := ["box"]
abbrev p_is_manner : List Str := ["value", "names", "boxes"]
theorem sc_is_manner : FnScope (L_is_manner ++ C_is_manner) p_is_manner (defScope s_is_manner) := ⟨rfl, rfl, rfl, by decide +kernel, rfl, by decide +kernel, by decide +kernel⟩
theorem lo_is_manner : ∀ y ∈ L_is_manner, L2.Loc (defScope s_is_manner) y := by unfold L2.Loc; decide +kernel
abbrev s_are_manners : Stmt := top 24
abbrev L_are_manners : List Str := ["row", "names", "boxes"]
abbrev C_are_manners : List Str := ["name"]
abbrev p_are_manners : List Str := ["row", "names", "boxes"]
theorem sc_are_manners : FnScope (L_are_manners ++ C_are_manners) p_are_manners (defScope s_are_manners) := ⟨rfl, rfl, rfl, by decide +kernel, rfl, by decide +kernel, by decide +kernel⟩
theorem lo_are_manners : ∀ y ∈ L_are_manners, L2.Loc (defScope s_are_manners) y := by unfold L2.Loc; decide +kernel
abbrev s_House_init : Stmt := inClass (top 25) 1
abbrev L_House_init : List Str := ["self", "names", "plates", "manners"]
abbrev C_House_init : List Str := ["name"]
abbrev p_House_init : List Str := ["self", "names", "plates", "manners"]
theorem sc_House_init : FnScope (L_House_init ++ C_House_init) p_House_init (defScope s_House_init) := ⟨rfl, rfl, rfl, by decide +kernel, rfl, by decide +kernel, by decide +kernel⟩
theorem lo_House_init : ∀ y ∈ L_House_init, L2.Loc (defScope s_House_init) y := by unfold L2.Loc; decide +kernel
abbrev s_House_names : Stmt := inClass (top 25) 2
abbrev L_House_names : List Str := ["self"]
abbrev C_House_names : List Str := []
abbrev p_House_names : List Str := ["self"]
theorem sc_House_names : FnScope (L_House_names ++ C_House_names) p_House_names (defScope s_House_names) := ⟨rfl, rfl, rfl, by decide +kernel, rfl, by decide +kernel, by decide +kernel⟩
theorem lo_House_names : ∀ y ∈ L_House_names, L2.Loc (defScope s_House_names) y := by unfold L2.Loc; decide +kernel
abbrev s_House_plates : Stmt := inClass (top 25) 3
abbrev L_House_plates : List Str := ["self"]
abbrev C_House_plates : List Str := []
abbrev p_House_plates : List Str := ["self"]
theorem sc_House_plates : FnScope (L_House_plates ++ C_House_plates) p_House_plates (defScope s_House_plates) := ⟨rfl, rfl, rfl, by decide +kernel, rfl, by decide +kernel, by decide +kernel⟩
theorem lo_House_plates : ∀ y ∈ L_House_plates, L2.Loc (defScope s_House_plates) y := by unfold L2.Loc; decide +kernel
abbrev s_House_manners : Stmt := inClass (top 25) 4
abbrev L_House_manners : List Str := ["self"]
abbrev C_House_manners : List Str := []
abbrev p_House_manners : List Str := ["self"]
theorem sc_House_manners : FnScope (L_House_manners ++ C_House_manners) p_House_manners (defScope s_House_manners) := ⟨rfl, rfl, rfl, by decide +kernel, rfl, by decide +kernel, by decide +kernel⟩
theorem lo_House_manners : ∀ y ∈ L_House_manners, L2.Loc (defScope s_House_manners) y := by unfold L2.Loc; decide +kernel
abbrev s_House_len : Stmt := inClass (top 25) 5
abbrev L_House_len : List Str := ["self"]
abbrev C_House_len : List Str := []
abbrev p_House_len : List Str := ["self"]
theorem sc_House_len : FnScope (L_House_len ++ C_House_len) p_House_len (defScope s_House_len) := ⟨rfl, rfl, rfl, by decide +kernel, rfl, by decide +kernel, by decide +kernel⟩
theorem lo_House_len : ∀ y ∈ L_House_len, L2.Loc (defScope s_House_len) y := by unfold L2.Loc; decide +kernel
abbrev s_House_eq : Stmt := inClass (top 25) 6
abbrev L_House_eq : List Str := ["self", "other"]
abbrev C_House_eq : List Str := []
abbrev p_House_eq : List Str := ["self", "other"]
theorem sc_House_eq : FnScope (L_House_eq ++ C_House_eq) p_House_eq (defScope s_House_eq) := ⟨rfl, rfl, rfl, by decide +kernel, rfl, by decide +kernel, by decide +kernel⟩
theorem lo_House_eq : ∀ y ∈ L_House_eq, L2.Loc (defScope s_House_eq) y := by unfold L2.Loc; decide +kernel
abbrev s_check_name : Stmt := top 26
abbrev L_check_name : List Str := ["house", "name"]
abbrev C_check_name : List Str := []
abbrev p_check_name : List Str := ["house", "name"]
theorem sc_check_name : FnScope (L_check_name ++ C_check_name) p_check_name (defScope s_check_name) := ⟨rfl, rfl, rfl, by decide +kernel, rfl, by decide +kernel, by decide +kernel⟩
theorem lo_check_name : ∀ y ∈ L_check_name, L2.Loc (defScope s_check_name) y := by unfold L2.Loc; decide +kernel
abbrev s_check_box : Stmt := top 27
abbrev L_check_box : List Str := ["house", "box"]
abbrev C_check_box : List Str := []
abbrev p_check_box : List Str := ["house", "box"]
theorem sc_check_box : FnScope (L_check_box ++ C_check_box) p_check_box (defScope s_check_box) := ⟨rfl, rfl, rfl, by decide +kernel, rfl, by decide +kernel, by decide +kernel⟩
theorem lo_check_box : ∀ y ∈ L_check_box, L2.Loc (defScope s_check_box) y := by unfold L2.Loc; decide +kernel
abbrev s_with_manner : Stmt := top 28
abbrev L_with_manner : List Str := ["house", "name", "manner"]
abbrev C_with_manner : List Str := []
abbrev p_with_manner : List Str := ["house", "name", "manner"]
theorem sc_with_manner : FnScope (L_with_manner ++ C_with_manner) p_with_manner (defScope s_with_manner) := ⟨rfl, rfl, rfl, by decide +kernel, rfl, by decide +kernel, by decide +kernel⟩
theorem lo_with_manner : ∀ y ∈ L_with_manner, L2.Loc (defScope s_with_manner) y := by unfold L2.Loc; decide +kernel
abbrev s_is_order : Stmt := top 30
abbrev L_is_order : List Str := ["house", "order"]
abbrev C_is_order : List Str := ["box"]
abbrev p_is_order : List Str := ["house", "order"]
theorem sc_is_order : FnScope (L_is_order ++ C_is_order) p_is_order (defScope s_is_order) := ⟨rfl, rfl, rfl, by decide +kernel, rfl, by decide +kernel, by decide +kernel⟩
theorem lo_is_order : ∀ y ∈ L_is_order, L2.Loc (defScope s_is_order) y := by unfold L2.Loc; decide +kernel
abbrev s_check_order : Stmt := top 31
abbrev L_check_order : List Str := ["house", "order"]
abbrev C_check_order : List Str := []
abbrev p_check_order : List Str := ["house", "order"]
theorem sc_check_order : FnScope (L_check_order ++ C_check_order) p_check_order (defScope s_check_order) := ⟨rfl, rfl, rfl, by decide +kernel, rfl, by decide +kernel, by decide +kernel⟩
theorem lo_check_order : ∀ y ∈ L_check_order, L2.Loc (defScope s_check_order) y := by unfold L2.Loc; decide +kernel
abbrev s_does_match : Stmt := top 32
abbrev L_does_match : List Str := ["plate", "name"]
abbrev C_does_match : List Str := ["sign", "letter"]
abbrev p_does_match : List Str := ["plate", "name"]
theorem sc_does_match : FnScope (L_does_match ++ C_does_match) p_does_match (defScope s_does_match) := ⟨rfl, rfl, rfl, by decide +kernel, rfl, by decide +kernel, by decide +kernel⟩
theorem lo_does_match : ∀ y ∈ L_does_match, L2.Loc (defScope s_does_match) y := by unfold L2.Loc; decide +kernel
abbrev s_does_fit : Stmt := top 33
abbrev L_does_fit : List Str := ["house", "order", "box", "plate"]
abbrev C_does_fit : List Str := []
abbrev p_does_fit : List Str := ["house", "order"]
theorem sc_does_fit : FnScope (L_does_fit ++ C_does_fit) p_does_fit (defScope s_does_fit) := ⟨rfl, rfl, rfl, by decide +kernel, rfl, by decide +kernel, by decide +kernel⟩
theorem lo_does_fit : ∀ y ∈ L_does_fit, L2.Loc (defScope s_does_fit) y := by unfold L2.Loc; decide +kernel
abbrev s_owner_of : Stmt := top 34
abbrev L_owner_of : List Str := ["house", "order", "box"]
abbrev C_owner_of : List Str := []
abbrev p_owner_of : List Str := ["house", "order", "box"]
theorem sc_owner_of : FnScope (L_owner_of ++ C_owner_of) p_owner_of (defScope s_owner_of) := ⟨rfl, rfl, rfl, by decide +kernel, rfl, by decide +kernel, by decide +kernel⟩
theorem lo_owner_of : ∀ y ∈ L_owner_of, L2.Loc (defScope s_owner_of) y := by unfold L2.Loc; decide +kernel
abbrev s_handed_on : Stmt := top 39
abbrev L_handed_on : List Str := ["house", "owner", "name", "box", "manner", "goal"]
abbrev C_handed_on : List Str := []
abbrev p_handed_on : List Str := ["house", "owner", "name", "box"]
theorem sc_handed_on : FnScope (L_handed_on ++ C_handed_on) p_handed_on (defScope s_handed_on) := ⟨rfl, rfl, rfl, by decide +kernel, rfl, by decide +kernel, by decide +kernel⟩
theorem lo_handed_on : ∀ y ∈ L_handed_on, L2.Loc (defScope s_handed_on) y := by unfold L2.Loc; decide +kernel
abbrev s_way_of : Stmt := top 40
abbrev L_way_of : List Str := ["house", "order", "name", "box", "boxes", "here", "owner", "goal"]
abbrev C_way_of : List Str := []
abbrev p_way_of : List Str := ["house", "order", "name", "box"]
theorem sc_way_of : FnScope (L_way_of ++ C_way_of) p_way_of (defScope s_way_of) := ⟨rfl, rfl, rfl, by decide +kernel, rfl, by decide +kernel, by decide +kernel⟩
theorem lo_way_of : ∀ y ∈ L_way_of, L2.Loc (defScope s_way_of) y := by unfold L2.Loc; decide +kernel
abbrev s_answer_of : Stmt := top 41
abbrev L_answer_of : List Str := ["house", "order", "name", "box", "boxes", "word"]
abbrev C_answer_of : List Str := []
abbrev p_answer_of : List Str := ["house", "order", "name", "box"]
theorem sc_answer_of : FnScope (L_answer_of ++ C_answer_of) p_answer_of (defScope s_answer_of) := ⟨rfl, rfl, rfl, by decide +kernel, rfl, by decide +kernel, by decide +kernel⟩
theorem lo_answer_of : ∀ y ∈ L_answer_of, L2.Loc (defScope s_answer_of) y := by unfold L2.Loc; decide +kernel
abbrev s_learned : Stmt := top 44
abbrev L_learned : List Str := ["house", "order", "name", "boxes", "guess", "place", "box", "owner", "manner"]
abbrev C_learned : List Str := []
abbrev p_learned : List Str := ["house", "order", "name", "boxes", "guess"]
theorem sc_learned : FnScope (L_learned ++ C_learned) p_learned (defScope s_learned) := ⟨rfl, rfl, rfl, by decide +kernel, rfl, by decide +kernel, by decide +kernel⟩
theorem lo_learned : ∀ y ∈ L_learned, L2.Loc (defScope s_learned) y := by unfold L2.Loc; decide +kernel
abbrev s_behind_letter : Stmt := top 45
abbrev L_behind_letter : List Str := ["house", "order", "name", "box", "boxes", "word"]
abbrev C_behind_letter : List Str := []
abbrev p_behind_letter : List Str := ["house", "order", "name", "box"]
theorem sc_behind_letter : FnScope (L_behind_letter ++ C_behind_letter) p_behind_letter (defScope s_behind_letter) := ⟨rfl, rfl, rfl, by decide +kernel, rfl, by decide +kernel, by decide +kernel⟩
theorem lo_behind_letter : ∀ y ∈ L_behind_letter, L2.Loc (defScope s_behind_letter) y := by unfold L2.Loc; decide +kernel
abbrev s_exchanged : Stmt := top 47
abbrev L_exchanged : List Str := ["order", "one", "other", "found"]
abbrev C_exchanged : List Str := []
abbrev p_exchanged : List Str := ["order", "one", "other"]
theorem sc_exchanged : FnScope (L_exchanged ++ C_exchanged) p_exchanged (defScope s_exchanged) := ⟨rfl, rfl, rfl, by decide +kernel, rfl, by decide +kernel, by decide +kernel⟩
theorem lo_exchanged : ∀ y ∈ L_exchanged, L2.Loc (defScope s_exchanged) y := by unfold L2.Loc; decide +kernel
abbrev s_is_operation : Stmt := top 50
abbrev L_is_operation : List Str := ["value"]
abbrev C_is_operation : List Str := []
abbrev p_is_operation : List Str := ["value"]
theorem sc_is_operation : FnScope (L_is_operation ++ C_is_operation) p_is_operation (defScope s_is_operation) := ⟨rfl, rfl, rfl, by decide +kernel, rfl, by decide +kernel, by decide +kernel⟩
theorem lo_is_operation : ∀ y ∈ L_is_operation, L2.Loc (defScope s_is_operation) y := by unfold L2.Loc; decide +kernel
abbrev s_State_init : Stmt := inClass (top 51) 1
abbrev L_State_init : List Str := ["self", "facts", "shelf", "past", "undone"]
abbrev C_State_init : List Str := []
abbrev p_State_init : List Str := ["self", "facts", "shelf", "past", "undone"]
theorem sc_State_init : FnScope (L_State_init ++ C_State_init) p_State_init (defScope s_State_init) := ⟨rfl, rfl, rfl, by decide +kernel, rfl, by decide +kernel, by decide +kernel⟩
theorem lo_State_init : ∀ y ∈ L_State_init, L2.Loc (defScope s_State_init) y := by unfold L2.Loc; decide +kernel
abbrev s_State_copied : Stmt := inClass (top 51) 2
abbrev L_State_copied : List Str := ["self"]
abbrev C_State_copied : List Str := []
abbrev p_State_copied : List Str := ["self"]
theorem sc_State_copied : FnScope (L_State_copied ++ C_State_copied) p_State_copied (defScope s_State_copied) := ⟨rfl, rfl, rfl, by decide +kernel, rfl, by decide +kernel, by decide +kernel⟩
theorem lo_State_copied : ∀ y ∈ L_State_copied, L2.Loc (defScope s_State_copied) y := by unfold L2.Loc; decide +kernel
abbrev s_State_go_on : Stmt := inClass (top 51) 3
abbrev L_State_go_on : List Str := ["self", "operation", "facts", "shelf"]
abbrev C_State_go_on : List Str := []
abbrev p_State_go_on : List Str := ["self", "operation", "facts", "shelf"]
theorem sc_State_go_on : FnScope (L_State_go_on ++ C_State_go_on) p_State_go_on (defScope s_State_go_on) := ⟨rfl, rfl, rfl, by decide +kernel, rfl, by decide +kernel, by decide +kernel⟩
theorem lo_State_go_on : ∀ y ∈ L_State_go_on, L2.Loc (defScope s_State_go_on) y := by unfold L2.Loc; decide +kernel
abbrev s_State_go_back : Stmt := inClass (top 51) 4
abbrev L_State_go_back : List Str := ["self", "operation", "facts", "shelf"]
abbrev C_State_go_back : List Str := []
abbrev p_State_go_back : List Str := ["self"]
theorem sc_State_go_back : FnScope (L_State_go_back ++ C_State_go_back) p_State_go_back (defScope s_State_go_back) := ⟨rfl, rfl, rfl, by decide +kernel, rfl, by decide +kernel, by decide +kernel⟩
theorem lo_State_go_back : ∀ y ∈ L_State_go_back, L2.Loc (defScope s_State_go_back) y := by unfold L2.Loc; decide +kernel
abbrev s_State_go_again : Stmt := inClass (top 51) 5
abbrev L_State_go_again : List Str := ["self", "operation", "facts", "shelf"]
abbrev C_State_go_again : List Str := []
abbrev p_State_go_again : List Str := ["self"]
theorem sc_State_go_again : FnScope (L_State_go_again ++ C_State_go_again) p_State_go_again (defScope s_State_go_again) := ⟨rfl, rfl, rfl, by decide +kernel, rfl, by decide +kernel, by decide +kernel⟩
theorem lo_State_go_again : ∀ y ∈ L_State_go_again, L2.Loc (defScope s_State_go_again) y := by unfold L2.Loc; decide +kernel
abbrev s_Hall_init : Stmt := inClass (top 52) 0
abbrev L_Hall_init : List Str := ["self", "house", "order"]
abbrev C_Hall_init : List Str := []
abbrev p_Hall_init : List Str := ["self", "house", "order"]
theorem sc_Hall_init : FnScope (L_Hall_init ++ C_Hall_init) p_Hall_init (defScope s_Hall_init) := ⟨rfl, rfl, rfl, by decide +kernel, rfl, by decide +kernel, by decide +kernel⟩
theorem lo_Hall_init : ∀ y ∈ L_Hall_init, L2.Loc (defScope s_Hall_init) y := by unfold L2.Loc; decide +kernel
abbrev s_Hall_replay : Stmt := inClass (top 52) 1
abbrev L_Hall_replay : List Str := ["cls", "house", "order", "operations", "hall"]
abbrev C_Hall_replay : List Str := []
abbrev p_Hall_replay : List Str := ["cls", "house", "order", "operations"]
theorem sc_Hall_replay : FnScope (L_Hall_replay ++ C_Hall_replay) p_Hall_replay (defScope s_Hall_replay) := ⟨rfl, rfl, rfl, by decide +kernel, rfl, by decide +kernel, by decide +kernel⟩
theorem lo_Hall_replay : ∀ y ∈ L_Hall_replay, L2.Loc (defScope s_Hall_replay) y := by unfold L2.Loc; decide +kernel
abbrev s_Hall_house_now : Stmt := inClass (top 52) 2
abbrev L_Hall_house_now : List Str := ["self"]
abbrev C_Hall_house_now : List Str := []
abbrev p_Hall_house_now : List Str := ["self"]
theorem sc_Hall_house_now : FnScope (L_Hall_house_now ++ C_Hall_house_now) p_Hall_house_now (defScope s_Hall_house_now) := ⟨rfl, rfl, rfl, by decide +kernel, rfl, by decide +kernel, by decide +kernel⟩
theorem lo_Hall_house_now : ∀ y ∈ L_Hall_house_now, L2.Loc (defScope s_Hall_house_now) y := by unfold L2.Loc; decide +kernel
abbrev s_Hall_living : Stmt := inClass (top 52) 3
abbrev L_Hall_living : List Str := ["self"]
abbrev C_Hall_living : List Str := []
abbrev p_Hall_living : List Str := ["self"]
theorem sc_Hall_living : FnScope (L_Hall_living ++ C_Hall_living) p_Hall_living (defScope s_Hall_living) := ⟨rfl, rfl, rfl, by decide +kernel, rfl, by decide +kernel, by decide +kernel⟩
theorem lo_Hall_living : ∀ y ∈ L_Hall_living, L2.Loc (defScope s_Hall_living) y := by unfold L2.Loc; decide +kernel
abbrev s_Hall_teaches : Stmt := inClass (top 52) 4
abbrev L_Hall_teaches : List Str := ["self"]
abbrev C_Hall_teaches : List Str := []
abbrev p_Hall_teaches : List Str := ["self"]
theorem sc_Hall_teaches : FnScope (L_Hall_teaches ++ C_Hall_teaches) p_Hall_teaches (defScope s_Hall_teaches) := ⟨rfl, rfl, rfl, by decide +kernel, rfl, by decide +kernel, by decide +kernel⟩
theorem lo_Hall_teaches : ∀ y ∈ L_Hall_teaches, L2.Loc (defScope s_Hall_teaches) y := by unfold L2.Loc; decide +kernel
abbrev s_Hall_posted : Stmt := inClass (top 52) 5
abbrev L_Hall_posted : List Str := ["self"]
abbrev C_Hall_posted : List Str := []
abbrev p_Hall_posted : List Str := ["self"]
theorem sc_Hall_posted : FnScope (L_Hall_posted ++ C_Hall_posted) p_Hall_posted (defScope s_Hall_posted) := ⟨rfl, rfl, rfl, by decide +kernel, rfl, by decide +kernel, by decide +kernel⟩
theorem lo_Hall_posted : ∀ y ∈ L_Hall_posted, L2.Loc (defScope s_Hall_posted) y := by unfold L2.Loc; decide +kernel
abbrev s_Hall_kept_under : Stmt := inClass (top 52) 6
abbrev L_Hall_kept_under : List Str := ["self"]
abbrev C_Hall_kept_under : List Str := []
abbrev p_Hall_kept_under : List Str := ["self"]
theorem sc_Hall_kept_under : FnScope (L_Hall_kept_under ++ C_Hall_kept_under) p_Hall_kept_under (defScope s_Hall_kept_under) := ⟨rfl, rfl, rfl, by decide +kernel, rfl, by decide +kernel, by decide +kernel⟩
theorem lo_Hall_kept_under : ∀ y ∈ L_Hall_kept_under, L2.Loc (defScope s_Hall_kept_under) y := by unfold L2.Loc; decide +kernel
abbrev s_Hall_history : Stmt := inClass (top 52) 7
abbrev L_Hall_history : List Str := ["self"]
abbrev C_Hall_history : List Str := ["operation", "facts", "shelf"]
abbrev p_Hall_history : List Str := ["self"]
theorem sc_Hall_history : FnScope (L_Hall_history ++ C_Hall_history) p_Hall_history (defScope s_Hall_history) := ⟨rfl, rfl, rfl, by decide +kernel, rfl, by decide +kernel, by decide +kernel⟩
theorem lo_Hall_history : ∀ y ∈ L_Hall_history, L2.Loc (defScope s_Hall_history) y := by unfold L2.Loc; decide +kernel
abbrev s_Hall_enter : Stmt := inClass (top 52) 8
abbrev L_Hall_enter : List Str := ["self", "operation", "facts"]
abbrev C_Hall_enter : List Str := []
abbrev p_Hall_enter : List Str := ["self", "operation", "facts"]
theorem sc_Hall_enter : FnScope (L_Hall_enter ++ C_Hall_enter) p_Hall_enter (defScope s_Hall_enter) := ⟨rfl, rfl, rfl, by decide +kernel, rfl, by decide +kernel, by decide +kernel⟩
theorem lo_Hall_enter : ∀ y ∈ L_Hall_enter, L2.Loc (defScope s_Hall_enter) y := by unfold L2.Loc; decide +kernel
abbrev s_Hall_post : Stmt := inClass (top 52) 9
abbrev L_Hall_post : List Str := ["self", "name", "box", "house", "order", "teaches", "letters", "boxes", "word", "later"]
abbrev C_Hall_post : List Str := []
abbrev p_Hall_post : List Str := ["self", "name", "box"]
theorem sc_Hall_post : FnScope (L_Hall_post ++ C_Hall_post) p_Hall_post (defScope s_Hall_post) := ⟨rfl, rfl, rfl, by decide +kernel, rfl, by decide +kernel, by decide +kernel⟩
theorem lo_Hall_post : ∀ y ∈ L_Hall_post, L2.Loc (defScope s_Hall_post) y := by unfold L2.Loc; decide +kernel
abbrev s_Hall_swap : Stmt := inClass (top 52) 10
abbrev L_Hall_swap : List Str := ["self", "name", "other", "house", "order", "teaches", "letters", "later"]
abbrev C_Hall_swap : List Str := []
abbrev p_Hall_swap : List Str := ["self", "name", "other"]
theorem sc_Hall_swap : FnScope (L_Hall_swap ++ C_Hall_swap) p_Hall_swap (defScope s_Hall_swap) := ⟨rfl, rfl, rfl, by decide +kernel, rfl, by decide +kernel, by decide +kernel⟩
theorem lo_Hall_swap : ∀ y ∈ L_Hall_swap, L2.Loc (defScope s_Hall_swap) y := by unfold L2.Loc; decide +kernel
abbrev s_Hall_shift : Stmt := inClass (top 52) 11
abbrev L_Hall_shift : List Str := ["self", "name", "box", "house", "order", "teaches", "letters", "index"]
abbrev C_Hall_shift : List Str := []
abbrev p_Hall_shift : List Str := ["self", "name", "box"]
theorem sc_Hall_shift : FnScope (L_Hall_shift ++ C_Hall_shift) p_Hall_shift (defScope s_Hall_shift) := ⟨rfl, rfl, rfl, by decide +kernel, rfl, by decide +kernel, by decide +kernel⟩
theorem lo_Hall_shift : ∀ y ∈ L_Hall_shift, L2.Loc (defScope s_Hall_shift) y := by unfold L2.Loc; decide +kernel
abbrev s_Hall_teach : Stmt := inClass (top 52) 12
abbrev L_Hall_teach : List Str := ["self", "yes", "house", "order", "teaches", "letters"]
abbrev C_Hall_teach : List Str := []
abbrev p_Hall_teach : List Str := ["self", "yes"]
theorem sc_Hall_teach : FnScope (L_Hall_teach ++ C_Hall_teach) p_Hall_teach (defScope s_Hall_teach) := ⟨rfl, rfl, rfl, by decide +kernel, rfl, by decide +kernel, by decide +kernel⟩
theorem lo_Hall_teach : ∀ y ∈ L_Hall_teach, L2.Loc (defScope s_Hall_teach) y := by unfold L2.Loc; decide +kernel
abbrev s_Hall_keep_as : Stmt := inClass (top 52) 13
abbrev L_Hall_keep_as : List Str := ["self", "name", "state", "is_there"]
abbrev C_Hall_keep_as : List Str := []
abbrev p_Hall_keep_as : List Str := ["self", "name"]
theorem sc_Hall_keep_as : FnScope (L_Hall_keep_as ++ C_Hall_keep_as) p_Hall_keep_as (defScope s_Hall_keep_as) := ⟨rfl, rfl, rfl, by decide +kernel, rfl, by decide +kernel, by decide +kernel⟩
theorem lo_Hall_keep_as : ∀ y ∈ L_Hall_keep_as, L2.Loc (defScope s_Hall_keep_as) y := by unfold L2.Loc; decide +kernel
abbrev s_Hall_fetch : Stmt := inClass (top 52) 14
abbrev L_Hall_fetch : List Str := ["self", "name", "state"]
abbrev C_Hall_fetch : List Str := []
abbrev p_Hall_fetch : List Str := ["self", "name"]
theorem sc_Hall_fetch : FnScope (L_Hall_fetch ++ C_Hall_fetch) p_Hall_fetch (defScope s_Hall_fetch) := ⟨rfl, rfl, rfl, by decide +kernel, rfl, by decide +kernel, by decide +kernel⟩
theorem lo_Hall_fetch : ∀ y ∈ L_Hall_fetch, L2.Loc (defScope s_Hall_fetch) y := by unfold L2.Loc; decide +kernel
abbrev s_Hall_undo : Stmt := inClass (top 52) 15
abbrev L_Hall_undo : List Str := ["self"]
abbrev C_Hall_undo : List Str := []
abbrev p_Hall_undo : List Str := ["self"]
theorem sc_Hall_undo : FnScope (L_Hall_undo ++ C_Hall_undo) p_Hall_undo (defScope s_Hall_undo) := ⟨rfl, rfl, rfl, by decide +kernel, rfl, by decide +kernel, by decide +kernel⟩
theorem lo_Hall_undo : ∀ y ∈ L_Hall_undo, L2.Loc (defScope s_Hall_undo) y := by unfold L2.Loc; decide +kernel
abbrev s_Hall_redo : Stmt := inClass (top 52) 16
abbrev L_Hall_redo : List Str := ["self"]
abbrev C_Hall_redo : List Str := []
abbrev p_Hall_redo : List Str := ["self"]
theorem sc_Hall_redo : FnScope (L_Hall_redo ++ C_Hall_redo) p_Hall_redo (defScope s_Hall_redo) := ⟨rfl, rfl, rfl, by decide +kernel, rfl, by decide +kernel, by decide +kernel⟩
theorem lo_Hall_redo : ∀ y ∈ L_Hall_redo, L2.Loc (defScope s_Hall_redo) y := by unfold L2.Loc; decide +kernel
abbrev s_Hall_execute : Stmt := inClass (top 52) 17
abbrev L_Hall_execute : List Str := ["self", "operation", "word", "rest"]
abbrev C_Hall_execute : List Str := []
abbrev p_Hall_execute : List Str := ["self", "operation"]
theorem sc_Hall_execute : FnScope (L_Hall_execute ++ C_Hall_execute) p_Hall_execute (defScope s_Hall_execute) := ⟨rfl, rfl, rfl, by decide +kernel, rfl, by decide +kernel, by decide +kernel⟩
theorem lo_Hall_execute : ∀ y ∈ L_Hall_execute, L2.Loc (defScope s_Hall_execute) y := by unfold L2.Loc; decide +kernel
abbrev s_Hall_apply_all : Stmt := inClass (top 52) 18
abbrev L_Hall_apply_all : List Str := ["self", "operations", "index", "operation", "trial", "found"]
abbrev C_Hall_apply_all : List Str := []
abbrev p_Hall_apply_all : List Str := ["self", "operations"]
theorem sc_Hall_apply_all : FnScope (L_Hall_apply_all ++ C_Hall_apply_all) p_Hall_apply_all (defScope s_Hall_apply_all) := ⟨rfl, rfl, rfl, by decide +kernel, rfl, by decide +kernel, by decide +kernel⟩
theorem lo_Hall_apply_all : ∀ y ∈ L_Hall_apply_all, L2.Loc (defScope s_Hall_apply_all) y := by unfold L2.Loc; decide +kernel
abbrev s_Trial_init : Stmt := inClass (top 53) 0
abbrev L_Trial_init : List Str := ["self", "hall"]
abbrev C_Trial_init : List Str := []
abbrev p_Trial_init : List Str := ["self", "hall"]
theorem sc_Trial_init : FnScope (L_Trial_init ++ C_Trial_init) p_Trial_init (defScope s_Trial_init) := ⟨rfl, rfl, rfl, by decide +kernel, rfl, by decide +kernel, by decide +kernel⟩
theorem lo_Trial_init : ∀ y ∈ L_Trial_init, L2.Loc (defScope s_Trial_init) y := by unfold L2.Loc; decide +kernel
abbrev s_Trial_hold : Stmt := inClass (top 53) 1
abbrev L_Trial_hold : List Str := ["self"]
abbrev C_Trial_hold : List Str := []
abbrev p_Trial_hold : List Str := ["self"]
theorem sc_Trial_hold : FnScope (L_Trial_hold ++ C_Trial_hold) p_Trial_hold (defScope s_Trial_hold) := ⟨rfl, rfl, rfl, by decide +kernel, rfl, by decide +kernel, by decide +kernel⟩
theorem lo_Trial_hold : ∀ y ∈ L_Trial_hold, L2.Loc (defScope s_Trial_hold) y := by unfold L2.Loc; decide +kernel
abbrev s_Trial_enter : Stmt := inClass (top 53) 2
abbrev L_Trial_enter : List Str := ["self"]
abbrev C_Trial_enter : List Str := []
abbrev p_Trial_enter : List Str := ["self"]
theorem sc_Trial_enter : FnScope (L_Trial_enter ++ C_Trial_enter) p_Trial_enter (defScope s_Trial_enter) := ⟨rfl, rfl, rfl, by decide +kernel, rfl, by decide +kernel, by decide +kernel⟩
theorem lo_Trial_enter : ∀ y ∈ L_Trial_enter, L2.Loc (defScope s_Trial_enter) y := by unfold L2.Loc; decide +kernel
abbrev s_Trial_exit : Stmt := inClass (top 53) 3
abbrev L_Trial_exit : List Str := ["self", "kind", "error", "trace"]
abbrev C_Trial_exit : List Str := []
abbrev p_Trial_exit : List Str := ["self", "kind", "error", "trace"]
theorem sc_Trial_exit : FnScope (L_Trial_exit ++ C_Trial_exit) p_Trial_exit (defScope s_Trial_exit) := ⟨rfl, rfl, rfl, by decide +kernel, rfl, by decide +kernel, by decide +kernel⟩
theorem lo_Trial_exit : ∀ y ∈ L_Trial_exit, L2.Loc (defScope s_Trial_exit) y := by unfold L2.Loc; decide +kernel
abbrev s_law_taken : Stmt := top 55
abbrev L_law_taken : List Str := ["_law_row", "_law_many", "_law_found", "_law_cell"]
abbrev C_law_taken : List Str := []
abbrev p_law_taken : List Str := ["_law_row", "_law_many"]
theorem sc_law_taken : FnScope (L_law_taken ++ C_law_taken) p_law_taken (defScope s_law_taken) := ⟨rfl, rfl, rfl, by decide +kernel, rfl, by decide +kernel, by decide +kernel⟩
theorem lo_law_taken : ∀ y ∈ L_law_taken, L2.Loc (defScope s_law_taken) y := by unfold L2.Loc; decide +kernel
abbrev s_law_pick : Stmt := top 56
abbrev L_law_pick : List Str := ["_law_row", "_law_some"]
abbrev C_law_pick : List Str := []
abbrev p_law_pick : List Str := ["_law_row", "_law_some"]
theorem sc_law_pick : FnScope (L_law_pick ++ C_law_pick) p_law_pick (defScope s_law_pick) := ⟨rfl, rfl, rfl, by decide +kernel, rfl, by decide +kernel, by decide +kernel⟩
theorem lo_law_pick : ∀ y ∈ L_law_pick, L2.Loc (defScope s_law_pick) y := by unfold L2.Loc; decide +kernel
abbrev s_law_mixed : Stmt := top 57
abbrev L_law_mixed : List Str := ["_law_row", "_law_things", "_law_left", "_law_found"]
abbrev C_law_mixed : List Str := []
abbrev p_law_mixed : List Str := ["_law_row", "_law_things"]
theorem sc_law_mixed : FnScope (L_law_mixed ++ C_law_mixed) p_law_mixed (defScope s_law_mixed) := ⟨rfl, rfl, rfl, by decide +kernel, rfl, by decide +kernel, by decide +kernel⟩
theorem lo_law_mixed : ∀ y ∈ L_law_mixed, L2.Loc (defScope s_law_mixed) y := by unfold L2.Loc; decide +kernel
abbrev s_law_goes : Stmt := top 58
abbrev L_law_goes : List Str := ["_law_plate", "_law_name", "_law_wrong"]
abbrev C_law_goes : List Str := ["_law_k"]
abbrev p_law_goes : List Str := ["_law_plate", "_law_name"]
theorem sc_law_goes : FnScope (L_law_goes ++ C_law_goes) p_law_goes (defScope s_law_goes) := ⟨rfl, rfl, rfl, by decide +kernel, rfl, by decide +kernel, by decide +kernel⟩
theorem lo_law_goes : ∀ y ∈ L_law_goes, L2.Loc (defScope s_law_goes) y := by unfold L2.Loc; decide +kernel
abbrev s_law_orders : Stmt := top 59
abbrev L_law_orders : List Str := ["_law_plan", "_law_size", "_law_found", "_law_name", "_law_longer", "_law_good", "_law_some", "_law_signed_ones"]
abbrev C_law_orders : List Str := ["_law_box"]
abbrev p_law_orders : List Str := ["_law_plan"]
theorem sc_law_orders : FnScope (L_law_orders ++ C_law_orders) p_law_orders (defScope s_law_orders) := ⟨rfl, rfl, rfl, by decide +kernel, rfl, by decide +kernel, by decide +kernel⟩
theorem lo_law_orders : ∀ y ∈ L_law_orders, L2.Loc (defScope s_law_orders) y := by unfold L2.Loc; decide +kernel
abbrev s_law_way : Stmt := top 60
abbrev L_law_way : List Str := ["_law_plan", "_law_some", "_law_name", "_law_box", "_law_met", "_law_turn", "_law_here", "_law_owner", "_law_manner", "_law_goal"]
abbrev C_law_way : List Str := ["_law_k"]
abbrev p_law_way : List Str := ["_law_plan", "_law_some", "_law_name", "_law_box"]
theorem sc_law_way : FnScope (L_law_way ++ C_law_way) p_law_way (defScope s_law_way) := ⟨rfl, rfl, rfl, by decide +kernel, rfl, by decide +kernel, by decide +kernel⟩
theorem lo_law_way : ∀ y ∈ L_law_way, L2.Loc (defScope s_law_way) y := by unfold L2.Loc; decide +kernel
abbrev s_law_letters : Stmt := top 61
abbrev L_law_letters : List Str := ["_law_plan", "_law_found", "_law_name"]
abbrev C_law_letters : List Str := ["_law_box"]
abbrev p_law_letters : List Str := ["_law_plan"]
theorem sc_law_letters : FnScope (L_law_letters ++ C_law_letters) p_law_letters (defScope s_law_letters) := ⟨rfl, rfl, rfl, by decide +kernel, rfl, by decide +kernel, by decide +kernel⟩
theorem lo_law_letters : ∀ y ∈ L_law_letters, L2.Loc (defScope s_law_letters) y := by unfold L2.Loc; decide +kernel
abbrev s_law_scheme : Stmt := top 62
abbrev L_law_scheme : List Str := ["_law_row", "_law_most", "_law_pool", "_law_count", "_law_names", "_law_size", "_law_truth", "_law_signs", "_law_k", "_law_ways", "_law_name", "_law_guess"]
abbrev C_law_scheme : List Str := ["_law_letter", "_law_box"]
abbrev p_law_scheme : List Str := ["_law_row", "_law_most"]
theorem sc_law_scheme : FnScope (L_law_scheme ++ C_law_scheme) p_law_scheme (defScope s_law_scheme) := ⟨rfl, rfl, rfl, by decide +kernel, rfl, by decide +kernel, by decide +kernel⟩
theorem lo_law_scheme : ∀ y ∈ L_law_scheme, L2.Loc (defScope s_law_scheme) y := by unfold L2.Loc; decide +kernel
abbrev s_law_built : Stmt := top 63
abbrev L_law_built : List Str := ["_law_plan"]
abbrev C_law_built : List Str := []
abbrev p_law_built : List Str := ["_law_plan"]
theorem sc_law_built : FnScope (L_law_built ++ C_law_built) p_law_built (defScope s_law_built) := ⟨rfl, rfl, rfl, by decide +kernel, rfl, by decide +kernel, by decide +kernel⟩
theorem lo_law_built : ∀ y ∈ L_law_built, L2.Loc (defScope s_law_built) y := by unfold L2.Loc; decide +kernel
abbrev s_law_rowhouse : Stmt := top 64
abbrev L_law_rowhouse : List Str := ["_law_row", "_law_names", "_law_ways"]
abbrev C_law_rowhouse : List Str := ["_law_k"]
abbrev p_law_rowhouse : List Str := ["_law_row"]
theorem sc_law_rowhouse : FnScope (L_law_rowhouse ++ C_law_rowhouse) p_law_rowhouse (defScope s_law_rowhouse) := ⟨rfl, rfl, rfl, by decide +kernel, rfl, by decide +kernel, by decide +kernel⟩
theorem lo_law_rowhouse : ∀ y ∈ L_law_rowhouse, L2.Loc (defScope s_law_rowhouse) y := by unfold L2.Loc; decide +kernel
abbrev s_law_taught : Stmt := top 65
abbrev L_law_taught : List Str := ["_law_plan", "_law_ways", "_law_some", "_law_name", "_law_boxes", "_law_word", "_law_found", "_law_box", "_law_owner", "_law_guess"]
abbrev C_law_taught : List Str := []
abbrev p_law_taught : List Str := ["_law_plan", "_law_ways", "_law_some", "_law_name", "_law_boxes", "_law_word"]
theorem sc_law_taught : FnScope (L_law_taught ++ C_law_taught) p_law_taught (defScope s_law_taught) := ⟨rfl, rfl, rfl, by decide +kernel, rfl, by decide +kernel, by decide +kernel⟩
theorem lo_law_taught : ∀ y ∈ L_law_taught, L2.Loc (defScope s_law_taught) y := by unfold L2.Loc; decide +kernel
abbrev s_law_swapped : Stmt := top 66
abbrev L_law_swapped : List Str := ["_law_row", "_law_plan", "_law_scene", "_law_back", "_law_ways", "_law_some", "_law_is_on", "_law_put", "_law_shelf", "_law_free", "_law_spot", "_law_box", "_law_later", "_law_other", "_law_line", "_law_result", "_law_yes"]
abbrev C_law_swapped : List Str := []
abbrev p_law_swapped : List Str := ["_law_row", "_law_plan", "_law_scene", "_law_back"]
theorem sc_law_swapped : FnScope (L_law_swapped ++ C_law_swapped) p_law_swapped (defScope s_law_swapped) := ⟨rfl, rfl, rfl, by decide +kernel, rfl, by decide +kernel, by decide +kernel⟩
theorem lo_law_swapped : ∀ y ∈ L_law_swapped, L2.Loc (defScope s_law_swapped) y := by unfold L2.Loc; decide +kernel
abbrev s_law_step : Stmt := top 67
abbrev L_law_step : List Str := ["_law_row", "_law_plan", "_law_scene", "_law_ways", "_law_some", "_law_is_on", "_law_put", "_law_shelf", "_law_kind", "_law_name", "_law_now", "_law_letter", "_law_boxes", "_law_word", "_law_later", "_law_seen", "_law_more"]
abbrev C_law_step : List Str := []
abbrev p_law_step : List Str := ["_law_row", "_law_plan", "_law_scene"]
theorem sc_law_step : FnScope (L_law_step ++ C_law_step) p_law_step (defScope s_law_step) := ⟨rfl, rfl, rfl, by decide +kernel, rfl, by decide +kernel, by decide +kernel⟩
theorem lo_law_step : ∀ y ∈ L_law_step, L2.Loc (defScope s_law_step) y := by unfold L2.Loc; decide +kernel
abbrev s_law_shows : Stmt := top 68
abbrev L_law_shows : List Str := ["_law_hall", "_law_plan", "_law_scene"]
abbrev C_law_shows : List Str := []
abbrev p_law_shows : List Str := ["_law_hall", "_law_plan", "_law_scene"]
theorem sc_law_shows : FnScope (L_law_shows ++ C_law_shows) p_law_shows (defScope s_law_shows) := ⟨rfl, rfl, rfl, by decide +kernel, rfl, by decide +kernel, by decide +kernel⟩
theorem lo_law_shows : ∀ y ∈ L_law_shows, L2.Loc (defScope s_law_shows) y := by unfold L2.Loc; decide +kernel
abbrev s_law : Stmt := top 69
abbrev L_law : List Str := ["_law_script", "_law_row", "_law_plan", "_law_begin", "_law_hall", "_law_past", "_law_future", "_law_turn", "_law_kind", "_law_operation", "_law_scene", "_law_due", "_law_done", "_law_again"]
abbrev C_law : List Str := ["_law_one"]
abbrev p_law : List Str := ["_law_script"]
theorem sc_law : FnScope (L_law ++ C_law) p_law (defScope s_law) := ⟨rfl, rfl, rfl, by decide +kernel, rfl, by decide +kernel, by decide +kernel⟩
theorem lo_law : ∀ y ∈ L_law, L2.Loc (defScope s_law) y := by unfold L2.Loc; decide +kernel
end Lp
/-! ## Pr1 -/
set_option Elab.async false
set_option linter.all false
set_option maxRecDepth 100000
set_option maxHeartbeats 2000000
/-! Rules that the layer lacks: d | e. -/
namespace Lp
open PySem PySem.Spec PyProof.Rows L2
section
variable {prog : Program} {w : World} {K : Type} [DecidableEq K] {knd : KeyKind prog w K} {A : Around} {E : Value → Shared → Prop} {s : Shared}
theorem fill_or : fillsNumberSlot (.type "dict") "or" = pure true := by first | kernel_rfl | rfl
/-- d | e of two plain dicts: a new one -/
theorem dict_or {a b : Addr} {ka kb : List (K × Value)} {Q : Value → Shared → Prop} (ha : (a == sysModules) = false) (hb : (b == sysModules) = false) (hu : A.units < cLine)
    (da : s.heap.DictOf knd a ka) (db : s.heap.DictOf knd b kb) (hz : ka.length + kb.length ≤ sizeLine)
    (h : ∀ h', h'.DictOf knd s.heap.objs.size (merged ka kb) → (∀ c o, s.heap.get? c = some o → h'.get? c = some o) → Q (.ref s.heap.objs.size) { s with heap := h' }) :
    wpAny (model prog w) A (binaryOp .BitOr (.ref a) (.ref b)) Q E s := by
  refine wpAny_binaryOp_same da.typeIs db.typeIs fill_or PySem.F.slot_dict_or (wpAny_call_entry PySem.F.slot_dict_or da.typeIs PySem.F.entry_dict_or ?_ (PySem.F.args_dict_or_2 _ _))
  obtain ⟨o, es, ep, ho, hc, hdat, hk, hp, hn⟩ := id da
  have hes : es.size ≤ sizeLine + 1 := by
    have e1 := hp.length
    have e2 : es.toList.length = es.size := by simp
    omega
  have hlt : a < s.heap.objs.size := Heap.lt_size ho
  have hltb : b < s.heap.objs.size := by
    obtain ⟨_, _, _, hg, _⟩ := db
    exact Heap.lt_size hg
  show wpAny _ _ (Builtin.Dict.dictSlotArgs "__or__" ⟨[.ref a, .ref b], []⟩ >>= _) _ _ s
  refine wpAny_bind ?_
  unfold Builtin.Dict.dictSlotArgs
  refine wpAny_bind (wpAny_notOrdered_dict da.typeIs ?_)
  show wpAny _ _ (pure (Value.ref a, Value.ref b)) _ _ s
  refine wpAny_pure ?_
  show wpAny _ _ (do
    if !(← isInstance (.ref a) (.type "dict") <&&> isInstance (.ref b) (.type "dict")) then rule s!"{"dict.__or__"}.not-a-dict"; return ← ret .notImplemented
    let new ← Builtin.Dict.copyOf "dict.__or__" (.ref a)
    holding [new] (Builtin.Dict.updateFrom "dict.__or__" (← Builtin.Dict.addrOf new) (.ref b) [] new)) _ _ s
  refine wpAny_bind (wpAny_bind (wpAny_isInstance (T := "dict") da.typeIs PySem.F.sub_dict_dict ?_))
  show wpAny _ _ (isInstance (Value.ref b) (Value.type "dict")) _ _ _
  refine wpAny_isInstance (T := "dict") db.typeIs PySem.F.sub_dict_dict ?_
  simp only [Bool.not_true, Bool.false_eq_true, if_false]
  refine wpAny_bind ?_
  unfold Builtin.Dict.copyOf
  refine wpAny_bind (wpAny_pure ?_)
  unfold Builtin.Dict.showsAll
  rw [if_neg (by rw [ha]; exact Bool.false_ne_true)]
  refine wpAny_bind (wpAny_pure ?_)
  refine wpAny_bind (wpAny_dictEntries ho hdat ?_)
  have fin : ∀ es' : Array DictEntry, es' = es → wpAny (model prog w) A.in1 (do
      holding [Value.ref s.heap.objs.size] (Builtin.Dict.updateFrom "dict.__or__" (← Builtin.Dict.addrOf (Value.ref s.heap.objs.size)) (.ref b) [] (Value.ref s.heap.objs.size)))
      (fun fin s' => ∃ v, fin = Fin.done (Flow.ret v) ∧ v ≠ Value.notImplemented ∧ Q v s') E { s with heap := s.heap.push { cls := .type "dict", data := .dict es' } } := by
    rintro es' rfl
    refine wpAny_bind (wpAny_pure (wpAny_holding ?_))
    have dn : (s.heap.push { cls := .type "dict", data := .dict es' }).DictOf knd s.heap.objs.size ka := ⟨_, es', 0, Heap.get?_push_size _ rfl, ⟨rfl, rfl, rfl⟩, rfl, hk, hp, hn⟩
    have db' : (s.heap.push { cls := .type "dict", data := .dict es' }).DictOf knd b kb := db.push _
    unfold Builtin.Dict.updateFrom
    refine wpAny_bind (wpAny_typeOf db'.typeIs ?_)
    rw [if_neg (by decide)]
    refine wpAny_bind ?_
    unfold Builtin.Dict.merge
    refine wpAny_bind ?_
    unfold Builtin.Dict.readDirectly
    refine wpAny_bind (wpAny_isInstance db'.typeIs isSubtype_dict_dict ?_)
    simp only [Bool.not_true, Bool.false_eq_true, if_false]
    refine wpAny_bind (wpAny_specialOf db'.typeIs F.slot_dict_iter.lookup (wpAny_pure ?_))
    simp only [beq_self_eq_true, if_true]
    refine wpAny_bind (wpAny_pure ?_)
    refine wpAny_mergeDict (hsz := hz) (fun e => absurd hltb (by rw [e]; exact Nat.lt_irrefl _)) hb dn db' fun h' hd' _ hs' => ?_
    show wpAny _ _ (Builtin.Dict.addKeywords s.heap.objs.size [] >>= _) _ _ _
    refine wpAny_bind (wpAny_pure (wpAny_pure ?_))
    refine ⟨_, rfl, (fun x => nomatch x), h h' hd' fun c oc hc' => ?_⟩
    exact (hs'.2 c (Nat.ne_of_lt (Heap.lt_size hc'))).trans (Heap.get?_push_of_some _ hc')
  by_cases hemp : es.isEmpty = true
  · rw [if_pos hemp]
    refine wpAny_bind (wpAny_rule (wpAny_newObj_type ?_))
    exact fin #[] (Array.isEmpty_iff.mp hemp).symm
  · rw [if_neg hemp]
    refine wpAny_bind ?_
    unfold Builtin.Dict.readDirectly
    refine wpAny_bind (wpAny_isInstance da.typeIs isSubtype_dict_dict ?_)
    simp only [Bool.not_true, Bool.false_eq_true, if_false]
    refine wpAny_bind (wpAny_specialOf da.typeIs F.slot_dict_iter.lookup (wpAny_pure ?_))
    simp only [beq_self_eq_true, if_true]
    refine wpAny_bind (wpAny_entriesForEmpty (knd := knd) ho hdat hk (wpAny_newObj_type ?_ hes))
    exact fin es rfl
end
section
variable {X : Cx}
theorem KV.merge1 {kvs : List (Key × V)} {vs : List (Key × Value)} (r : KV kvs vs) {k : Key} {y : V} {u : Value} (ry : RelV y u) : KV (putK kvs k y) (merged vs [(k, u)]) := KV.put r k ry
/-- d | {k: v} -/
def rOr1 : L2.R2 := fun x y H Q => ∃ a b kvs k v, x = .ref a ∧ y = .ref b ∧ H a = some (.dK kvs) ∧ H b = some (.dK [(k, v)]) ∧ kvs.length ≤ 100000 ∧ ∀ p, H p = none → Q (.ref p) (upd H p (.dK (putK kvs k v)))
theorem op_or1 (hu : X.A.units < cLine) : OpR X (binaryOp .BitOr) rOr1 := by
  intro pins s σ H x y v u Q I rx ry h
  obtain ⟨a, b, kvs, k, z, rfl, rfl, ha, hb, hz, q⟩ := h
  cases rx
  cases ry
  obtain ⟨za, la, va, ra, da⟩ := dk_of I.hok ha
  obtain ⟨zb, lb, vb, rb, db⟩ := dk_of I.hok hb
  cases rb with
  | @cons p1 q1 ps qs e t =>
    cases t
    obtain ⟨k', u'⟩ := q1
    obtain ⟨e1, e2⟩ := e
    obtain rfl : k = k' := e1
    refine dict_or la lb hu da db ?_ fun h' dd k' => ?_
    · rw [← ra.length, sizeLine_eq]
      show kvs.length + 1 ≤ _
      omega
    · have hf := I.hok.fresh (Nat.le_refl _)
      have rr : KV (putK kvs k z) (merged va [(k, u')]) := KV.merge1 ra e2
      have zl : (putK kvs k z).length ≤ sizeLine := Nat.le_trans (length_putK kvs k z) (by rw [sizeLine_eq]; omega)
      exact ⟨.ref s.heap.objs.size, _, I.laid (a := s.heap.objs.size) (o := .dK (putK kvs k z)) (t' := s.toks) k' (Nat.le_refl _) (dk_new zl (beq_eq_false_iff_ne.mpr (Ne.symm (Nat.ne_of_lt I.big))) rr dd), rfl, q _ hf⟩
end
end Lp
/-! ## Pr2 -/
set_option Elab.async false
set_option linter.all false
set_option maxRecDepth 100000
set_option maxHeartbeats 2000000
/-! x != y of slotted instances with an own ==. -/
namespace Lp
open PySem PySem.Spec PyProof.Rows L2
section
variable {M : Model} {prog : Program} {w : World} {A : Around} {E : Value → Shared → Prop} {s : Shared} {K : PySem.W.Frag} {x y C C' f L : Addr} {ox oy : Obj} {od od' : Option Obj} {h₀ : Heap} {m : Str → Option Value}
theorem ifBound_objNe {args : List Value} {Q : Option Value → Shared → Prop} (X : K.In s.heap) (I : PySem.W.InstAt s.heap x ox C od) (hs : PySem.W.findIn K (.ref C) "__ne__" = some (some (.builtin "object.__ne__")))
    (h : wpAny M A (call (.builtin "object.__ne__") (.ref x :: args)) (fun v => Q (some v)) E s) : wpAny M A (callSpecialIfBound? (.ref x) "__ne__" args) Q E s := by
  simp only [callSpecialIfBound?, bindSpecialIfBound?]
  refine wpAny_holding (wpAny_bind (wpAny_bind (wpAny_bind (I.type.here ((PySem.W.looks_findIn X hs).here ?_)))))
  refine wpAny_bind (wpAny_askSetting (wpAny_ite ?_))
  have fin : wpAny M A (call (.builtin "object.__ne__") ([.ref x] ++ args) >>= fun v => pure (some v)) Q E s := wpAny_bind (wpAny_mono h (fun v s' h' => wpAny_pure h') fun _ _ h' => h')
  split
  · exact wpAny_bind (wpAny_of_eq (F.cmp_object.ne.bind _) (wpAny_pure (by exact fin)))
  · exact wpAny_tryCatch (wpAny_bind (wpAny_of_eq (F.cmp_object.ne.bind _) (wpAny_pure (by exact fin))))
theorem entry_ne {Q : Fin → Shared → Prop} (X : K.In s.heap) (I : PySem.W.InstAt s.heap x ox C od) (hu : A.units < cLine) (he : PySem.W.findIn K (.ref C) "__eq__" = some (some (.ref f))) (hf : PySem.W.isFn K (.ref f) = true)
    (h : wpAny (model prog w) A (call (.ref f) [.ref x, .ref y]) (fun v s' => ∃ b, v = .bool b ∧ Q (.done (.ret (.bool (!b)))) s') E s) : wpAny (model prog w) A (Builtin.«object.__ne__» ⟨[.ref x, .ref y], []⟩) Q E s := by
  unfold Builtin.«object.__ne__»
  repeat (first
    | with_reducible refine wpAny_cRoomFor hu ?_
    | (refine wpAny_bind (m := callSpecialIfBound? (.ref x) (Str.ofString "__eq__") [.ref y])
        (PySem.W.ifBound_K X I he hf (wpAny_mono h (fun r s' hr => by
          obtain ⟨b, rfl, hq⟩ := hr
          repeat (first | exact hq | exact wpAny_pure hq | exact wpAny_truthy_bool hq | (refine wpAny_bind (m := truthy (.bool _)) (wpAny_truthy_bool ?_)) | wp_step)) fun _ _ e => e)))
    | wp_step)
theorem rc_ne {Q : Value → Shared → Prop} (hu : A.units + 1 < cLine) (F : Fr h₀ L s.heap m) (X₀ : K.In h₀) (I : PySem.W.InstAt s.heap x ox C od) (J : PySem.W.InstAt s.heap y oy C' od') (hn : PySem.W.notFirst K C (.ref C') = true) (hm : PySem.W.mroIn K C (.type "object") = some true)
    (he : PySem.W.findIn K (.ref C) "__eq__" = some (some (.ref f))) (hf : PySem.W.isFn K (.ref f) = true) (hne : PySem.W.findIn K (.ref C) "__ne__" = some (some (.builtin "object.__ne__")))
    (h : wpAny (model prog w) A.in1 (call (.ref f) [.ref x, .ref y]) (fun v s' => ∃ b, v = .bool b ∧ Q (.bool (!b)) s') E s) : wpAny (model prog w) A (richCompare .NotEq (.ref x) (.ref y)) Q E s := by
  have X := X₀.keeps F.keep
  have hb : PySem.W.Looks (model prog w) s.heap (typeOf (.ref y)) (.ref C') := J.type
  have one : wpAny (model prog w) A (tryCompare (.ref x) "__ne__" (.ref y)) (fun r s' => ∃ v, r = some v ∧ Q v s') E s := by
    unfold tryCompare
    refine wpAny_bind (ifBound_objNe X I hne (wpAny_call (codeAny_call_builtin PySem.F.cmp_object.ne.plain PySem.F.cmpEntry_ne (PySem.W.check_slot PySem.F.cmpKind_ne PySem.F.cmpSplit_ne (I.type.andThen (PySem.W.looks_mroIn X hm)) (PySem.F.cmpArgs_ne _ _) (entry_ne (A := A.in1) X I hu he hf (wpAny_mono h (fun v s' hv => ?_) fun _ _ e => e))))))
    obtain ⟨b, rfl, hq⟩ := hv
    first | exact ⟨b, rfl, wpAny_pure ⟨_, rfl, hq⟩⟩ | exact ⟨b, rfl, wpAny_pure (wpAny_pure ⟨_, rfl, hq⟩)⟩ | exact ⟨b, rfl, _, rfl, wpAny_pure ⟨_, rfl, hq⟩⟩ | exact ⟨b, rfl, _, rfl, _, rfl, hq⟩
  unfold richCompare
  simp only [oneThing_ref]
  refine wpAny_holding (wpAny_bind (wpAny_cRoomFor (Nat.lt_of_succ_lt hu) ?_))
  refine wpAny_bind (I.type.here (wpAny_bind (hb.here ?_)))
  split
  · rename_i q
    have e : PySem.W.subIn K (.ref C') (.ref C) = some false := by
      rcases Bool.or_eq_true_iff.mp hn with e | e
      · rw [beq_iff_eq.mp e] at q; simp at q
      · exact beq_iff_eq.mp e
    refine wpAny_bind ((PySem.W.looks_subIn X e).here ?_)
    simp only [Bool.false_eq_true, if_false]
    refine wpAny_bind (wpAny_mono one (fun r s' z => ?_) fun _ _ e => e)
    obtain ⟨v, rfl, hq⟩ := z
    exact wpAny_pure hq
  · refine wpAny_bind (wpAny_pure ?_)
    simp only [Bool.false_eq_true, if_false]
    refine wpAny_bind (wpAny_mono one (fun r s' z => ?_) fun _ _ e => e)
    obtain ⟨v, rfl, hq⟩ := z
    exact wpAny_pure hq
end
end Lp
/-! ## Pr3 -/
set_option Elab.async false
set_option linter.all false
set_option maxRecDepth 100000
set_option maxHeartbeats 2000000
/-! len(set(t)), t.index(x), stars in displays. -/
namespace Lp
open PySem PySem.Spec PyProof.Rows L2
theorem nodup_le : ∀ {l l' : List Int}, l.Nodup → (∀ x ∈ l, x ∈ l') → l.length ≤ l'.length
  | [], _, _, _ => Nat.zero_le _
  | x :: l, l', hn, hs => by
    have hx : x ∈ l' := hs x List.mem_cons_self
    have h2 := nodup_le (l := l) (l' := l'.erase x) (List.nodup_cons.mp hn).2 fun y hy => by
      have hne : y ≠ x := fun e => (List.nodup_cons.mp hn).1 (by rw [← e]; exact hy)
      exact (List.mem_erase_of_ne hne).mpr (hs y (List.mem_cons_of_mem _ hy))
    rw [List.length_erase_of_mem hx] at h2
    have h3 : 0 < l'.length := List.length_pos_of_mem hx
    simp only [List.length_cons]
    omega
theorem setR_len {w : World} {h : Heap} {a : Addr} {ns : List Int} {c : Nat} (R : SetR w h a (fun j => decide (j ∈ ns)) c) (hn : ns.Nodup) : c = ns.length := by
  obtain ⟨o, es, ep, t, _, _, _, _, hd, hk, _, _, hs, _⟩ := R
  have e1 : c = (es.toList.map L2.keyOf).length := by rw [List.length_map, Array.length_toList, hs]
  rw [e1]
  refine Nat.le_antisymm (nodup_le hd fun x hx => ?_) (nodup_le hn fun x hx => ?_)
  · exact of_decide_eq_true ((hk x).mpr hx)
  · exact (hk x).mp (decide_eq_true hx)
section
variable {W : Md} {X : Cx} {σ : L2.St} {G H : Hp} {a b e : Expr} {es : List Expr} {Rs : List Rel} {R : Rel} {p p2 q pos apos : Pos}
def tLenSetT (K : PySem.W.Frag) (ta : TE) : TE := fun σ H Q => ta σ H fun x H1 => ∃ (l : Addr) (ns : List Int), x = .ref l ∧ SqT K H1 l (ns.map V.int) ∧ ns.Nodup ∧ ns.length ≤ 1000 ∧ Q (.int (ns.length : Nat)) H1
theorem pe_lenSetT {ta : TE} (hg : Gl X "len") (hm : X.mg "len" = none) (hg2 : Gl X "set") (hm2 : X.mg "set" = none) (hc : X.calm = true) (ha : PE X a ta)
    (na : starEach [a] X.env = (false, eval a X.env) :: starEach [] X.env := by rfl) : PE X (.Call (.Name "len" p) [.Call (.Name "set" p2) [a] [] q] [] pos) (tLenSetT X.K ta) := by
  refine ⟨fun pins s σ H Q I h => ?_⟩
  refine Call_ (ld_blt I hg hm PySem.boot_len (PyProof.Rows.callWith_builtin1 (PyProof.Rows.args_cons ?_ rfl) rfl rfl))
  refine Call_ (ld_blt (u := .type "set") I hg2 hm2 (by decide +kernel) (PyProof.Rows.callWith_type1 (PyProof.Rows.args_cons (thn (ha.run pins s σ H _ I h) fun v s1 ⟨x, H1, I1, r1, q1⟩ => PyProof.Rows.args_nil ?_) na) na rfl))
  obtain ⟨l, ns, rfl, hq, hnd, hl, q1⟩ := q1
  cases r1
  obtain ⟨its, r, pl, hz⟩ := I1.tuple hq
  refine call_set_tupI ns (I1.ok.hd hc) (show s1.heap.IsTuple l its.toArray from pl) (by simpa using intsAre_of r) (by unfold scanBound; omega) fun h' tk c R _ hk => ?_
  refine PyProof.Rows.args_nil ?_
  have hc := setR_len R hnd
  obtain ⟨o, es, ep, t, ho, hex, hd, _, _, _, _, hf, hn, _⟩ := R
  have I2 : Inv X pins σ H1 { s1 with heap := h', toks := tk } := I1.kept hk
  exact call_len_set ho hex hd hf (by rw [hn]; omega) ⟨.int ns.length, H1, I2.tok _, ⟨_, by rw [hn, hc]⟩, q1⟩
theorem jlenSet {ns : List Int} (hm : X.mg "len" = none) (hm2 : X.mg "set" = none) (hg : Gl X "len") (hg2 : Gl X "set") (hc : X.calm = true) (h : J W X a σ G H (tupR (ns.map isI))) (hn : ns.Nodup) (hz : ns.length ≤ 1000) (na : starEach [a] X.env = (false, eval a X.env) :: starEach [] X.env := by rfl) :
    J W X (.Call (.Name "len" p) [.Call (.Name "set" p2) [a] [] q] [] pos) σ G H (isN ns.length) :=
  J.pe (pe_lenSetT hg hm hg2 hm2 hc sE na) fun G1 H1 g Q k => h G1 H1 g _ fun v G2 H2 g2 ⟨l, vs, e, hl, pr⟩ => by
    have ev : vs = ns.map V.int := PR.vals (xs := ns.map V.int) (by rw [List.map_map]; exact pr)
    subst ev
    exact ⟨l, ns, e, sqT g2 hl, hn, hz, k _ G2 H2 g2 rfl⟩
/-- t.index(x), flat items, the first place -/
theorem mt_tix : MtR X "tuple.index" (fun x xs H Q => ∃ p ys y j z, x = .ref p ∧ xs = [y] ∧ SqT X.K H p ys ∧ flatV y = true ∧ ys.all flatV = true ∧ ys[j]? = some z ∧ eqV z y = true ∧ (∀ m z', m < j → ys[m]? = some z' → eqV z' y = false) ∧ Q (.int (j : Nat)) H) := by
  intro pins s σ H x xs v us Q I rx rs h
  obtain ⟨p, ys, y, j, z, rfl, rfl, hq, fy, fys, hz, hzj, hno, q⟩ := h
  cases rx
  obtain ⟨uy, rfl, ry⟩ := vals1 rs
  obtain ⟨its, r, pl, hlen⟩ := I.tuple hq
  obtain ⟨⟨cls, dd, dt, sl⟩, ho, hc, n, hd⟩ := pl
  simp only at hc hd
  subst hc
  subst hd
  have hl : its.length = ys.length := r.length.symm
  have hjy : j < ys.length := (List.getElem?_eq_some_iff.mp hz).1
  have hj : j < its.toArray.size := by rw [List.size_toArray, hl]; exact hjy
  have flat : ∀ m z', ys[m]? = some z' → flatV z' = true := fun m z' hm => List.all_eq_true.mp fys z' (List.mem_of_getElem? hm)
  have tell : ∀ m z', ys[m]? = some z' → ∀ hm : m < its.toArray.size, eqU y its.toArray[m] = eqV z' y := fun m z' hz' hm => by
    obtain ⟨u, hu, ru⟩ := r.get hz'
    have e : its.toArray[m] = u := by simpa using (List.getElem?_eq_some_iff.mp hu).2
    rw [e, eqU_of ru (flat m z' hz')]
  refine call_meets PySem.F.slot_tuple_index ⟨_, ho, rfl⟩ PySem.F.entry_tuple_index (PySem.F.args_tuple_index_2 _ _) (TI.tuple_indexAt p its.toArray n dd sl uy (eqU y) j hj (by rw [tell j z hz hj]; exact hzj) fun m hm hmj => ?_)
    ⟨ho, fun w hw => mem_eqAt ry fy r fys w (by simpa using hw), ⟨.int (j : Nat), H, I.tok _, ⟨_, rfl⟩, q⟩⟩
  have hm' : m < ys.length := Nat.lt_trans hmj hjy
  rw [tell m ys[m] (List.getElem?_eq_getElem hm') hm]
  exact hno m _ hmj (List.getElem?_eq_getElem hm')
/-- t.index(x) of a tuple whose object is known -/
def tTix (ta : TE) (t : TA) : TE := fun σ H Q => ta σ H fun x H1 => ∃ p ys, x = .ref p ∧ TupAt H1 p ys ∧ t σ H1 fun ws H2 => ∃ y j z, ws = [y] ∧ TupAt H2 p ys ∧ flatV y = true ∧ ys.all flatV = true ∧ ys[j]? = some z ∧ eqV z y = true ∧ (∀ m z', m < j → ys[m]? = some z' → eqV z' y = false) ∧ Q (.int (j : Nat)) H2
theorem pe_tix {ta : TE} {t : TA} (ho : PE X a ta) (hb : PA X [b] t) (hst : starEach [b] X.env = [(false, eval b X.env)] := by rfl) (hbase : attributeBase a "index" X.env (eval a X.env) = eval a X.env := by rfl) (hline : (apos.endLine == pos.line) = true := by rfl) :
    PE X (.Call (.Attribute a "index" apos) [b] [] pos) (tTix ta t) := by
  refine ⟨fun pins s σ H Q I h => ?_⟩
  refine wpAny_Call_method hbase (by rw [hst]; rfl) hline PySem.F.plainAttrs_tuple PySem.F.slot_tuple_index PySem.F.type_tuple_index (thn (ho.run pins s σ H _ I h) fun u s1 ⟨x, H1, I1, rx, p, ys, ex, ht, q⟩ => ?_)
  subst ex
  obtain rfl : u = Value.ref p := rx
  obtain ⟨o, eo, to⟩ := id ht
  obtain ⟨ho', _⟩ := I1.hok p _ eo
  refine ⟨⟨o, ho', to.cls⟩, fun c e => ?_, ?_⟩
  · cases e
    exact ⟨o, ho', to.dict⟩
  · have hA := hb.run pos pins s1 σ H1 _ I1 q
    rw [hst] at hA ⊢
    refine Calls.callWith_builtin rfl (Calls.evalArgs_plain ?_)
    refine thn hA fun us s2 ⟨ws, H2, I2, rw', y, j, z, ew, ht2, q2⟩ => ?_
    subst ew
    exact mt_tix pins s2 σ H2 (.ref p) [y] (.ref p) us Q I2 rfl rw' ⟨p, ys, y, j, z, rfl, rfl, ht2.sq, q2⟩
theorem jtix {xs : List V} {y z : V} {j : Nat} (ha : J W X a σ G H (tupR (xs.map isV))) (hb : J W X b σ G H (isV y)) (fy : flatV y = true) (fx : xs.all flatV = true) (hz : xs[j]? = some z) (e : eqV z y = true) (hno : ∀ m z', m < j → xs[m]? = some z' → eqV z' y = false)
    (hst : starEach [b] X.env = (false, eval b X.env) :: starEach [] X.env := by rfl) (hbase : attributeBase a "index" X.env (eval a X.env) = eval a X.env := by rfl) (hline : (apos.endLine == pos.line) = true := by rfl) : J W X (.Call (.Attribute a "index" apos) [b] [] pos) σ G H (isN j) :=
  J.pe (pe_tix sE sA hst hbase hline) fun G1 H1 g Q k => ha G1 H1 g _ fun v G2 H2 g2 ⟨t, vs, e1, ht, pr⟩ => by
    subst e1
    refine ⟨t, vs, rfl, ht.mono g2.s, ja hb ja0 hst G2 H2 (g.trans g2) _ fun ws G3 H3 g3 pw => ?_⟩
    obtain ⟨w, rfl, rw'⟩ := PR.one pw
    obtain rfl : w = y := rw'
    obtain rfl := PR.vals pr
    exact ⟨w, j, z, rfl, ht.mono (g3.g.trans g3.s), fy, fx, hz, e, hno, k _ G3 H3 (g2.trans g3) rfl⟩
/-- ( *a, b, ..) -/
theorem pa_star {ta : TE} {t : TA} {sp : Pos} (ha : PE X a ta) (hr : PA X es t) (hs : starEach (.Starred a sp :: es) X.env = (true, eval a X.env) :: starEach es X.env := by rfl) :
    PA X (.Starred a sp :: es) (fun σ H Q => ta σ H fun x H1 => ∃ l xs, x = .ref l ∧ SqT X.K H1 l xs ∧ t σ H1 fun ys H2 => Q (xs ++ ys) H2) := by
  refine ⟨fun pos pins s σ H Q I h => ?_⟩
  rw [hs]
  show wpAny _ _ (spliced ((true, (do let v ← eval a X.env; standAt pos; pure v)) :: backTo pos (starEach es X.env))) _ _ s
  refine PySem.W.ks_spliced (thn (ha.run pins s σ H _ I h) fun v s1 ⟨x, H1, I1, r1, l, xs, ex, hl, q⟩ => ?_)
  subst ex
  obtain rfl : v = Value.ref l := r1
  refine star_tup I1 hl fun us s3 I3 r3 => ?_
  exact thn (hr.run pos pins s3 σ H1 _ I3 q) fun ws s4 ⟨ys, H4, I4, r4, q4⟩ => ⟨xs ++ ys, H4, I4, r3.append r4, q4⟩
theorem jaStar {Ss : List Rel} {sp : Pos} (h : J W X a σ G H (tupR Ss)) (hr : JA W X es σ G H Rs) (hs : starEach (.Starred a sp :: es) X.env = (true, eval a X.env) :: starEach es X.env := by rfl) : JA W X (.Starred a sp :: es) σ G H (Ss ++ Rs) := fun G1 H1 g Q q =>
  gA (pa_star sE sA hs) (h G1 H1 g _ fun v G2 H2 g2 ⟨l, vs, e, hl, pr⟩ => ⟨l, vs, e, sqT g2 hl, hr G2 H2 (g.trans g2) _ fun ws G3 H3 g3 rs => q _ G3 H3 (g2.trans g3) ((PR.mo g3.g pr).app rs)⟩)
end
end Lp
/-! ## Pr4 -/
set_option Elab.async false
set_option linter.all false
set_option maxRecDepth 100000
set_option maxHeartbeats 2000000
/-! xs == [], t == (), d.get of a written dict, d == e, with. -/
namespace Lp
open PySem PySem.Spec PyProof.Rows L2
section
variable {prog : Program} {w : World} {A : Around} {E : Value → Shared → Prop} {s : Shared}
theorem ne_list0 {l b : Addr} {items items2 : Array Value} {Q : Value → Shared → Prop} (hl : s.heap.IsList l items) (hb : s.heap.IsList b items2) (hz : items2.size = 0) (hu : A.units < cLine)
    (h : Q (.bool (!(items.size == 0))) s) : wpAny (model prog w) A (compareOp .NotEq (.ref l) (.ref b)) Q E s := by
  obtain ⟨⟨cls, dd, data, sl⟩, ho, hc, n, hd⟩ := id hl
  obtain ⟨⟨cls2, dd2, data2, sl2⟩, ho2, hc2, n2, hd2⟩ := id hb
  simp only at hc hd hc2 hd2
  subst hc hd hc2 hd2
  refine wpAny_richCompare_same_room (op := .NotEq) hl.typeIs hb.typeIs PySem.F.slot_list_ne ?_ hu
  by_cases e : items.size = 0
  · refine call_meets PySem.F.slot_list_ne ⟨_, ho, rfl⟩ PySem.F.entry_list_ne (PySem.F.args_list_ne_2 _ _) (SeqAt.list_neAt l b items items2 n n2 dd dd2 sl sl2 (by rw [e, hz]) (fun _ => true)) ⟨ho, ho2, fun j h1 _ => by omega, ?_⟩
    refine ⟨fun z => (nomatch z), ?_⟩
    rw [e] at h ⊢
    exact h
  · refine call_meets PySem.F.slot_list_ne ⟨_, ho, rfl⟩ PySem.F.entry_list_ne (PySem.F.args_list_ne_2 _ _) (SeqAt.list_ne_lengthsAt l b items items2 n n2 dd dd2 sl sl2 (by rw [hz]; simpa using e)) ⟨ho, ho2, ?_⟩
    refine ⟨fun z => (nomatch z), ?_⟩
    have e2 : (items.size == 0) = false := by simpa using e
    rw [e2] at h
    exact h
theorem eq_list0 {l b : Addr} {items items2 : Array Value} {Q : Value → Shared → Prop} (hl : s.heap.IsList l items) (hb : s.heap.IsList b items2) (hz : items2.size = 0) (hu : A.units < cLine)
    (h : Q (.bool (items.size == 0)) s) : wpAny (model prog w) A (compareOp .Eq (.ref l) (.ref b)) Q E s := by
  by_cases e : items.size = 0
  · refine SeqAt.eq_listAt hl hb (by rw [e, hz]) hu (e := fun _ => true) (fun j h1 _ => by omega) ?_
    rw [e] at h ⊢
    exact h
  · refine SeqAt.eq_list_lengthsAt hl hb (by rw [hz]; simpa using e) hu ?_
    have e2 : (items.size == 0) = false := by simpa using e
    rw [e2] at h
    exact h
end
section
variable {W : Md} {X : Cx} {σ : L2.St} {G H : Hp} {a b e : Expr} {es : List Expr} {Rs Ss : List Rel} {R : Rel} {p p2 q pos apos : Pos}
theorem emp_size {xs : List V} {its : List Value} (r : Vals xs its) : (its.toArray.size == 0) = xs.isEmpty := by
  rw [List.size_toArray, ← r.length]
  cases xs <;> rfl
def rEq0 (K : PySem.W.Frag) (neg : Bool) : L2.R2 := fun x y H Q => ∃ a b xs, x = .ref a ∧ y = .ref b ∧ SqL K H a xs ∧ SqL K H b [] ∧ Q (.bl (if neg then !xs.isEmpty else xs.isEmpty)) H
theorem op_eq0 (hu : X.A.units < cLine) : OpR X (compareOp .Eq) (rEq0 X.K false) := by
  intro pins s σ H x y v u Q I rx ry h
  obtain ⟨a, b, xs, rfl, rfl, ha, hb, q⟩ := h
  cases rx
  cases ry
  obtain ⟨its, r, pl, _⟩ := I.list ha
  obtain ⟨its2, r2, pl2, _⟩ := I.list hb
  cases r2
  exact eq_list0 pl.isList pl2.isList rfl hu ⟨_, H, I, by rw [emp_size r]; exact rfl, q⟩
theorem op_ne0 (hu : X.A.units < cLine) : OpR X (compareOp .NotEq) (rEq0 X.K true) := by
  intro pins s σ H x y v u Q I rx ry h
  obtain ⟨a, b, xs, rfl, rfl, ha, hb, q⟩ := h
  cases rx
  cases ry
  obtain ⟨its, r, pl, _⟩ := I.list ha
  obtain ⟨its2, r2, pl2, _⟩ := I.list hb
  cases r2
  exact ne_list0 pl.isList pl2.isList rfl hu ⟨_, H, I, by rw [emp_size r]; exact rfl, q⟩
def rEqT0 (K : PySem.W.Frag) : L2.R2 := fun x y H Q => ∃ a b xs, x = .ref a ∧ y = .ref b ∧ SqT K H a xs ∧ SqT K H b [] ∧ Q (.bl xs.isEmpty) H
theorem op_eqT0 (hu : X.A.units < cLine) : OpR X (compareOp .Eq) (rEqT0 X.K) := by
  intro pins s σ H x y v u Q I rx ry h
  obtain ⟨a, b, xs, rfl, rfl, ha, hb, q⟩ := h
  cases rx
  cases ry
  obtain ⟨its, r, pl, _⟩ := I.tuple ha
  obtain ⟨its2, r2, pl2, _⟩ := I.tuple hb
  cases r2
  refine SeqAt.eq_tupleAt (e := fun _ => true) (show s.heap.IsTuple a its.toArray from pl) (show s.heap.IsTuple b #[] from pl2) hu (fun j _ h2 => absurd h2 (Nat.not_lt_zero j)) ⟨_, H, I, ?_, q⟩
  have e : (((List.range (min its.toArray.size (#[] : Array Value).size)).all fun _ => true) && its.toArray.size == (#[] : Array Value).size) = xs.isEmpty := by
    rw [← emp_size r]
    simp
  rw [e]
  exact rfl
theorem tw_eq0 {K : PySem.W.Frag} : Tw W (rEq0 K false) G H (lstR Rs) (lstR []) (isB Rs.isEmpty) := fun x y G1 H1 g ⟨a, vs, e, h, pr⟩ ⟨b, ws, e2, h2, pr2⟩ Q k => by
  cases pr2
  have el : vs.isEmpty = Rs.isEmpty := by have := pr.len; cases vs <;> cases Rs <;> simp at this <;> rfl
  exact ⟨a, b, vs, e, e2, sqL g h, sqL g h2, k _ G1 H1 g.rf (by rw [← el]; exact rfl)⟩
theorem tw_ne0 {K : PySem.W.Frag} : Tw W (rEq0 K true) G H (lstR Rs) (lstR []) (isB (!Rs.isEmpty)) := fun x y G1 H1 g ⟨a, vs, e, h, pr⟩ ⟨b, ws, e2, h2, pr2⟩ Q k => by
  cases pr2
  have el : vs.isEmpty = Rs.isEmpty := by have := pr.len; cases vs <;> cases Rs <;> simp at this <;> rfl
  exact ⟨a, b, vs, e, e2, sqL g h, sqL g h2, k _ G1 H1 g.rf (by rw [← el]; exact rfl)⟩
theorem tw_eqT0 {K : PySem.W.Frag} : Tw W (rEqT0 K) G H (tupR Rs) (tupR []) (isB Rs.isEmpty) := fun x y G1 H1 g ⟨a, vs, e, h, pr⟩ ⟨b, ws, e2, h2, pr2⟩ Q k => by
  cases pr2
  have el : vs.isEmpty = Rs.isEmpty := by have := pr.len; cases vs <;> cases Rs <;> simp at this <;> rfl
  exact ⟨a, b, vs, e, e2, sqT g h, sqT g h2, k _ G1 H1 g.rf (by rw [← el]; exact rfl)⟩

/-! ### d.get(k, x) of a written dict -/
def tKGet (K : PySem.W.Frag) (d : Addr) (to : TE) (t : TA) : TE := fun σ H Q => to σ H fun o H1 => o = .ref d ∧ t σ H1 fun ws H2 => ∃ z v0, ws = [.str z, v0] ∧ ∃ r : Option Value, PySem.W.nsIn K d z = some r ∧ ∃ v1, (match r with | some u => RelV v1 u | none => v1 = v0) ∧ Q v1 H2
theorem pe_kget {d : Addr} {es' : Array DictEntry} {n : Nat} {o e1 e2 : Expr} {to : TE} {t : TA} (D : KDict X.K X.w d es' n) (ho : PE X o to) (ha : PA X [e1, e2] t) (hst : starEach [e1, e2] X.env = [(false, eval e1 X.env), (false, eval e2 X.env)] := by rfl)
    (hbase : attributeBase o "get" X.env (eval o X.env) = eval o X.env := by rfl) (hline : (apos.endLine == pos.line) = true := by rfl) : PE X (.Call (.Attribute o "get" apos) [e1, e2] [] pos) (tKGet X.K d to t) := by
  refine ⟨fun pins s σ H Q I h => ?_⟩
  refine wpAny_Call_method hbase (by rw [hst]; rfl) hline PySem.F.plainAttrs_dict PySem.F.slot_dict_get PySem.F.type_dict_get (thn (ho.run pins s σ H _ I h) fun u s1 ⟨x, H1, I1, rx, ex, q⟩ => ?_)
  subst ex
  obtain rfl : u = Value.ref d := rx
  refine ⟨kd_type D I1, fun c ec => ?_, ?_⟩
  · cases ec
    exact ⟨_, I1.kIn _ _ D.at_, rfl⟩
  · have hA := ha.run pos pins s1 σ H1 _ I1 q
    rw [hst] at hA ⊢
    refine Calls.callWith_builtin rfl (Calls.evalArgs_plain (thn hA fun us s2 ⟨ws, H2, I2, rws, z, v0, ew, r, er, v1, hr, q2⟩ => ?_))
    subst ew
    obtain ⟨u1, u2, rfl, r1, r2⟩ := vals2 rws
    obtain ⟨tk, rfl⟩ := r1
    refine call_meetsIn PySem.F.slot_dict_get (kd_type D I2) PySem.F.entry_dict_get (PySem.F.args_dict_get_3 _ _ _) (meets_dict_get_default (k := z) (PySem.strKind X.prog X.w) d (PySem.strKind_is X.prog X.w z tk) D.low u2) ⟨_, PySem.W.mapOf_K (prog := X.prog) I2.kIn D.at_ D.lit, ?_⟩
    rw [PySem.W.find_K D.at_ er]
    refine ⟨v1, H2, I2.tok _, ?_, q2⟩
    cases r with
    | some u => exact hr
    | none =>
      have hr' : v1 = v0 := hr
      rw [hr']
      exact r2
/-! ### d == e, all values data -/
theorem hits_D {prog : Program} {w : World} {A : Around} {s : Shared} {F : V → V → Prop} (ih : ∀ x y v u, F x y → RelV x v → RelV y u → SeqAt.EqP prog w A s v u true) {ks : List (Key × V)} {va : List (Key × Value)} (ra : KV ks va) {ls : List (Key × V)} {vb : List (Key × Value)} (rb : KV ls vb)
    (h : ∀ p ∈ ks, ∃ u, valV ls p.1 = some u ∧ F p.2 u) : PySem.W.KeqHitsP prog w A s vb va true := hits_run ih rb ra h
/-- equal data as the layer reads it -/
def EqDat (K : PySem.W.Frag) (H : Hp) (x y : V) : Prop := ∃ d e, Dp K H x d ∧ Dp K H y e ∧ SeqAt.shaped d = true ∧ SeqAt.shaped e = true ∧ PyData.eqv d e = true
def rEqDict (K : PySem.W.Frag) : L2.R2 := fun x y H Q => ∃ a b ks ls, x = .ref a ∧ y = .ref b ∧ H a = some (.dK ks) ∧ H b = some (.dK ls) ∧ ks.length = ls.length ∧ (∀ p ∈ ks, ∃ u, valV ls p.1 = some u ∧ EqDat K H p.2 u) ∧ Q (.bl true) H
theorem op_eqDict (hu : X.A.units + 70 < cLine) : OpR X (compareOp .Eq) (rEqDict X.K) := by
  intro pins s σ H x y v u Q I rx ry h
  obtain ⟨a, b, ks, ls, rfl, rfl, ha, hb, hl, hk, q⟩ := h
  cases rx
  cases ry
  obtain ⟨za, la, va, ra, da⟩ := dk_of I.hok ha
  obtain ⟨zb, lb, vb, rb, db⟩ := dk_of I.hok hb
  have e : va.length = vb.length := by rw [← ra.length, ← rb.length]; exact hl
  refine PySem.W.rcP_dicts (knd := mixKind X.prog X.w) (r := true) la lb da db (by omega) (fun _ => hits_D (F := EqDat X.K H) (fun x y v u hf rx ry => ?_) ra rb hk) _ _ ?_
  · obtain ⟨d, e', hd, he, sd, se, hq⟩ := hf
    obtain ⟨as, r1⟩ := Dp.reads I d x v hd rx
    obtain ⟨bs, r2⟩ := Dp.reads I e' y u he ry
    have z := PySem.W.keq_at (A := X.A) r1 r2 sd se (by show X.A.units + 1 + 64 < cLine; omega)
    rw [hq] at z
    exact z.eqP
  · rw [e, beq_self_eq_true]
    exact ⟨.bl true, H, I, rfl, q⟩
end
end Lp
/-! ## Pr5 -/
set_option Elab.async false
set_option linter.all false
set_option maxRecDepth 100000
set_option maxHeartbeats 2000000
/-! enumerate(tuple), zip(text, text). -/
namespace LpE
open PySem PySem.Spec
set_option maxHeartbeats 1000000 in
theorem meets_enum1 {v : Value} {o : Obj} {H : Heap → Prop} (B : Begins v o H) :
    Meets (Builtin.«enumerate.__new__» ⟨[.type "enumerate", v], []⟩) (fun _ R s => H s.heap ∧
      R (.ok (.ret (.ref (s.heap.push o).objs.size))) { s with heap := (s.heap.push o).push { cls := .type "enumerate", data := .fields #[.none, .bool false, .ref s.heap.objs.size, rawInt 0, .none, .none] } }) :=
  .of_wp fun prog w A R s h => by
    obtain ⟨hp, g, d, tk, os⟩ := s
    obtain ⟨h1, h⟩ := h
    have hsub := sub_enumerate
    have q1 : ∀ {A' : Around} {E : Value → Shared → Prop} {Q : Value → Shared → Prop}, Q (.ref hp.objs.size) ⟨hp.push o, g, d, tk, os⟩ → wpAny (model prog w) A' (pyIter v) Q E ⟨hp, g, d, tk, os⟩ :=
      fun q => B.iter prog w _ _ ⟨hp, g, d, tk, os⟩ _ h1 q
    wp_walk using q1
    refine wpAny_stack_any fun st => wpAny_pure ?_
    split
    · rename_i c _ _ _ _ _
      cases (c == Value.type "enumerate") <;> (wp_walk using q1; exact ⟨_, rfl, h⟩)
    · wp_walk using q1
      exact ⟨_, rfl, h⟩
section
variable {prog : Program} {w : World} {A : Around} {E : Value → Shared → Prop} {s : Shared}
theorem call_enum1 {v : Value} {o : Obj} {H : Heap → Prop} {Q : Value → Shared → Prop} (B : Begins v o H) (h1 : H s.heap)
    (h : ∀ h', IsEnum h' (s.heap.objs.size + 1) s.heap.objs.size 0 .none → h'.get? s.heap.objs.size = some o → h'.objs.size = s.heap.objs.size + 2 →
      (∀ b o, s.heap.get? b = some o → h'.get? b = some o) → Q (.ref (s.heap.objs.size + 1)) { s with heap := h' }) :
    wpAny (model prog w) A (call (.type "enumerate") [v]) Q E s := by
  refine callType_new F.called_enumerate (by decide) (F.typeCall_enumerate_1 _) (F.newCall_enumerate_1 _) (fun obj => F.args_object_init_2 obj _) F.entry_enumerate_new (meets_enum1 B) ⟨h1, ?_⟩
  have hz : (s.heap.push o).objs.size = s.heap.objs.size + 1 := Heap.size_push ..
  show _ ∧ _
  rw [hz]
  have he : IsEnum ((s.heap.push o).push { cls := .type "enumerate", data := .fields #[.none, .bool false, .ref s.heap.objs.size, rawInt 0, .none, .none] }) (s.heap.objs.size + 1) s.heap.objs.size 0 .none := by
    have := Heap.get?_push_size (s.heap.push o) (o := { cls := .type "enumerate", data := .fields #[.none, .bool false, .ref s.heap.objs.size, rawInt 0, .none, .none] }) rfl
    rw [hz] at this
    exact this
  exact ⟨⟨_, he, rfl⟩, h _ he (Heap.get?_push_of_some _ (Heap.get?_push_size _ B.free)) (by rw [Heap.size_push, hz]) fun b o x => Heap.get?_push_of_some _ (Heap.get?_push_of_some _ x)⟩
end
end LpE
namespace Lp
open PySem PySem.Spec PyProof.Rows L2
/-- pairs, the i-th of n; they are told by f and g -/
def ItP (G : Hp → Prop) (n : Nat) (f g : Nat → Option V) : It :=
  ⟨fun i H => i < n ∧ G H, fun i H v H' => ∃ T x y, v = .ref T ∧ H T = none ∧ H' = upd H T (.tup [x, y]) ∧ f i = some x ∧ g i = some y, fun i H => i = n ∧ G H⟩
theorem walkP {G : Hp → Prop} {n : Nat} {f g : Nat → Option V} : Walk (ItP G n f g) n G (YPair f g) := ⟨fun _ _ hi h => ⟨hi, h⟩, fun _ h => ⟨rfl, h⟩, fun _ _ _ _ _ _ y => y⟩
theorem turn_enumT {P : Program} {w : World} {K : PySem.W.Frag} {elts : List Expr} {kk : Nat} {tpos : Pos} (a e it : Addr) (xs : List V) :
    Turn P w K (.Tuple elts kk tpos) (ItP (fun H => SqT K H a xs) xs.length (fun i => some (.int (i : Nat))) fun i => xs[i]?) [e, it] e (fun i h => (∃ old, IsEnum h e it ((i : Nat) : Int) old) ∧ h.IsTupleIter it a i ∧ e ≠ it ∧ a ≠ it ∧ e ≠ a) where
  mem := by simp
  obj := fun i h st b hb => by
    obtain ⟨⟨old, he⟩, ⟨o, ho, hc, hd⟩, _⟩ := st
    have e' : b = e ∨ b = it := by simpa using hb
    rcases e' with z | z
    · rw [z]; exact ⟨_, he, fun v q => nomatch q⟩
    · rw [z]; exact ⟨o, ho, fun v q => by rw [hd] at q; cases q⟩
  keep := fun i h h' st k => let ⟨⟨old, he⟩, hi, hne⟩ := st; ⟨⟨old, k e (by simp) _ he⟩, hi.at fun o q => k it (by simp) o q, hne⟩
  item := by
    intro X hP hw hK hc i pins s σ H E I hf st hg
    subst hP hw hK
    obtain ⟨⟨old, he⟩, hit, hne, hai, hea⟩ := st
    obtain ⟨hi, hq⟩ := hg
    obtain ⟨its, rv, p, hz⟩ := I.tuple hq
    have hl : its.length = xs.length := rv.length.symm
    have hel : e < s.heap.objs.size := Heap.lt_size he
    have hil : it < s.heap.objs.size := by obtain ⟨_, q, _⟩ := hit; exact Heap.lt_size q
    have D := Draws.tuple (prog := X.prog) (w := X.w) (A := X.A.in1) (by simp [I.ok.hd hc]) it a hai its.toArray
    refine wpAny_pyNext_enum_itemC D he ⟨hit, p⟩ (by rw [List.size_toArray, hl]; exact hi) hne (by simp [hne, hea]) fun x h' tk hx ho hst hT hsz hk => ?_
    have hx' : its[i]? = some x := by simpa using hx
    obtain ⟨v, hv, ru⟩ : ∃ v, xs[i]? = some v ∧ RelV v x := by
      obtain ⟨u, hu, ru⟩ := rv.get (List.getElem?_eq_getElem hi)
      rw [hx'] at hu
      cases hu
      exact ⟨_, List.getElem?_eq_getElem hi, ru⟩
    refine ⟨_, rfl, wpAny_letOwnedTupleGo_enum (s := { s with heap := h', toks := tk + 1 }) ho fun h'' he' sb => ?_⟩
    have hT2 : h''.get? s.heap.objs.size = some { cls := .type "tuple", data := .seq #[.int i tk, x] } := (sb.2 _ (Nat.ne_of_gt hel)).trans hT
    have new : ObjOk X.prog X.w (upd H s.heap.objs.size (.tup [.int (i : Nat), v])) h'' s.heap.objs.size (.tup [.int (i : Nat), v]) :=
      ⟨by show 2 ≤ sizeLine; decide, [.int i tk, x], .cons ⟨_, rfl⟩ (.cons ru .nil), ⟨_, hT2, rfl, _, rfl⟩⟩
    have I1 : Inv X pins σ (upd H s.heap.objs.size (.tup [.int (i : Nat), v])) { s with heap := h'', toks := tk + 1 } :=
      I.turnedNew (ch := [e, it]) (fun b ob hb q => (sb.2 b (fun z => hb (by simp [z]))).trans (hk b ob (fun z => hb (by simp [z])) (fun z => hb (by simp [z])) q)) hf (Nat.le_refl _) new
    refine ⟨.ref s.heap.objs.size, _, I1, rfl, ⟨_, _, v, rfl, I.hok.fresh (Nat.le_refl _), rfl, rfl, hv⟩, ⟨⟨x, ?_⟩, hst.1.at fun o q => (sb.2 it (Ne.symm hne)).trans q, hne, hai, hea⟩, fun b hb => ?_⟩
    · have e1 : ((i + 1 : Nat) : Int) = (i : Int) + 1 := by omega
      rw [e1]; exact he'
    · have hb' : b < s.heap.objs.size := by
        have e' : b = e ∨ b = it := by simpa using hb
        rcases e' with z | z
        · rw [z]; exact hel
        · rw [z]; exact hil
      rw [upd_ne (Nat.ne_of_lt hb')]
      exact (hf b hb).1
  done := by
    intro X hP hw hK hc i pins s σ H E I hf st hg
    subst hP hw hK
    obtain ⟨⟨old, he⟩, hit, hne, hai, hea⟩ := st
    obtain ⟨hi, hq⟩ := hg
    obtain ⟨its, rv, p, hz⟩ := I.tuple hq
    obtain ⟨f0, f1, f2, f3, f4, f5⟩ := hf it (by simp)
    have hl : its.length = xs.length := rv.length.symm
    have D := Draws.tuple (prog := X.prog) (w := X.w) (A := X.A.in1) (by simp [I.ok.hd hc]) it a hai its.toArray
    have hs : i = its.toArray.size := by rw [List.size_toArray, hl]; exact hi
    subst hs
    exact wpAny_pyNext_enum_endD D he ⟨hit, p⟩ fun h' eb => ⟨rfl, I.turned (t' := s.toks) (fun b o hb q => eb b o hb q) f0 f1 f3 f4 f5⟩
  self := fun A i s Q E st h => let ⟨⟨_, he⟩, _⟩ := st; wpAny_pyIter_enum he h
/-- from the library's walks of pairs whose cells are their own -/
theorem turn_ofT {P : Program} {w : World} {K : PySem.W.Frag} {elts : List Expr} {kk : Nat} {tpos : Pos} {I : Addr} {fp wr : List Addr} {n : Nat} {Pt : Nat → Array Value → Prop} {St : Nat → Heap → Prop} {Mid : Nat → Addr → Heap → Prop} {f g : Nat → Option V}
    (W : ∀ A : Around, A.handled = none → WalksT P w A I fp wr n Pt St Mid) (hI : I ∈ fp) (hkeep : ∀ i h h', St i h → (∀ b ∈ fp, ∀ o, h.get? b = some o → h'.get? b = some o) → St i h') (hself : ∀ (A : Around) (i : Nat) (s : Shared) (Q : Value → Shared → Prop) (E : Value → Shared → Prop), St i s.heap → Q (.ref I) s → wpAny (model P w) A (pyIter (.ref I)) Q E s) (hobj : ∀ i h, St i h → ∀ b ∈ fp, ∃ o, h.get? b = some o ∧ ∀ v, o.data ≠ .cell v)
    (hval : ∀ i vals, Pt i vals → ∃ x y us, f i = some x ∧ g i = some y ∧ vals = (us : List Value).toArray ∧ Vals [x, y] us) : Turn P w K (.Tuple elts kk tpos) (ItP (fun _ => True) n f g) fp I St where
  mem := hI
  obj := hobj
  keep := hkeep
  item := by
    intro X hP hw hK hc i pins s σ H E J hf st hg
    subst hP hw hK
    have Wx := W X.A (J.ok.hd hc)
    refine Wx.item i s _ E hg.1 st fun T vals h' tk hp hT ht hm hk => ⟨_, rfl, Wx.go elts kk tpos i T { s with heap := h', toks := tk } _ E hm fun h'' st' hk' => ?_⟩
    obtain ⟨x, y, us, hx, hy, ev, rv⟩ := hval i vals hp
    subst ev
    obtain ⟨o, ho, hcl, m, hd⟩ := ht
    have nw := Wx.apart i T h' hm
    have ho2 := hk' T o nw ho
    have hnone : H T = none := J.hok.fresh hT
    have new : ObjOk X.prog X.w (upd H T (.tup [x, y])) h'' T (.tup [x, y]) := ⟨by show 2 ≤ sizeLine; decide, us, rv, ⟨o, ho2, hcl, m, hd⟩⟩
    have I1 : Inv X pins σ (upd H T (.tup [x, y])) { s with heap := h'', toks := tk } := J.turnedNew (ch := fp) (fun b ob hb q => hk' b ob (fun z => hb (Wx.sub b z)) (hk b ob (fun z => hb (Wx.sub b z)) q)) hf hT new
    refine ⟨.ref T, _, I1, rfl, ⟨T, x, y, rfl, hnone, rfl, hx, hy⟩, st', fun b hb => ?_⟩
    have hb' : b ≠ T := fun z => by
      obtain ⟨ob, q, _⟩ := hobj i _ st b hb
      exact absurd (Nat.lt_of_lt_of_le (Heap.lt_size q) (z ▸ hT)) (Nat.lt_irrefl _)
    rw [upd_ne hb']
    exact (hf b hb).1
  done := by
    intro X hP hw hK hc i pins s σ H E J hf st hg
    subst hP hw hK
    obtain ⟨hi, _⟩ := hg
    subst hi
    have Wx := W X.A (J.ok.hd hc)
    exact Wx.done s _ E st fun h' tk hk => ⟨rfl, J.turnedL (t' := tk) (ch := fp) (fun b ob hb q => hk b ob (fun z => hb (Wx.sub b z)) q) hf⟩
  self := hself
section
variable {X : Cx} {e e2 : Expr} {p pos tpos : Pos} {elts : List Expr} {kk : Nat} {ta : TA}
def iEnumT (K : PySem.W.Frag) (ta : TA) : TI := fun σ H R => ta σ H fun vs H1 => ∃ a xs, vs = [.ref a] ∧ SqT K H1 a xs ∧ R (ItP (fun H => SqT K H a xs) xs.length (fun i => some (.int (i : Nat))) fun i => xs[i]?) H1
theorem pi_enumT (hg : Gl X "enumerate") (hm : X.mg "enumerate" = none) (ha : PA X [e] ta) (hs : starEach [e] X.env = [(false, eval e X.env)] := by rfl) :
    PI X (.Tuple elts kk tpos) (.Call (.Name "enumerate" p) [e] [] pos) (iEnumT X.K ta) := by
  refine ⟨fun pins s σ H R I h => ?_⟩
  refine Call_ (ld_blt I hg hm boot_enumerate (PyProof.Rows.callWith_type1 (thn (ha.run pos pins s σ H _ I h) fun us s1 ⟨vs, H1, I1, r1, q1⟩ => ?_) hs rfl))
  obtain ⟨a, xs, ex, hq, q⟩ := q1
  subst ex
  obtain ⟨u, rfl, r⟩ := vals1 r1
  cases r
  obtain ⟨its, rv, p', hz⟩ := I1.tuple hq
  refine LpE.call_enum1 (begins_tuple a its.toArray) p' fun h' he hit hsz hk => wpAny_pyIter_enum he ?_
  have I2 : Inv X pins σ H1 { s1 with heap := h' } := I1.kept (t' := s1.toks) hk
  have al : a < s1.heap.objs.size := p'.lt
  refine ⟨s1.heap.objs.size + 1, [s1.heap.objs.size + 1, s1.heap.objs.size], _, _, H1, rfl, I2, turn_enumT a (s1.heap.objs.size + 1) s1.heap.objs.size xs, ⟨⟨.none, he⟩, ⟨_, hit, rfl, rfl⟩, Nat.succ_ne_self _, Nat.ne_of_lt al, Nat.ne_of_gt (Nat.lt_succ_of_lt al)⟩, fun b hb => ?_, q⟩
  have e' : b = s1.heap.objs.size + 1 ∨ b = s1.heap.objs.size := by simpa using hb
  have hle : s1.heap.objs.size ≤ b := by rcases e' with z | z <;> (rw [z]; first | exact Nat.le_add_right _ _ | exact Nat.le_refl _)
  exact I1.fpOk hle (I1.hok.fresh hle)
def signs (z : Str) (i : Nat) : Option V := z.cps[i]?.map fun c => V.str ⟨#[c]⟩
def iZipS (ta : TA) : TI := fun σ H R => ta σ H fun vs H1 => ∃ x y, vs = [.str x, .str y] ∧ R (ItP (fun _ => True) (min x.cps.size y.cps.size) (signs x) (signs y)) H1
theorem pi_zipS (hg : Gl X "zip") (hm : X.mg "zip" = none) (ha : PA X [e, e2] ta)
    (hs : starEach [e, e2] X.env = (false, eval e X.env) :: starEach [e2] X.env := by rfl) (hpl : (backTo pos (starEach [e2] X.env)).any (·.1) = false := by rfl) :
    PI X (.Tuple elts kk tpos) (.Call (.Name "zip" p) [e, e2] [] pos) (iZipS ta) := by
  refine ⟨fun pins s σ H R I h => ?_⟩
  refine Call_ (ld_blt I hg hm PyProof.Rows.boot_zip (PyProof.Rows.callWith_type1 (thn (ha.run pos pins s σ H _ I h) fun us s1 ⟨vs, H1, I1, r1, q1⟩ => ?_) hs hpl))
  obtain ⟨x, y, ex, q⟩ := q1
  subst ex
  obtain ⟨u1, u2, rfl, r1', r2'⟩ := vals2 r1
  obtain ⟨t1, rfl⟩ := r1'
  obtain ⟨t2, rfl⟩ := r2'
  refine zip_begins2 (begins_text x t1) (begins_text y t2) trivial trivial fun h' hz hTI hTO h1 h2 hsz hk => wpAny_pyIter_zip hz ?_
  have I2 : Inv X pins σ H1 { s1 with heap := h' } := I1.kept (t' := s1.toks) hk
  have S : ZipSep2 (s1.heap.objs.size + 4) (s1.heap.objs.size + 2) (s1.heap.objs.size + 3) s1.heap.objs.size (s1.heap.objs.size + 1) [s1.heap.objs.size] [s1.heap.objs.size + 1] := zip_sep2 (fp1 := []) (fp2 := []) (fun b hb => nomatch hb) (fun b hb => nomatch hb)
  have W : ∀ A : Around, A.handled = none → _ := fun A hA => WalksT.zipD2 (prog := X.prog) (w := X.w) (A := A) S (Draws.text (A := A.in1) (by simp [hA]) s1.heap.objs.size x t1) (Draws.text (A := A.in1) (by simp [hA]) (s1.heap.objs.size + 1) y t2)
  refine ⟨s1.heap.objs.size + 4, _, _, _, H1, rfl, I2, turn_ofT W (by simp) (fun i h h'' st k => ?_) (fun A i s Q E st q => wpAny_pyIter_zip st.1 q) (fun i h st b hb => ?_) (fun i vals hp => ?_), ⟨hz, hTI, ⟨_, _, hTO⟩, ⟨_, h1, rfl, rfl⟩, ⟨_, h2, rfl, rfl⟩⟩, fun b hb => ?_, q⟩
  · obtain ⟨hz, hTI, ⟨a1, a2, hTO⟩, ⟨o1, e1, c1, d1⟩, ⟨o2, e2, c2, d2⟩⟩ := st
    exact ⟨k _ (by simp) _ hz, k _ (by simp) _ hTI, ⟨a1, a2, k _ (by simp) _ hTO⟩, ⟨o1, k _ (by simp) _ e1, c1, d1⟩, ⟨o2, k _ (by simp) _ e2, c2, d2⟩⟩
  · obtain ⟨hz, hTI, ⟨a1, a2, hTO⟩, ⟨o1, e1, _, d1⟩, ⟨o2, e2, _, d2⟩⟩ := st
    simp only [List.mem_cons, List.mem_append, List.mem_singleton, List.not_mem_nil, or_false, List.cons_append, List.nil_append] at hb
    rcases hb with q | q | q | q | q
    · rw [q]; exact ⟨_, hz, fun v q => nomatch q⟩
    · rw [q]; exact ⟨_, hTI, fun v q => nomatch q⟩
    · rw [q]; exact ⟨_, hTO, fun v q => nomatch q⟩
    · rw [q]; exact ⟨o1, e1, fun v q => by rw [d1] at q; cases q⟩
    · rw [q]; exact ⟨o2, e2, fun v q => by rw [d2] at q; cases q⟩
  · obtain ⟨v1, v2, ⟨c1, k1, g1, rfl⟩, ⟨c2, k2, g2, rfl⟩, rfl⟩ := hp
    exact ⟨.str ⟨#[c1]⟩, .str ⟨#[c2]⟩, _, by unfold signs; rw [g1]; rfl, by unfold signs; rw [g2]; rfl, rfl, .cons ⟨_, rfl⟩ (.cons ⟨_, rfl⟩ .nil)⟩
  · simp only [List.mem_cons, List.mem_append, List.mem_singleton, List.not_mem_nil, or_false, List.cons_append, List.nil_append] at hb
    have hle : s1.heap.objs.size ≤ b := by rcases hb with z | z | z | z | z <;> (rw [z]; first | exact Nat.le_refl _ | exact Nat.le_add_right _ _)
    exact I1.fpOk hle (I1.hok.fresh hle)
end
end Lp
/-! ## Pr6 -/
set_option Elab.async false
set_option linter.all false
set_option maxRecDepth 100000
set_option maxHeartbeats 2000000
/-! Built-ins by a body's view, equality of data, dicts. -/
namespace Lp
open PySem PySem.Spec PyProof.Rows L2
/-- the built-ins are what they were -/
structure Bt (mg : Str → Option Value) : Prop where
  all : mg "all" = none
  len : mg "len" = none
  isi : mg "isinstance" = none
  int : mg "int" = none
  bool : mg "bool" = none
  str : mg "str" = none
  tuple : mg "tuple" = none
  list : mg "list" = none
  set : mg "set" = none
  dict : mg "dict" = none
  sorted : mg "sorted" = none
  range : mg "range" = none
  enum : mg "enumerate" = none
  zip : mg "zip" = none
  min : mg "min" = none
/-- what a text's names are, seen from where it runs -/
structure Vw (X : Cx) (sc : Scope) : Prop where
  gl : ∀ x, sc.names.lookup x = some .globalImplicit → Gl X x
  b : Bt X.mg
  calm : X.calm = true
  un : X.A.units + 65 < cLine
theorem PR.three {G : Hp} {R1 R2 R3 : Rel} {v : List V} (h : PR G v [R1, R2, R3]) : ∃ x y z, v = [x, y, z] ∧ R1.p x G ∧ R2.p y G ∧ R3.p z G := by
  cases h with
  | cons r t =>
    obtain ⟨y, z, e, q⟩ := PR.two t
    subst e
    exact ⟨_, y, z, rfl, r, q⟩
theorem PR.four {G : Hp} {R1 R2 R3 R4 : Rel} {v : List V} (h : PR G v [R1, R2, R3, R4]) : ∃ x y z w, v = [x, y, z, w] ∧ R1.p x G ∧ R2.p y G ∧ R3.p z G ∧ R4.p w G := by
  cases h with
  | cons r t =>
    obtain ⟨y, z, w, e, q⟩ := PR.three t
    subst e
    exact ⟨_, y, z, w, rfl, r, q⟩
theorem PR.five {G : Hp} {R1 R2 R3 R4 R5 : Rel} {v : List V} (h : PR G v [R1, R2, R3, R4, R5]) : ∃ x y z w u, v = [x, y, z, w, u] ∧ R1.p x G ∧ R2.p y G ∧ R3.p z G ∧ R4.p w G ∧ R5.p u G := by
  cases h with
  | cons r t =>
    obtain ⟨y, z, w, u, e, q⟩ := PR.four t
    subst e
    exact ⟨_, y, z, w, u, rfl, r, q⟩

/-! ### equality of data -/
def Dat (R : Rel) (d : PyData) : Prop := ∀ (K : PySem.W.Frag) (v : V) (G H : Hp), Same G H → R.p v G → Dp K H v d
theorem dat_int {i : Int} : Dat (isI i) (.int i) := fun K v G H _ h => by obtain rfl : v = V.int i := h; exact .int i
theorem dat_str {x : Str} : Dat (isS x) (.str x) := fun K v G H _ h => by obtain rfl : v = V.str x := h; exact .str x
theorem dat_bl {x : Bool} : Dat (isB x) (.bool x) := fun K v G H _ h => by obtain rfl : v = V.bl x := h; exact .bl x
theorem dat_non : Dat isO .none := fun K v G H _ h => by obtain rfl : v = V.non := h; exact .non
theorem dat_all {K : PySem.W.Frag} {G H : Hp} (s : Same G H) : ∀ {vs : List V} {Rs : List Rel} {ds : List PyData}, PR G vs Rs → Paired Dat Rs ds → DpAll K H vs ds
  | _, _, _, .nil, .nil => .nil
  | _, _, _, .cons r t, .cons d u => .cons (d K _ G H s r) (dat_all s t u)
theorem dat_tup {Rs : List Rel} {ds : List PyData} (h : Paired Dat Rs ds) : Dat (tupR Rs) (.tuple ds) := fun K v G H s ⟨a, vs, e, ha, pr⟩ => by
  subst e
  exact .tup (ha.mono s).sq (dat_all s pr h)
theorem dat_lst {Rs : List Rel} {ds : List PyData} (h : Paired Dat Rs ds) : Dat (lstR Rs) (.list ds) := fun K v G H s ⟨a, vs, e, ha, pr⟩ => by
  subst e
  exact .lst (SqL.of (s _ _ ha)) (dat_all s pr h)
theorem dats_map {α : Type} {f : α → Rel} {g : α → PyData} (h : ∀ x, Dat (f x) (g x)) : ∀ xs : List α, Paired Dat (xs.map f) (xs.map g)
  | [] => .nil
  | x :: xs => .cons (h x) (dats_map h xs)
theorem dats_mapM {α : Type} {f : α → Rel} {g : α → PyData} : ∀ (xs : List α) (h : ∀ x ∈ xs, Dat (f x) (g x)), Paired Dat (xs.map f) (xs.map g)
  | [], _ => .nil
  | x :: xs, h => .cons (h x (by simp)) (dats_mapM xs fun y hy => h y (by simp [hy]))
/-- it can be laid, its depth, it equals itself -/
structure Pd (n : Nat) (d : PyData) : Prop where
  lay : d.canLay0 = true
  dep : d.depth ≤ n
  eq : PyData.eqv d d = true
theorem Pd.int (i : Int) : Pd 1 (.int i) := ⟨by simp [PyData.canLay0], by simp [PyData.depth], by simp [PyData.eqv]⟩
theorem Pd.str {x : Str} (h : PyData.strOk x = true) : Pd 1 (.str x) := ⟨by simp [PyData.canLay0, h], by simp [PyData.depth], by simp [PyData.eqv]⟩
theorem Pd.bool (x : Bool) : Pd 1 (.bool x) := ⟨by simp [PyData.canLay0], by simp [PyData.depth], by simp [PyData.eqv]⟩
theorem Pd.none : Pd 1 .none := ⟨by simp [PyData.canLay0], by simp [PyData.depth], by simp [PyData.eqv]⟩
theorem Pd.all {n : Nat} : ∀ {ds : List PyData}, (∀ d ∈ ds, Pd n d) → PyData.canLayAll0 ds = true ∧ PyData.depthAll ds ≤ n ∧ PyData.eqvAll ds ds = true
  | [], _ => ⟨by simp [PyData.canLayAll0], by simp [PyData.depthAll], by simp [PyData.eqvAll]⟩
  | d :: ds, h => by
    obtain ⟨a, b, c⟩ := Pd.all (ds := ds) fun d hd => h d (by simp [hd])
    have q := h d (by simp)
    refine ⟨by simp [PyData.canLayAll0, q.lay, a], ?_, by simp [PyData.eqvAll, q.eq, c]⟩
    have q2 := q.dep
    simp only [PyData.depthAll]
    omega
theorem Pd.tup {n : Nat} {ds : List PyData} (h : ∀ d ∈ ds, Pd n d) : Pd (n + 1) (.tuple ds) := by
  obtain ⟨a, b, c⟩ := Pd.all h
  exact ⟨by simp [PyData.canLay0, a], by simp only [PyData.depth]; omega, by simp [PyData.eqv, c]⟩
theorem Pd.lst {n : Nat} {ds : List PyData} (h : ∀ d ∈ ds, Pd n d) : Pd (n + 1) (.list ds) := by
  obtain ⟨a, b, c⟩ := Pd.all h
  exact ⟨by simp [PyData.canLay0, a], by simp only [PyData.depth]; omega, by simp [PyData.eqv, c]⟩
theorem Pd.mono {n m : Nat} {d : PyData} (h : Pd n d) (e : n ≤ m) : Pd m d := ⟨h.lay, Nat.le_trans h.dep e, h.eq⟩
theorem Pd.sh {n : Nat} {d : PyData} (h : Pd n d) (e : n ≤ 64) : SeqAt.shaped d = true := by
  show (d.canLay0 && decide (d.depth ≤ 64)) = true
  rw [Bool.and_eq_true]
  exact ⟨h.lay, decide_eq_true (Nat.le_trans h.dep e)⟩
theorem Pd.one {n : Nat} {d : PyData} (h : Pd n d) : ∀ x ∈ [d], Pd n x := fun x hx => by
  rw [List.mem_singleton.mp hx]; exact h
theorem Pd.map {α : Type} {n : Nat} {f : α → PyData} {xs : List α} (h : ∀ x ∈ xs, Pd n (f x)) : ∀ d ∈ xs.map f, Pd n d := fun d hd => by
  obtain ⟨x, hx, e⟩ := List.mem_map.mp hd
  rw [← e]; exact h x hx
theorem eqv_ints : ∀ (xs ys : List Nat), PyData.eqvAll (xs.map fun i : Nat => .int (i : Int)) (ys.map fun i : Nat => .int (i : Int)) = decide (xs = ys)
  | [], [] => by simp [PyData.eqvAll]
  | [], _ :: _ => by simp [PyData.eqvAll]
  | _ :: _, [] => by simp [PyData.eqvAll]
  | x :: xs, y :: ys => by
    simp only [List.map_cons, PyData.eqvAll, PyData.eqv]
    rw [eqv_ints xs ys]
    by_cases h : x = y <;> by_cases h2 : xs = ys <;> simp [h, h2]
    omega
section
variable {W : Md} {X : Cx} {σ : L2.St} {G H G' H' : Hp} {e a b c : Expr} {es : List Expr} {R R1 R2 : Rel} {Rs Ss : List Rel} {pos p p2 q apos : Pos} {sc : Scope}
theorem tw_eqD {K : PySem.W.Frag} {d d' : PyData} (h1 : Dat R1 d) (h2 : Dat R2 d') (s1 : SeqAt.shaped d = true) (s2 : SeqAt.shaped d' = true) : Tw W (rEqD K) G H R1 R2 (isB (PyData.eqv d d')) := fun x y G1 H1 g r1 r2 Q k =>
  ⟨d, d', h1 K x G1 H1 g.s r1, h2 K y G1 H1 g.s r2, s1, s2, k _ G1 H1 g.rf rfl⟩
theorem tw_neD {K : PySem.W.Frag} {d d' : PyData} (h1 : Dat R1 d) (h2 : Dat R2 d') (s1 : SeqAt.shaped d = true) (s2 : SeqAt.shaped d' = true) : Tw W (rNeD K) G H R1 R2 (isB (!PyData.eqv d d')) := fun x y G1 H1 g r1 r2 Q k =>
  ⟨d, d', h1 K x G1 H1 g.s r1, h2 K y G1 H1 g.s r2, s1, s2, k _ G1 H1 g.rf rfl⟩
/-- the same data on both sides -/
theorem tw_eqS {K : PySem.W.Frag} {d : PyData} {n : Nat} (h1 : Dat R1 d) (h2 : Dat R2 d) (q : Pd n d) (hn : n ≤ 64 := by decide) : Tw W (rEqD K) G H R1 R2 (isB true) := by
  have := tw_eqD (W := W) (G := G) (H := H) (K := K) h1 h2 (q.sh hn) (q.sh hn)
  rw [q.eq] at this
  exact this
theorem tw_neS {K : PySem.W.Frag} {d : PyData} {n : Nat} (h1 : Dat R1 d) (h2 : Dat R2 d) (q : Pd n d) (hn : n ≤ 64 := by decide) : Tw W (rNeD K) G H R1 R2 (isB false) := by
  have := tw_neD (W := W) (G := G) (H := H) (K := K) h1 h2 (q.sh hn) (q.sh hn)
  rw [q.eq] at this
  exact this
theorem tw_inD {K : PySem.W.Frag} {d : PyData} {ds : List PyData} (h1 : Dat R1 d) (h2 : Dat R2 (.list ds)) (s1 : SeqAt.shaped d = true) (s2 : SeqAt.shaped (.list ds) = true) : Tw W (rInD K) G H R1 R2 (isB (ds.any fun z => PyData.eqv z d)) := fun x y G1 H1 g r1 r2 Q k =>
  ⟨d, ds, h1 K x G1 H1 g.s r1, h2 K y G1 H1 g.s r2, s1, s2, k _ G1 H1 g.rf rfl⟩

/-! ### built-ins -/
theorem vall {bs : List Bool} (v : Vw X sc) (h : J W X e σ G H (lstR (bs.map isB))) (hg : sc.names.lookup ("all" : Str) = some .globalImplicit := by rfl) (hs : starEach [e] X.env = [(false, eval e X.env)] := by rfl) : J W X (.Call (.Name "all" p) [e] [] pos) σ G H (isB (bs.all id)) :=
  jcallB (cr_all v.calm) (v.gl _ hg) v.b.all (by decide +kernel) (ja h ja0 hs) (fun vs G1 H1 g pr Q k => by
    obtain ⟨x, rfl, l, ws, rfl, h, q⟩ := PR.one pr
    have e : ws = bs.map V.bl := PR.vals (xs := bs.map V.bl) (by rw [List.map_map]; exact q)
    subst e
    exact ⟨l, bs, rfl, sqL g h, k _ G1 H1 g.rf rfl⟩) (he := hs)
theorem vallM {α : Type} {xs : List α} {f : α → Bool} (v : Vw X sc) (h : J W X e σ G H (lstR (xs.map fun x => isB (f x)))) (hg : sc.names.lookup ("all" : Str) = some .globalImplicit := by rfl) (hs : starEach [e] X.env = [(false, eval e X.env)] := by rfl) : J W X (.Call (.Name "all" p) [e] [] pos) σ G H (isB (xs.all f)) := by
  have := vall (bs := xs.map f) (p := p) (pos := pos) v (h.eq (by rw [List.map_map]; rfl)) hg hs
  rw [List.all_map] at this
  exact this
theorem vlenT (v : Vw X sc) (h : J W X e σ G H (tupR Rs)) (hg : sc.names.lookup ("len" : Str) = some .globalImplicit := by rfl) (hs : starEach [e] X.env = [(false, eval e X.env)] := by rfl) : J W X (.Call (.Name "len" p) [e] [] pos) σ G H (isN Rs.length) := jlenT v.b.len h (v.gl _ hg) hs
theorem vlenL (v : Vw X sc) (h : J W X e σ G H (lstR Rs)) (hg : sc.names.lookup ("len" : Str) = some .globalImplicit := by rfl) (hs : starEach [e] X.env = [(false, eval e X.env)] := by rfl) : J W X (.Call (.Name "len" p) [e] [] pos) σ G H (isN Rs.length) := jlenL v.b.len h (v.gl _ hg) hs
theorem vlenS {z : Str} (v : Vw X sc) (h : J W X e σ G H (isS z)) (hz : z.length ≤ 100000) (hg : sc.names.lookup ("len" : Str) = some .globalImplicit := by rfl) (hs : starEach [e] X.env = [(false, eval e X.env)] := by rfl) : J W X (.Call (.Name "len" p) [e] [] pos) σ G H (isN z.length) := jlenS v.b.len h hz (v.gl _ hg) hs
theorem vtupL (v : Vw X sc) (h : J W X e σ G H (lstR Rs)) (hg : sc.names.lookup ("tuple" : Str) = some .globalImplicit := by rfl) (hs : starEach [e] X.env = [(false, eval e X.env)] := by rfl) : J W X (.Call (.Name "tuple" p) [e] [] pos) σ G H (tupR Rs) := jtupL v.b.tuple h (v.gl _ hg) hs
theorem vlistT (v : Vw X sc) (h : J W X e σ G H (tupR Rs)) (hg : sc.names.lookup ("list" : Str) = some .globalImplicit := by rfl) (hs : starEach [e] X.env = [(false, eval e X.env)] := by rfl) : J W X (.Call (.Name "list" p) [e] [] pos) σ G H (lstR Rs) := jlistT v.b.list h (v.gl _ hg) hs
theorem vlistL (v : Vw X sc) (h : J W X e σ G H (lstR Rs)) (hg : sc.names.lookup ("list" : Str) = some .globalImplicit := by rfl) (hs : starEach [e] X.env = [(false, eval e X.env)] := by rfl) : J W X (.Call (.Name "list" p) [e] [] pos) σ G H (lstR Rs) :=
  jcallTy call_list_of (v.gl _ hg) v.b.list (by decide +kernel) (ja h ja0 hs) (fun vs G1 H1 g pr Q k => by
    obtain ⟨x, rfl, a, ws, rfl, h, q⟩ := PR.one pr
    exact ⟨a, ws, rfl, .inl (sqL g h), fun l hl => k _ _ _ (g.nw hl) ⟨l, ws, rfl, upd_same, PR.mo (Gr.new (m := no) g.s hl).g q⟩⟩) (he := hs)
/-- list(range(n)) -/
theorem vlistR {n : Nat} (v : Vw X sc) (h : J W X e σ G H (isN n)) (hn : n ≤ 100000) (hg : sc.names.lookup ("list" : Str) = some .globalImplicit := by rfl) (hg2 : sc.names.lookup ("range" : Str) = some .globalImplicit := by rfl) (na : starEach [e] X.env = (false, eval e X.env) :: starEach [] X.env := by rfl)
    (nb : starEach [.Call (.Name "range" p2) [e] [] q] X.env = (false, eval (.Call (.Name "range" p2) [e] [] q) X.env) :: starEach [] X.env := by rfl) : J W X (.Call (.Name "list" p) [.Call (.Name "range" p2) [e] [] q] [] pos) σ G H (lstR ((List.range n).map isN)) :=
  J.pe (pe_listRg v.calm (v.gl _ hg) v.b.list (prg_1 (v.gl _ hg2) v.b.range sE na) nb) fun G1 H1 g Q k => h G1 H1 g _ fun x G2 H2 g2 r => ⟨n, r, RgOk.of_le (by omega) (by omega) (by omega) (by omega), fun l hl => by
    refine k _ _ _ (g2.trans (g2.nw hl)) ⟨l, _, rfl, upd_same, ?_⟩
    have e1 : rgV 0 (n : Int) = (List.range n).map fun i : Nat => V.int (i : Int) := by
      unfold rgV
      have : ((n : Int) - 0).toNat = n := by omega
      rw [this]
      exact List.map_congr_left fun i _ => by simp
    rw [e1]
    have e2 : ((List.range n).map isN) = (((List.range n).map fun i : Nat => V.int (i : Int))).map isV := by rw [List.map_map]; rfl
    rw [e2]
    exact PR.ofVals _⟩
theorem vmin {i j : Int} (v : Vw X sc) (h : J W X a σ G H (isI i)) (h2 : J W X b σ G H (isI j)) (hg : sc.names.lookup ("min" : Str) = some .globalImplicit := by rfl) (hs : starEach [a, b] X.env = [(false, eval a X.env), (false, eval b X.env)] := by rfl) (hs2 : starEach [b] X.env = [(false, eval b X.env)] := by rfl) : J W X (.Call (.Name "min" p) [a, b] [] pos) σ G H (isI (if j < i then j else i)) :=
  jcallB (call_min2 v.calm) (v.gl _ hg) v.b.min (by decide +kernel) (ja h (ja h2 ja0 hs2) (by rw [hs, hs2])) (fun vs G1 H1 g pr Q k => by
    obtain ⟨x, y, rfl, rx, ry⟩ := PR.two pr
    obtain rfl : x = V.int i := rx
    obtain rfl : y = V.int j := ry
    exact ⟨i, j, rfl, k _ G1 H1 g.rf rfl⟩) (he := by rw [hs, hs2]) (hpl := by rw [hs2]; rfl)
theorem vint {i : Int} (v : Vw X sc) (h : J W X e σ G H (isI i)) (hg : sc.names.lookup ("int" : Str) = some .globalImplicit := by rfl) (hs : starEach [e] X.env = [(false, eval e X.env)] := by rfl) : J W X (.Call (.Name "int" p) [e] [] pos) σ G H (isI i) :=
  jcallTy call_int1 (v.gl _ hg) v.b.int (by decide +kernel) (ja h ja0 hs) (fun vs G1 H1 g pr Q k => by
    obtain ⟨x, rfl, rx⟩ := PR.one pr
    obtain rfl : x = V.int i := rx
    exact .inl ⟨i, rfl, k _ G1 H1 g.rf rfl⟩) (he := hs)
/-- dict(d) -/
theorem vdict {ds : List (Str × Rel)} (v : Vw X sc) (h : J W X e σ G H (dctR ds)) (hg : sc.names.lookup ("dict" : Str) = some .globalImplicit := by rfl) (hs : starEach [e] X.env = [(false, eval e X.env)] := by rfl) : J W X (.Call (.Name "dict" p) [e] [] pos) σ G H (dctR ds) :=
  jcallTy call_dictD (v.gl _ hg) v.b.dict (by decide +kernel) (ja h ja0 hs) (fun vs G1 H1 g pr Q k => by
    obtain ⟨x, rfl, a, ws, rfl, h, q⟩ := PR.one pr
    exact ⟨a, ws, rfl, .of (g.s _ _ h), fun l hl => k _ _ _ (g.nw hl) ⟨l, ws, rfl, upd_same, PD.mo (Gr.new (m := no) g.s hl).g q⟩⟩) (he := hs)
theorem PD.keys {G : Hp} : ∀ {kvs : List (Key × V)} {ds : List (Str × Rel)}, PD G kvs ds → kvs.map (·.1) = (ds.map (·.1)).map Sum.inr
  | _, _, .nil => rfl
  | _, _, .cons r t => by simp [r.1, PD.keys t]
theorem PD.len {G : Hp} {kvs : List (Key × V)} {ds : List (Str × Rel)} (h : PD G kvs ds) : kvs.length = ds.length := Paired.length h
/-- sorted(d), the keys in order as they stand -/
theorem vsortedD {ds : List (Str × Rel)} (v : Vw X sc) (h : J W X e σ G H (dctR ds)) (hn : ds.length < 64) {R' : Rel} (hR : ∀ ys : List Str, ys.Perm (ds.map (·.1)) → sortedS ys = true → ∀ v G, (lstR (ys.map isS)).p v G → R'.p v G) (hg : sc.names.lookup ("sorted" : Str) = some .globalImplicit := by rfl) (hs : starEach [e] X.env = [(false, eval e X.env)] := by rfl) :
    J W X (.Call (.Name "sorted" p) [e] [] pos) σ G H R' :=
  jcallB (call_sortedD v.calm) (v.gl _ hg) v.b.sorted (by decide +kernel) (ja h ja0 hs) (fun vs G1 H1 g pr Q k => by
    obtain ⟨x, rfl, a, ws, rfl, h, q⟩ := PR.one pr
    refine ⟨a, ws, ds.map (·.1), rfl, .of (g.s _ _ h), PD.keys q, by simpa using hn, fun ys l hp hs2 hl => k _ _ _ (g.nw hl) (hR ys hp hs2 _ _ ⟨l, _, rfl, upd_same, ?_⟩)⟩
    have e2 : (ys.map isS) = (ys.map V.str).map isV := by rw [List.map_map]; rfl
    rw [e2]
    exact PR.ofVals _) (he := hs)
/-- sorted of a list of texts -/
theorem vsortedS {xs : List Str} (v : Vw X sc) (h : J W X e σ G H (lstR (xs.map isS))) (hn : xs.length < 64) {R' : Rel} (hR : ∀ ys : List Str, ys.Perm xs → sortedS ys = true → ∀ v G, (lstR (ys.map isS)).p v G → R'.p v G) (hg : sc.names.lookup ("sorted" : Str) = some .globalImplicit := by rfl) (hs : starEach [e] X.env = [(false, eval e X.env)] := by rfl) :
    J W X (.Call (.Name "sorted" p) [e] [] pos) σ G H R' :=
  jcallB cr_sortedS (v.gl _ hg) v.b.sorted (by decide +kernel) (ja h ja0 hs) (fun vs G1 H1 g pr Q k => by
    obtain ⟨x, rfl, a, ws, rfl, h, q⟩ := PR.one pr
    have e : ws = xs.map V.str := PR.vals (xs := xs.map V.str) (by rw [List.map_map]; exact q)
    subst e
    refine ⟨a, xs, rfl, sqL g h, hn, fun ys l hp hs2 hl => k _ _ _ (g.nw hl) (hR ys hp hs2 _ _ ⟨l, _, rfl, upd_same, ?_⟩)⟩
    have e2 : (ys.map isS) = (ys.map V.str).map isV := by rw [List.map_map]; rfl
    rw [e2]
    exact PR.ofVals _) (he := hs)
theorem vlenSet {ns : List Nat} (v : Vw X sc) (h : J W X a σ G H (tupR (ns.map isN))) (hn : ns.Nodup) (hz : ns.length ≤ 1000) (hg : sc.names.lookup ("len" : Str) = some .globalImplicit := by rfl) (hg2 : sc.names.lookup ("set" : Str) = some .globalImplicit := by rfl) (na : starEach [a] X.env = (false, eval a X.env) :: starEach [] X.env := by rfl) :
    J W X (.Call (.Name "len" p) [.Call (.Name "set" p2) [a] [] q] [] pos) σ G H (isN ns.length) := by
  have := jlenSet (ns := ns.map fun i : Nat => (i : Int)) (p := p) (p2 := p2) (q := q) (pos := pos) v.b.len v.b.set (v.gl _ hg) (v.gl _ hg2) v.calm (h.eq (by rw [List.map_map]; rfl)) (hn.map (f := fun i : Nat => (i : Int)) fun x y z => fun w => z (by exact Int.ofNat.inj w)) (by simpa using hz) na
  rw [List.length_map] at this
  exact this
/-! isinstance -/
theorem ty_int {i : Int} {K : PySem.W.Frag} {v : V} {G1 H1 : Hp} (_ : Same G1 H1) (h : (isI i).p v G1) : TyX K H1 v (.type "int") := by
  obtain rfl : v = V.int i := h
  exact .base (.int _)
theorem ty_str {z : Str} {K : PySem.W.Frag} {v : V} {G1 H1 : Hp} (_ : Same G1 H1) (h : (isS z).p v G1) : TyX K H1 v (.type "str") := by
  obtain rfl : v = V.str z := h
  exact .base (.str _)
theorem ty_tup {K : PySem.W.Frag} {v : V} {G1 H1 : Hp} (s : Same G1 H1) (h : (tupR Rs).p v G1) : TyX K H1 v (.type "tuple") := by
  obtain ⟨a, vs, rfl, ⟨o, e, _⟩, _⟩ := h
  exact .fTuple (s _ _ e)
theorem visi {n t : String} {x : Str} {r : Bool} (v : Vw X sc) (ha : J W X a σ G H R) (hx : ∀ v G1 H1, Same G1 H1 → R.p v G1 → TyX X.K H1 v (.type t)) (hk : kitB t n = some r) (hm : X.mg x = none) (hv : bootBuiltins x = some (.type n)) (hn : x ≠ "__name__" := by decide) (hd : (x == ("__debug__" : Str)) = false := by decide) (hg : sc.names.lookup x = some .globalImplicit := by rfl) (hg2 : sc.names.lookup ("isinstance" : Str) = some .globalImplicit := by rfl)
    (hs : starEach [a, .Name x q] X.env = [(false, eval a X.env), (false, eval (.Name x q) X.env)] := by rfl) (hs2 : starEach [.Name x q] X.env = [(false, eval (.Name x q) X.env)] := by rfl) : J W X (.Call (.Name "isinstance" p) [a, .Name x q] [] pos) σ G H (isB r) :=
  jisi v.b.isi ha hx hk (jbltn (v.gl _ hg) hm hv (show RelV (.ty n) (.type n) from rfl) hn hd) (v.gl _ hg2) hs hs2
/-! texts -/
theorem tw_sign {ch : Nat} {z : Str} : Tw W (fun x y H Q => ∃ (c : Nat) (z : Str), x = .str ⟨#[c]⟩ ∧ y = .str z ∧ Q (.bl (decide (c ∈ z.cps.toList))) H) G H (isS ⟨#[ch]⟩) (isS z) (isB (decide (ch ∈ z.cps.toList))) := fun x y G1 H1 g hx hy Q k => ⟨ch, z, hx, hy, k _ G1 H1 g.rf rfl⟩
theorem tw_ge {i j : Int} : Tw W (rI0 fun i j => .bl (decide (j ≤ i))) G H (isI i) (isI j) (isB (decide (j ≤ i))) := fun _ _ G1 H1 g hx hy Q k => ⟨i, j, hx, hy, k _ G1 H1 g.rf rfl⟩
theorem tw_gt {i j : Int} : Tw W (rI0 fun i j => .bl (decide (j < i))) G H (isI i) (isI j) (isB (decide (j < i))) := fun _ _ G1 H1 g hx hy Q k => ⟨i, j, hx, hy, k _ G1 H1 g.rf rfl⟩
theorem tw_pow {i j : Int} (hc : CPow i j) : Tw W (rI CPow fun i j => .int (i ^ j.toNat)) G H (isI i) (isI j) (isI (i ^ j.toNat)) := fun _ _ G1 H1 g hx hy Q k => ⟨i, j, hx, hy, hc, k _ G1 H1 g.rf rfl⟩
/-! dicts -/
theorem PD.val {G : Hp} {x : Str} {R : Rel} : ∀ {kvs : List (Key × V)} {ds : List (Str × Rel)}, PD G kvs ds → ds.lookup x = some R → ∃ v, valV kvs (Sum.inr x) = some v ∧ R.p v G
  | _, _, .nil, e => by cases e
  | (k, v) :: kvs, (y, S) :: ds, .cons r t, e => by
    obtain ⟨ek, rv⟩ := r
    have ek' : k = Sum.inr y := ek
    by_cases h : x = y
    · subst h
      rw [List.lookup_cons, show (x == x) = true by simp] at e
      cases e
      exact ⟨v, valV_pos ek', rv⟩
    · rw [List.lookup_cons, show (x == y) = false by simpa using h] at e
      obtain ⟨v', h1, h2⟩ := PD.val t e
      refine ⟨v', ?_, h2⟩
      rw [valV_neg (by rw [ek']; intro z; exact h (Sum.inr.inj z).symm)]
      exact h1
theorem PD.valN {G : Hp} {x : Str} : ∀ {kvs : List (Key × V)} {ds : List (Str × Rel)}, PD G kvs ds → (valV kvs (Sum.inr x)).isSome = (ds.lookup x).isSome
  | _, _, .nil => rfl
  | (k, v) :: kvs, (y, S) :: ds, .cons r t => by
    obtain ⟨ek, rv⟩ := r
    have ek' : k = Sum.inr y := ek
    by_cases h : x = y
    · subst h
      rw [List.lookup_cons, show (x == x) = true by simp, valV_pos ek']
      rfl
    · rw [List.lookup_cons, show (x == y) = false by simpa using h, valV_neg (by rw [ek']; intro z; exact h (Sum.inr.inj z).symm)]
      exact PD.valN t
theorem vixD {ds : List (Str × Rel)} {x : Str} (v : Vw X sc) (ha : J W X a σ G H (dctR ds)) (hb : J W X b σ G H (isS x)) (hx : ds.lookup x = some R) (hs : NoSl b := by intro _ _; rfl) : J W X (.Subscript a b pos) σ G H R :=
  J.pe (pe_dget (by have := v.un; omega) sE sE hs) fun G1 H1 g Q k => two (t := fun _ _ _ _ => True) ha hb g fun x1 y1 G2 H2 g2 ⟨d, kvs, e1, hd, pd⟩ hy => by
    obtain rfl : y1 = V.str x := hy
    obtain ⟨w, h1, h2⟩ := pd.val hx
    refine ⟨d, w, e1, ?_, k w G2 H2 g2 h2⟩
    have := DGet.k (k := Sum.inr x) (g2.s _ _ hd)
    rw [h1] at this
    exact this
theorem vinD {ds : List (Str × Rel)} {x : Str} (v : Vw X sc) (ha : J W X a σ G H (isS x)) (hb : J W X b σ G H (dctR ds)) (hm : behindInMarks .In b = false := by first | exact nomark _ | rfl) : J W X (.Compare a [.In] [b] pos) σ G H (isB (ds.lookup x).isSome) :=
  J.pe (pe_cmp (pc_din (by have := v.un; omega) sE sE) hm) fun G1 H1 g Q k => two (t := fun _ _ _ _ => True) ha hb g fun x1 y1 G2 H2 g2 hy ⟨d, kvs, e1, hd, pd⟩ => by
    obtain rfl : x1 = V.str x := hy
    refine ⟨d, _, e1, DGet.k (k := Sum.inr x) (g2.s _ _ hd), ?_⟩
    rw [pd.valN]
    exact k _ G2 H2 g2 rfl
theorem vninD {ds : List (Str × Rel)} {x : Str} (v : Vw X sc) (ha : J W X a σ G H (isS x)) (hb : J W X b σ G H (dctR ds)) (hm : behindInMarks .NotIn b = false := by first | exact nomark _ | rfl) : J W X (.Compare a [.NotIn] [b] pos) σ G H (isB (!(ds.lookup x).isSome)) :=
  J.pe (pe_cmp (pc_dnotin (by have := v.un; omega) sE sE) hm) fun G1 H1 g Q k => two (t := fun _ _ _ _ => True) ha hb g fun x1 y1 G2 H2 g2 hy ⟨d, kvs, e1, hd, pd⟩ => by
    obtain rfl : x1 = V.str x := hy
    refine ⟨d, _, e1, DGet.k (k := Sum.inr x) (g2.s _ _ hd), ?_⟩
    rw [pd.valN]
    exact k _ G2 H2 g2 rfl
theorem vtinD {ds : List (Str × Rel)} {x : Str} (v : Vw X sc) (ha : J W X a σ G H (isS x)) (hb : J W X b σ G H (dctR ds)) (hm : behindInMarks .In b = false := by first | exact nomark _ | rfl) : JT W X (.Compare a [.In] [b] pos) σ G H (ds.lookup x).isSome :=
  JT.pt (pt_cmp (pc_din (by have := v.un; omega) sE sE) hm) fun G1 H1 g Q k => two (t := fun _ _ _ _ => True) ha hb g fun x1 y1 G2 H2 g2 hy ⟨d, kvs, e1, hd, pd⟩ => by
    obtain rfl : x1 = V.str x := hy
    refine ⟨d, _, e1, DGet.k (k := Sum.inr x) (g2.s _ _ hd), _, rfl, ?_⟩
    rw [pd.valN]
    exact k G2 H2 g2
theorem vtninD {ds : List (Str × Rel)} {x : Str} (v : Vw X sc) (ha : J W X a σ G H (isS x)) (hb : J W X b σ G H (dctR ds)) (hm : behindInMarks .NotIn b = false := by first | exact nomark _ | rfl) : JT W X (.Compare a [.NotIn] [b] pos) σ G H (!(ds.lookup x).isSome) :=
  JT.pt (pt_cmp (pc_dnotin (by have := v.un; omega) sE sE) hm) fun G1 H1 g Q k => two (t := fun _ _ _ _ => True) ha hb g fun x1 y1 G2 H2 g2 hy ⟨d, kvs, e1, hd, pd⟩ => by
    obtain rfl : x1 = V.str x := hy
    refine ⟨d, _, e1, DGet.k (k := Sum.inr x) (g2.s _ _ hd), _, rfl, ?_⟩
    rw [pd.valN]
    exact k G2 H2 g2
theorem jd0 : J W X (.Dict [] [] pos) σ G H (dctR []) := J.pe pe_dnewK fun G1 H1 g Q k l hl => k _ _ _ (g.nw hl) ⟨l, [], rfl, upd_same, .nil⟩
end
end Lp
/-! ## Pr7 -/
set_option Elab.async false
set_option linter.all false
set_option maxRecDepth 100000
set_option maxHeartbeats 2000000
/-! Unpacking, pairs of stores, walks of pairs, repeated tuples and lists, dict comprehensions, lists under construction. -/
namespace Lp
open PySem PySem.Spec PyProof.Rows L2
theorem swapped_eq {ts : List Expr} {e : Expr} {env : Env} {sc : Scope} (h : env.scope = sc) : swappedStores ts e env = swappedStores ts e { env with scope := sc } := by
  subst h
  rfl
section
variable {W : Md} {X : Cx} {σ : L2.St} {G H G' H' : Hp} {e a b c : Expr} {es : List Expr} {R R1 R2 R3 R4 R5 : Rel} {Rs Ss : List Rel} {pos p p2 q apos tpos p1' p2' p3' p4' p5' : Pos} {N C : List Str} {sc : Scope} {rest : List Stmt} {D : Ends} {x1 x2 x3 x4 x5 : Str} {kt k2 : Nat}
theorem Sees.pg (S : Sees X N C sc) (i : Nat) {x : Str} (hN : N[i]? = some x := by rfl) : PG X (.Name x p) (gName i) := pg_name S.nd (by rw [S.hN]; exact app_ix hN) (S.loc x (List.mem_of_getElem? hN)) (.inl (S.fn x))
theorem unp2 {g : Gw W G H G' H'} {v : V} {i1 i2 : Nat} {K : PySem.W.Frag} {Q : L2.St → Hp → Prop} (r : (tupR [R1, R2]).p v G') (k : ∀ v1 v2, R1.p v1 G' → R2.p v2 G' → Q ((σ.set i1 (some v1)).set i2 (some v2)) H') : gTup K 2 (gCons (gName i1) (gCons (gName i2) gNil)) v σ H' Q := by
  obtain ⟨t, vs, e, h, pr⟩ := r
  obtain ⟨v1, v2, rfl, r1, r2⟩ := PR.two pr
  exact ⟨t, [v1, v2], e, sqT g h, rfl, v1, [v2], rfl, v2, [], rfl, rfl, k v1 v2 r1 r2⟩
theorem st_unp2 (S : Sees X N C sc) (i1 i2 : Nat) (s : Ok W G H) (h : J W X e σ G H (tupR [R1, R2])) (k : ∀ v1 v2 G' H', Gw W G H G' H' → R1.p v1 G' → R2.p v2 G' → RunS X rest D ((σ.set i1 (some v1)).set i2 (some v2)) H')
    (h1 : N[i1]? = some x1 := by rfl) (h2 : N[i2]? = some x2 := by rfl)
    (hs : swapsWithSole [.Tuple [.Name x1 p1', .Name x2 p2'] kt tpos] e pos.line X.env = pure false := by rfl) (hw : swappedStores [.Tuple [.Name x1 p1', .Name x2 p2'] kt tpos] e X.env = pure none := by rfl) :
    RunS X (.Assign [.Tuple [.Name x1 p1', .Name x2 p2'] kt tpos] e pos :: rest) D σ H :=
  st (ps_asg sE (pg_tup S.calm (pgs_cons (S.pg i1 h1) (pgs_cons (S.pg i2 h2) pgs_nil))) hs hw) (h.here s fun v G' H' g ⟨t, vs, e, h, pr⟩ => by
    obtain ⟨v1, v2, rfl, r1, r2⟩ := PR.two pr
    exact ⟨t, [v1, v2], e, sqT g h, rfl, v1, [v2], rfl, v2, [], rfl, rfl, k v1 v2 G' H' g r1 r2⟩)
theorem st_unp3 (S : Sees X N C sc) (i1 i2 i3 : Nat) (s : Ok W G H) (h : J W X e σ G H (tupR [R1, R2, R3])) (k : ∀ v1 v2 v3 G' H', Gw W G H G' H' → R1.p v1 G' → R2.p v2 G' → R3.p v3 G' → RunS X rest D (((σ.set i1 (some v1)).set i2 (some v2)).set i3 (some v3)) H')
    (h1 : N[i1]? = some x1 := by rfl) (h2 : N[i2]? = some x2 := by rfl) (h3 : N[i3]? = some x3 := by rfl)
    (hs : swapsWithSole [.Tuple [.Name x1 p1', .Name x2 p2', .Name x3 p3'] kt tpos] e pos.line X.env = pure false := by rfl) (hw : swappedStores [.Tuple [.Name x1 p1', .Name x2 p2', .Name x3 p3'] kt tpos] e X.env = pure none := by rfl) :
    RunS X (.Assign [.Tuple [.Name x1 p1', .Name x2 p2', .Name x3 p3'] kt tpos] e pos :: rest) D σ H :=
  st (ps_asg sE (pg_tup S.calm (pgs_cons (S.pg i1 h1) (pgs_cons (S.pg i2 h2) (pgs_cons (S.pg i3 h3) pgs_nil)))) hs hw) (h.here s fun v G' H' g ⟨t, vs, e, h, pr⟩ => by
    obtain ⟨v1, v2, v3, rfl, r1, r2, r3⟩ := PR.three pr
    exact ⟨t, [v1, v2, v3], e, sqT g h, rfl, v1, [v2, v3], rfl, v2, [v3], rfl, v3, [], rfl, rfl, k v1 v2 v3 G' H' g r1 r2 r3⟩)
theorem st_unp4 (S : Sees X N C sc) (i1 i2 i3 i4 : Nat) (s : Ok W G H) (h : J W X e σ G H (tupR [R1, R2, R3, R4])) (k : ∀ v1 v2 v3 v4 G' H', Gw W G H G' H' → R1.p v1 G' → R2.p v2 G' → R3.p v3 G' → R4.p v4 G' → RunS X rest D ((((σ.set i1 (some v1)).set i2 (some v2)).set i3 (some v3)).set i4 (some v4)) H')
    (h1 : N[i1]? = some x1 := by rfl) (h2 : N[i2]? = some x2 := by rfl) (h3 : N[i3]? = some x3 := by rfl) (h4 : N[i4]? = some x4 := by rfl)
    (hs : swapsWithSole [.Tuple [.Name x1 p1', .Name x2 p2', .Name x3 p3', .Name x4 p4'] kt tpos] e pos.line X.env = pure false := by rfl) (hw : swappedStores [.Tuple [.Name x1 p1', .Name x2 p2', .Name x3 p3', .Name x4 p4'] kt tpos] e X.env = pure none := by rfl) :
    RunS X (.Assign [.Tuple [.Name x1 p1', .Name x2 p2', .Name x3 p3', .Name x4 p4'] kt tpos] e pos :: rest) D σ H :=
  st (ps_asg sE (pg_tup S.calm (pgs_cons (S.pg i1 h1) (pgs_cons (S.pg i2 h2) (pgs_cons (S.pg i3 h3) (pgs_cons (S.pg i4 h4) pgs_nil))))) hs hw) (h.here s fun v G' H' g ⟨t, vs, e, h, pr⟩ => by
    obtain ⟨v1, v2, v3, v4, rfl, r1, r2, r3, r4⟩ := PR.four pr
    exact ⟨t, [v1, v2, v3, v4], e, sqT g h, rfl, v1, [v2, v3, v4], rfl, v2, [v3, v4], rfl, v3, [v4], rfl, v4, [], rfl, rfl, k v1 v2 v3 v4 G' H' g r1 r2 r3 r4⟩)
theorem st_unp5 (S : Sees X N C sc) (i1 i2 i3 i4 i5 : Nat) (s : Ok W G H) (h : J W X e σ G H (tupR [R1, R2, R3, R4, R5])) (k : ∀ v1 v2 v3 v4 v5 G' H', Gw W G H G' H' → R1.p v1 G' → R2.p v2 G' → R3.p v3 G' → R4.p v4 G' → R5.p v5 G' → RunS X rest D (((((σ.set i1 (some v1)).set i2 (some v2)).set i3 (some v3)).set i4 (some v4)).set i5 (some v5)) H')
    (h1 : N[i1]? = some x1 := by rfl) (h2 : N[i2]? = some x2 := by rfl) (h3 : N[i3]? = some x3 := by rfl) (h4 : N[i4]? = some x4 := by rfl) (h5 : N[i5]? = some x5 := by rfl)
    (hs : swapsWithSole [.Tuple [.Name x1 p1', .Name x2 p2', .Name x3 p3', .Name x4 p4', .Name x5 p5'] kt tpos] e pos.line X.env = pure false := by rfl) (hw : swappedStores [.Tuple [.Name x1 p1', .Name x2 p2', .Name x3 p3', .Name x4 p4', .Name x5 p5'] kt tpos] e X.env = pure none := by rfl) :
    RunS X (.Assign [.Tuple [.Name x1 p1', .Name x2 p2', .Name x3 p3', .Name x4 p4', .Name x5 p5'] kt tpos] e pos :: rest) D σ H :=
  st (ps_asg sE (pg_tup S.calm (pgs_cons (S.pg i1 h1) (pgs_cons (S.pg i2 h2) (pgs_cons (S.pg i3 h3) (pgs_cons (S.pg i4 h4) (pgs_cons (S.pg i5 h5) pgs_nil)))))) hs hw) (h.here s fun v G' H' g ⟨t, vs, e, h, pr⟩ => by
    obtain ⟨v1, v2, v3, v4, v5, rfl, r1, r2, r3, r4, r5⟩ := PR.five pr
    exact ⟨t, [v1, v2, v3, v4, v5], e, sqT g h, rfl, v1, [v2, v3, v4, v5], rfl, v2, [v3, v4, v5], rfl, v3, [v4, v5], rfl, v4, [v5], rfl, v5, [], rfl, rfl, k v1 v2 v3 v4 v5 G' H' g r1 r2 r3 r4 r5⟩)
/-- a, b = x, y with plain local names -/
theorem st_parA (S : Sees X N C sc) (i1 i2 : Nat) (h : RunA X [a, b] σ H fun vs H1 => ∃ v w, vs = [v, w] ∧ RunS X rest D ((σ.set i1 (some v)).set i2 (some w)) H1)
    (h1 : N[i1]? = some x1 := by rfl) (h2 : N[i2]? = some x2 := by rfl) (hij : i1 ≠ i2 := by decide) (hx : sc.names.lookup x1 = some .local := by rfl) (hy : sc.names.lookup x2 = some .local := by rfl)
    (hw : swappedStores [.Tuple [.Name x1 p1', .Name x2 p2'] kt tpos] (.Tuple [a, b] k2 p2) { X.env with scope := sc } = pure (some [x1, x2]) := by rfl)
    (hs : swapsWithSole [.Tuple [.Name x1 p1', .Name x2 p2'] kt tpos] (.Tuple [a, b] k2 p2) pos.line X.env = pure false := by rfl) :
    RunS X (.Assign [.Tuple [.Name x1 p1', .Name x2 p2'] kt tpos] (.Tuple [a, b] k2 p2) pos :: rest) D σ H :=
  st (ps_par S.calm S.nd (by rw [S.hN]; exact app_ix h1) (by rw [S.hN]; exact app_ix h2) hij (S.lo _ hx) (S.lo _ hy) sA ((swapped_eq S.sce).trans hw) hs) h
theorem st_par (S : Sees X N C sc) (i1 i2 : Nat) (s : Ok W G H) (h : JA W X [a, b] σ G H [R1, R2]) (k : ∀ v1 v2 G' H', Gw W G H G' H' → R1.p v1 G' → R2.p v2 G' → RunS X rest D ((σ.set i1 (some v1)).set i2 (some v2)) H')
    (h1 : N[i1]? = some x1 := by rfl) (h2 : N[i2]? = some x2 := by rfl) (hij : i1 ≠ i2 := by decide) (hx : sc.names.lookup x1 = some .local := by rfl) (hy : sc.names.lookup x2 = some .local := by rfl)
    (hw : swappedStores [.Tuple [.Name x1 p1', .Name x2 p2'] kt tpos] (.Tuple [a, b] k2 p2) { X.env with scope := sc } = pure (some [x1, x2]) := by rfl)
    (hs : swapsWithSole [.Tuple [.Name x1 p1', .Name x2 p2'] kt tpos] (.Tuple [a, b] k2 p2) pos.line X.env = pure false := by rfl) :
    RunS X (.Assign [.Tuple [.Name x1 p1', .Name x2 p2'] kt tpos] (.Tuple [a, b] k2 p2) pos :: rest) D σ H :=
  st_parA S i1 i2 (h.here s fun vs G' H' g pr => by
    obtain ⟨v1, v2, rfl, r1, r2⟩ := PR.two pr
    exact ⟨v1, v2, rfl, k v1 v2 G' H' g r1 r2⟩) h1 h2 hij hx hy hw hs
theorem st_par3A (S : Sees X N C sc) (i1 i2 i3 : Nat) (h : RunA X [a, b, c] σ H fun vs H1 => ∃ u v w, vs = [u, v, w] ∧ RunS X rest D (((σ.set i1 (some u)).set i2 (some v)).set i3 (some w)) H1)
    (h1 : N[i1]? = some x1 := by rfl) (h2 : N[i2]? = some x2 := by rfl) (h3 : N[i3]? = some x3 := by rfl) (hij : i1 ≠ i2 := by decide) (hil : i1 ≠ i3 := by decide) (hjl : i2 ≠ i3 := by decide) (hx : sc.names.lookup x1 = some .local := by rfl) (hy : sc.names.lookup x2 = some .local := by rfl) (hz : sc.names.lookup x3 = some .local := by rfl)
    (hw : swappedStores [.Tuple [.Name x1 p1', .Name x2 p2', .Name x3 p3'] kt tpos] (.Tuple [a, b, c] k2 p2) { X.env with scope := sc } = pure (some [x1, x2, x3]) := by rfl)
    (hs : swapsWithSole [.Tuple [.Name x1 p1', .Name x2 p2', .Name x3 p3'] kt tpos] (.Tuple [a, b, c] k2 p2) pos.line X.env = pure false := by rfl) :
    RunS X (.Assign [.Tuple [.Name x1 p1', .Name x2 p2', .Name x3 p3'] kt tpos] (.Tuple [a, b, c] k2 p2) pos :: rest) D σ H :=
  st (ps_par3 S.calm S.nd (by rw [S.hN]; exact app_ix h1) (by rw [S.hN]; exact app_ix h2) (by rw [S.hN]; exact app_ix h3) hij hil hjl (S.lo _ hx) (S.lo _ hy) (S.lo _ hz) sA ((swapped_eq S.sce).trans hw) hs) h

/-! ### walks of pairs -/
theorem range_getD {α : Type} {d : α} : ∀ (Rs : List α), (List.range Rs.length).map (fun i => Rs.getD i d) = Rs := fun Rs => by
  apply List.ext_getElem
  · simp
  · intro i h1 h2
    simp at h1
    simp [h1]
theorem pr_getD {G : Hp} {vs : List V} {Rs : List Rel} (pr : PR G vs Rs) (i : Nat) (x : V) (hx : vs[i]? = some x) : (Rs.getD i isO).p x G := by
  have hi : i < Rs.length := by
    rw [← pr.len]
    exact (List.getElem?_eq_some_iff.mp hx).1
  obtain ⟨v, h1, h2⟩ := pr.get (i := i) (List.getElem?_eq_getElem hi)
  rw [hx] at h1
  cases h1
  rw [List.getD_eq_getElem?_getD, List.getElem?_eq_getElem hi]
  exact h2
theorem jiEnumT {es' : List Expr} {kk : Nat} (v : Vw X sc) (h : J W X e σ G H (tupR Rs)) (hg : sc.names.lookup ("enumerate" : Str) = some .globalImplicit := by rfl) (hs : starEach [e] X.env = [(false, eval e X.env)] := by rfl) :
    JI W X (.Tuple es' kk tpos) (.Call (.Name "enumerate" p) [e] [] pos) σ G H ((List.range Rs.length).map fun i => pairT (isN i) (Rs.getD i isO)) := fun G1 H1 g R' k =>
  gI (pi_enumT (v.gl _ hg) v.b.enum sA hs) (ja h ja0 hs G1 H1 g _ fun vs G2 H2 g2 pr => by
    obtain ⟨x, rfl, l, xs, rfl, hl, q⟩ := PR.one pr
    refine ⟨l, xs, rfl, sqT g2 hl, k _ (fun H3 => SqT X.K H3 l xs) (YPair (fun i => some (.int (i : Nat))) fun i => xs[i]?) G2 H2 g2 ?_ (fun H3 s => (hl.mono s).sq) (gives_pair rfl (fun i x _ e => ?_) (fun i x _ e => pr_getD q i x e))⟩
    · rw [List.length_map, List.length_range, ← q.len]
      exact walkP
    · cases e
      rfl)
theorem jiZipT {es' : List Expr} {kk : Nat} (v : Vw X sc) (h : J W X a σ G H (tupR Rs)) (h2 : J W X b σ G H (tupR Ss)) (hg : sc.names.lookup ("zip" : Str) = some .globalImplicit := by rfl) (hs : starEach [a, b] X.env = (false, eval a X.env) :: starEach [b] X.env := by rfl) (hs2 : starEach [b] X.env = [(false, eval b X.env)] := by rfl) :
    JI W X (.Tuple es' kk tpos) (.Call (.Name "zip" p) [a, b] [] pos) σ G H ((List.range (min Rs.length Ss.length)).map fun i => pairT (Rs.getD i isO) (Ss.getD i isO)) := fun G1 H1 g R' k =>
  gI (RZ.pi_zipA (v.gl _ hg) v.b.zip sA hs (by rw [hs2]; rfl)) (ja h (ja h2 ja0 hs2) hs G1 H1 g _ fun vs G2 H2 g2 pr => by
    obtain ⟨x, y, rfl, ⟨l, xs, rfl, hl, q⟩, ⟨l2, ys, rfl, hl2, q2⟩⟩ := PR.two pr
    refine ⟨l, l2, xs, ys, rfl, .inr ⟨sqT g2 hl, sqT g2 hl2, k _ (fun H3 => SqT X.K H3 l xs ∧ SqT X.K H3 l2 ys) (YPair (fun i => xs[i]?) fun i => ys[i]?) G2 H2 g2 ?_ (fun H3 s => ⟨(hl.mono s).sq, (hl2.mono s).sq⟩) (gives_pair rfl (fun i x _ e => pr_getD q i x e) (fun i x _ e => pr_getD q2 i x e))⟩⟩
    rw [List.length_map, List.length_range, ← q.len, ← q2.len]
    refine ⟨fun i H3 hi hq => ?_, fun H3 hq => ⟨xs, ys, hq.1, hq.2, by omega⟩, fun i H3 v H4 hi hq y => ?_⟩
    · have h1 : i < xs.length := by omega
      have h2 : i < ys.length := by omega
      exact ⟨xs, ys, xs[i], ys[i], hq.1, hq.2, by simp [h1], by simp [h2]⟩
    · obtain ⟨T, x, y', e1, e2, e3, e4⟩ := y
      exact ⟨T, x, y', e1, e2, e3, e4.1 xs hq.1, e4.2 ys hq.2⟩)
theorem jiZipS {es' : List Expr} {kk : Nat} {z1 z2 : Str} (v : Vw X sc) (h : J W X a σ G H (isS z1)) (h2 : J W X b σ G H (isS z2)) (hg : sc.names.lookup ("zip" : Str) = some .globalImplicit := by rfl) (hs : starEach [a, b] X.env = (false, eval a X.env) :: starEach [b] X.env := by rfl) (hs2 : starEach [b] X.env = [(false, eval b X.env)] := by rfl) :
    JI W X (.Tuple es' kk tpos) (.Call (.Name "zip" p) [a, b] [] pos) σ G H ((List.range (min z1.cps.size z2.cps.size)).map fun i => pairT (isS ⟨#[z1.cps.getD i 0]⟩) (isS ⟨#[z2.cps.getD i 0]⟩)) := fun G1 H1 g R' k =>
  gI (pi_zipS (v.gl _ hg) v.b.zip sA hs (by rw [hs2]; rfl)) (ja h (ja h2 ja0 hs2) hs G1 H1 g _ fun vs G2 H2 g2 pr => by
    obtain ⟨x, y, rfl, rx, ry⟩ := PR.two pr
    obtain rfl : x = V.str z1 := rx
    obtain rfl : y = V.str z2 := ry
    have hsg : ∀ (z : Str) (i : Nat) (x : V), signs z i = some x → (isS ⟨#[z.cps.getD i 0]⟩).p x G2 := fun z i x e => by
      unfold signs at e
      cases hc : z.cps[i]? with
      | none => rw [hc] at e; cases e
      | some ch =>
        rw [hc] at e
        cases e
        have : z.cps.getD i 0 = ch := by rw [Array.getD_eq_getD_getElem?, hc]; rfl
        rw [this]
        rfl
    refine ⟨z1, z2, rfl, k _ (fun H3 => True) (YPair (signs z1) (signs z2)) G2 H2 g2 ?_ (fun H3 s => trivial) (gives_pair rfl (fun i x _ e => hsg z1 i x e) (fun i x _ e => hsg z2 i x e))⟩
    rw [List.length_map, List.length_range]
    exact walkP)
theorem pairT_tup {T : V} {K : PySem.W.Frag} (s : Same G H) (r : (pairT R1 R2).p T G) {i1 i2 : Nat} {Q : L2.St → Hp → Prop} (k : ∀ v1 v2, R1.p v1 G → R2.p v2 G → Q ((σ.set i1 (some v1)).set i2 (some v2)) H) : gTup K 2 (gCons (gName i1) (gCons (gName i2) gNil)) T σ H Q := by
  obtain ⟨t, x, y, rfl, h, r1, r2⟩ := r
  exact ⟨t, [x, y], rfl, SqT.of (s _ _ h), rfl, x, [y], rfl, y, [], rfl, rfl, k x y r1 r2⟩
theorem wipe_two {σ : L2.St} {i j : Nat} {v w : Option V} (hij : i ≠ j) : wipe (((wipe σ [i, j]).set i v).set j w) [i, j] = wipe σ [i, j] := by
  apply List.ext_getElem?
  intro n
  show ((((((σ.set j none).set i none).set i v).set j w).set j none).set i none)[n]? = ((σ.set j none).set i none)[n]?
  simp only [List.getElem?_set, List.length_set]
  by_cases h1 : i = n <;> by_cases h2 : j = n <;> simp_all
/-- [elt for x, y in ..] -/
theorem jlc2 {α : Type} {elt iter : Expr} {x y : Str} {xp yp tp : Pos} {kk : Nat} {scope : Scope} {i j : Nat} (calm : X.calm = true) (nd : X.N.Nodup) (xs : List α) (Ra Rb : α → Rel) (Ro : α → Rel) (hi : JI W X (.Tuple [.Name x xp, .Name y yp] kk tp) iter σ G H (xs.map fun x => pairT (Ra x) (Rb x))) (hn : xs.length ≤ 100000) (hij : i ≠ j)
    (ok : BlkOk X.N X.env.scope scope [(x, i), (y, j)]) (hg : ∀ (s : Shared) (H : Hp) (C : Addr) (cl : List (Str × Addr)) (fp : List Addr), PG (X.blk s H scope (compEnvC scope cl C X.env) fp) (.Tuple [.Name x xp, .Name y yp] kk tp) (gTup X.K 2 (gCons (gName i) (gCons (gName j) gNil))))
    (he : ∀ z v w G1 H1, z ∈ xs → Gw W G H G1 H1 → (Ra z).p v G1 → (Rb z).p w G1 → ∀ s0 H0 C cl fp, J W (X.blk s0 H0 scope (compEnvC scope cl C X.env) fp) elt (((wipe σ [i, j]).set i (some v)).set j (some w)) G1 H1 (Ro z)) (hf : ∀ x, foldedSetIterable iter X.env x = pure x := by intro _; rfl) :
    J W X (.ListComp elt [⟨.Tuple [.Name x xp, .Name y yp] kk tp, iter, [], 0⟩] scope pos) σ G H (lstR (xs.map Ro)) :=
  jlcG (own := [(x, i), (y, j)]) calm nd xs _ Ro hi hn ok hg (fun z v G1 H1 hz g1 r K1 k => pairT_tup g1.s r fun v1 v2 r1 r2 => k _ (wipe_two hij) (he z v1 v2 G1 H1 hz g1 r1 r2)) hf
/-- [elt for x, y, z in tuples] -/
theorem wipe_three {σ : L2.St} {i j l : Nat} {u v w : Option V} (hij : i ≠ j) (hil : i ≠ l) (hjl : j ≠ l) : wipe ((((wipe σ [i, j, l]).set i u).set j v).set l w) [i, j, l] = wipe σ [i, j, l] := by
  apply List.ext_getElem?
  intro n
  show ((((((((σ.set l none).set j none).set i none).set i u).set j v).set l w).set l none).set j none |>.set i none)[n]? = (((σ.set l none).set j none).set i none)[n]?
  simp only [List.getElem?_set, List.length_set]
  by_cases h1 : i = n <;> by_cases h2 : j = n <;> by_cases h3 : l = n <;> simp_all
theorem jlc3 {α : Type} {elt iter : Expr} {x y z : Str} {xp yp zp tp : Pos} {kk : Nat} {scope : Scope} {i j l : Nat} (calm : X.calm = true) (nd : X.N.Nodup) (xs : List α) (Ra Rb Rc : α → Rel) (Ro : α → Rel) (hi : JI W X (.Tuple [.Name x xp, .Name y yp, .Name z zp] kk tp) iter σ G H (xs.map fun x => tupR [Ra x, Rb x, Rc x])) (hn : xs.length ≤ 100000) (hij : i ≠ j) (hil : i ≠ l) (hjl : j ≠ l)
    (ok : BlkOk X.N X.env.scope scope [(x, i), (y, j), (z, l)]) (hg : ∀ (s : Shared) (H : Hp) (C : Addr) (cl : List (Str × Addr)) (fp : List Addr), PG (X.blk s H scope (compEnvC scope cl C X.env) fp) (.Tuple [.Name x xp, .Name y yp, .Name z zp] kk tp) (gTup X.K 3 (gCons (gName i) (gCons (gName j) (gCons (gName l) gNil)))))
    (he : ∀ t u v w G1 H1, t ∈ xs → Gw W G H G1 H1 → (Ra t).p u G1 → (Rb t).p v G1 → (Rc t).p w G1 → ∀ s0 H0 C cl fp, J W (X.blk s0 H0 scope (compEnvC scope cl C X.env) fp) elt ((((wipe σ [i, j, l]).set i (some u)).set j (some v)).set l (some w)) G1 H1 (Ro t)) (hf : ∀ x, foldedSetIterable iter X.env x = pure x := by intro _; rfl) :
    J W X (.ListComp elt [⟨.Tuple [.Name x xp, .Name y yp, .Name z zp] kk tp, iter, [], 0⟩] scope pos) σ G H (lstR (xs.map Ro)) :=
  jlcG (own := [(x, i), (y, j), (z, l)]) calm nd xs _ Ro hi hn ok hg (fun t v G1 H1 hz g1 ⟨T, vs, e, hT, pr⟩ K1 k => by
    obtain ⟨v1, v2, v3, rfl, r1, r2, r3⟩ := PR.three pr
    exact ⟨T, [v1, v2, v3], e, sqT g1 hT, rfl, v1, [v2, v3], rfl, v2, [v3], rfl, v3, [], rfl, rfl, k _ (wipe_three hij hil hjl) (he t v1 v2 v3 G1 H1 hz g1 r1 r2 r3)⟩) hf

/-! ### repeated -/
theorem PR.rep {G : Hp} {vs : List V} {Rs : List Rel} (h : PR G vs Rs) : ∀ n : Nat, PR G (List.replicate n vs).flatten (List.replicate n Rs).flatten
  | 0 => .nil
  | n + 1 => by
    rw [List.replicate_succ, List.replicate_succ, List.flatten_cons, List.flatten_cons]
    exact h.app (PR.rep h n)
theorem tw_repL {n : Nat} (hz : Rs.length * n ≤ 100000) (hn : n ≤ 100000) : Tw W rRep G H (lstR Rs) (isN n) (lstR (List.replicate n Rs).flatten) := fun x y G1 H1 g ⟨l, vs, e, hl, pr⟩ hy Q k => by
  obtain rfl : y = V.int (n : Int) := hy
  refine ⟨l, (n : Int), vs, e, rfl, g.s _ _ hl, by omega, by omega, ?_, fun p hp => ?_⟩
  · rw [Int.toNat_natCast, pr.len]; exact Nat.le_trans hz (by decide)
  · rw [Int.toNat_natCast]
    exact k _ _ _ (g.nw hp) ⟨p, _, rfl, upd_same, PR.mo (Gr.new (m := no) g.s hp).g (pr.rep n)⟩
theorem tw_repT {K : PySem.W.Frag} {n : Nat} (hne : Rs ≠ []) (hl : Rs.length ≤ 1000) (h2 : 2 ≤ n) (hn : n ≤ 1000) : Tw W (rRepF K) G H (tupR Rs) (isN n) (tupR (List.replicate n Rs).flatten) := fun x y G1 H1 g ⟨l, vs, e, hT, pr⟩ hy Q k => by
  obtain rfl : y = V.int (n : Int) := hy
  refine ⟨l, (n : Int), vs, e, rfl, sqT g hT, ?_, by omega, by omega, by rw [pr.len]; exact hl, ?_⟩
  · intro z
    subst z
    have := pr.len
    exact hne (List.eq_nil_of_length_eq_zero this.symm)
  · rw [Int.toNat_natCast]
    exact newT g.ok (pr.rep n) k

/-! ### lists under construction: in the heap, not in the store -/
/-- what shows itself as a list of such data -/
def IsL (W : Md) (G H : Hp) (R : Rel) (Rs : List Rel) : Prop := ∀ v G1 H1, Gw W G H G1 H1 → R.p v G1 → ∃ a vs, v = .ref a ∧ H1 a = some (.lst vs) ∧ PR G1 vs Rs
theorem isL_raw {l : Addr} {vs : List V} (h : H l = some (.lst vs)) (nm : ¬ W.m l) (pr : PR G vs Rs) : IsL W G H (isV (.ref l)) Rs := fun v G1 H1 g r => ⟨l, vs, r, g.gr.h _ _ nm h, PR.mo g.g pr⟩
theorem rixL {i : Int} (hL : IsL W G H R1 Rs) (ha : J W X a σ G H R1) (hb : J W X b σ G H (isI i)) (e : atI Rs i = some R) (hs : PlainIx b := by intro _ _; rfl) : J W X (.Subscript a b pos) σ G H R :=
  jix ix_list ha hb (fun x y G1 H1 g r hy Q k => by
    obtain ⟨q, vs, e1, h, pr⟩ := hL x G1 H1 g r
    obtain ⟨v, hv, r⟩ := pr.at e
    exact ⟨q, vs, i, v, e1, hy, SqL.of h, hv, k v G1 H1 g.rf r⟩) hs
theorem rtupL (v : Vw X sc) (hL : IsL W G H R1 Rs) (h : J W X e σ G H R1) (hg : sc.names.lookup ("tuple" : Str) = some .globalImplicit := by rfl) (hs : starEach [e] X.env = [(false, eval e X.env)] := by rfl) : J W X (.Call (.Name "tuple" p) [e] [] pos) σ G H (tupR Rs) :=
  jcallTy call_tupleF (v.gl _ hg) v.b.tuple (by decide +kernel) (ja h ja0 hs) (fun vs G1 H1 g pr Q k => by
    obtain ⟨x, rfl, r⟩ := PR.one pr
    obtain ⟨a, ws, rfl, h, q⟩ := hL x G1 H1 g r
    exact ⟨a, ws, rfl, SqL.of h, newT g.ok q k⟩) (he := hs)
theorem rlenL (v : Vw X sc) (hL : IsL W G H R1 Rs) (h : J W X e σ G H R1) (hg : sc.names.lookup ("len" : Str) = some .globalImplicit := by rfl) (hs : starEach [e] X.env = [(false, eval e X.env)] := by rfl) : J W X (.Call (.Name "len" p) [e] [] pos) σ G H (isN Rs.length) :=
  jcallB call_len_seq (v.gl _ hg) v.b.len PySem.boot_len (ja h ja0 hs) (fun vs G1 H1 g pr Q k => by
    obtain ⟨x, rfl, r⟩ := PR.one pr
    obtain ⟨a, ws, rfl, h, q⟩ := hL x G1 H1 g r
    exact ⟨a, ws, rfl, .inl (SqL.of h), by rw [q.len]; exact k _ G1 H1 g.rf rfl⟩) (he := hs)
theorem rinL {K : PySem.W.Frag} {x : V} {xs : List V} (hL : IsL W G H R1 (xs.map isV)) (hx : flatV x = true) (hs : xs.all flatV = true) : Tw W (rIn K false) G H (isV x) R1 (isB (inV x xs)) := fun u v G1 H1 g hu r Q k => by
  obtain ⟨a, vs, e, h, pr⟩ := hL v G1 H1 g r
  obtain rfl : u = x := hu
  obtain rfl := PR.vals pr
  exact ⟨a, vs, e, .inl (SqL.of h), hx, hs, k _ G1 H1 g.rf rfl⟩
/-- a list display, not finished -/
theorem glst {Q : VK} (s : Ok W G H) (h : JA W X es σ G H Rs) (hz : Rs.length ≤ 100000) (k : ∀ vs u G' H', Gw W G H G' H' → PR G' vs Rs → H' u = none → Q (.ref u) (upd H' u (.lst vs))) : RunE X (.List es pos) σ H Q :=
  gE (pe_lst sA) (h.here s fun vs G' H' g pr => ⟨by rw [pr.len]; exact Nat.le_trans hz (by decide), fun u hu => k vs u G' H' g pr hu⟩)
/-- l.append(e), l under construction -/
theorem st_append {l : Addr} {vs : List V} (s : Ok W G H) (ha : J W X a σ G H (isV (.ref l))) (hl : H l = some (.lst vs)) (nm : ¬ W.m l) (hz : vs.length ≤ 100000) (h : J W X e σ G H R) (k : ∀ v G' H', Gw W G H G' H' → R.p v G' → H' l = some (.lst vs) → RunS X rest D σ (upd H' l (.lst (vs ++ [v]))))
    (hb : attributeBase a "append" X.env (eval a X.env) = eval a X.env := by rfl)
    (hfew : ((backTo p2 (starEach [e] X.env)).all (fun x => !x.1) && (backToKw p2 (keywordEach [] X.env)).all (fun x => x.1.isSome)
      && decide ([e].length + ([] : List Keyword).length + (if ([] : List Keyword).isEmpty then 0 else 1) < 30)) = true := by rfl)
    (hline : (apos.endLine == p2.line) = true := by rfl) (hs : starEach [e] X.env = (false, eval e X.env) :: starEach [] X.env := by rfl)
    (hsw : swapsWith (.Call (.Attribute a "append" apos) [e] [] p2) none pos.line X.env = pure false := by rfl) : RunS X (.Expr (.Call (.Attribute a "append" apos) [e] [] p2) pos :: rest) D σ H :=
  st (ps_expr (pe_bm PySem.F.plainAttrs_list PySem.F.slot_list_append PySem.F.type_list_append mt_append sE sA hb hfew hline hs) hsw) (ha.here s fun x G1 H1 g1 r1 => by
    obtain rfl : x = V.ref l := r1
    have h1 := g1.gr.h _ _ nm hl
    refine ⟨.inl ⟨rfl, _, SqL.of h1⟩, ja h ja0 hs G1 H1 g1 _ fun ws G2 H2 g2 pr => ?_⟩
    obtain ⟨y, rfl, ry⟩ := PR.one pr
    have h2 := g2.gr.h _ _ nm h1
    exact ⟨l, vs, y, rfl, rfl, h2, Nat.lt_of_le_of_lt hz (by rw [sizeLine_eq]; decide), k y G2 H2 (g1.trans g2) ry h2⟩)
end
end Lp
/-! ## Cl -/
set_option Elab.async false
set_option linter.all false
set_option maxRecDepth 100000
set_option maxHeartbeats 2000000
/-! Instances with slots, regular instances, methods, properties, with. -/
namespace Lp
open PySem PySem.Spec PyProof.Rows L2
open SlX (Slt SlO SCls Slot1 slH putS SIsi)
/-! ### what the text says of a method and the like -/
def MDef (K : PySem.W.Frag) (C : Addr) (m qual : Str) (st : Stmt) (ps : List Str) : Prop := ∃ f fd, Fun K m qual st f fd ∧ Binds K fd ps [] ∧ Meth K C m f
def IDef (K : PySem.W.Frag) (C : Addr) (qual : Str) (st : Stmt) (ps : List Str) : Prop := ∃ f fd, Fun K "__init__" qual st f fd ∧ Binds K fd ps [] ∧ Mk K C f
def PDef (K : PySem.W.Frag) (C : Addr) (m qual : Str) (st : Stmt) (ps : List Str) : Prop := ∃ p g fd, Fun K m qual st g fd ∧ Binds K fd ps [] ∧ PropOf K C m p g
/-- their promises -/
def KnM (P : Program) (w : World) (K : PySem.W.Frag) (mg : Str → Option Value) (base : Heap) (k : Nat) (C : Addr) (m : Str) (sp : Sp) : Prop := ∃ f, Meth K C m f ∧ FnR P w K mg base CX0 k f sp
def KnI (P : Program) (w : World) (K : PySem.W.Frag) (mg : Str → Option Value) (base : Heap) (k : Nat) (C : Addr) (sp : Sp) : Prop := ∃ f fd ps, Binds K fd ps [] ∧ Mk K C f ∧ FnOk P w K mg base CX0 k f fd ps sp
def KnP (P : Program) (w : World) (K : PySem.W.Frag) (mg : Str → Option Value) (base : Heap) (k : Nat) (C : Addr) (m : Str) (sp : Sp) : Prop := ∃ p g fd ps, Binds K fd ps [] ∧ PropOf K C m p g ∧ FnOk P w K mg base CX0 k g fd ps sp
theorem fn_r0 {P : Program} {w : World} {K : PySem.W.Frag} {mg : Str → Option Value} {base : Heap} {k : Nat} {f : Addr} {fd : FuncData} {ps : List Str} {sp : Sp} (F : FnOk P w K mg base CX0 k f fd ps sp) (hb : Binds K fd ps []) : FnR P w K mg base CX0 k f sp := by
  have := F.raw hb .nil
  simpa using this
section
variable {P : Program} {w : World} {K : PySem.W.Frag} {mg : Str → Option Value} {base : Heap} {x qual : Str} {st : Stmt} {k : Nat} {sp : Sp} {C : Addr} {m : Str} {N Cn ps : List Str}
theorem knm_body (D : MDef K C m qual st ps) (S : FnScope (N ++ Cn) ps (defScope st)) (hloc : ∀ y ∈ N, Loc (defScope st) y) (len : ∀ vs H Q E, sp vs H Q E → vs.length = ps.length)
    (body : ∀ (X : Cx), Sees X N Cn (defScope st) → X.prog = P → X.w = w → X.K = K → X.mg = mg → X.base = base → X.xe = (fun _ _ => False) → Room k X.A → ∀ (vs : List V) (H : Hp) (Q : VK) (E : XK), sp vs H Q E →
      RunS X (defBody st) { nx := fun _ H' => Q .non H', rt := Q } (start (N ++ Cn) vs) H) : KnM P w K mg base (k + 1) C m sp := by
  obtain ⟨f, fd, F, hb, M⟩ := D
  exact ⟨f, M, fn_r0 (fn_body F S hloc len body) hb⟩
theorem kni_body (D : IDef K C qual st ps) (S : FnScope (N ++ Cn) ps (defScope st)) (hloc : ∀ y ∈ N, Loc (defScope st) y) (len : ∀ vs H Q E, sp vs H Q E → vs.length = ps.length)
    (body : ∀ (X : Cx), Sees X N Cn (defScope st) → X.prog = P → X.w = w → X.K = K → X.mg = mg → X.base = base → X.xe = (fun _ _ => False) → Room k X.A → ∀ (vs : List V) (H : Hp) (Q : VK) (E : XK), sp vs H Q E →
      RunS X (defBody st) { nx := fun _ H' => Q .non H', rt := Q } (start (N ++ Cn) vs) H) : KnI P w K mg base (k + 1) C sp := by
  obtain ⟨f, fd, F, hb, M⟩ := D
  exact ⟨f, fd, ps, hb, M, fn_body F S hloc len body⟩
theorem knp_body (D : PDef K C m qual st ps) (S : FnScope (N ++ Cn) ps (defScope st)) (hloc : ∀ y ∈ N, Loc (defScope st) y) (len : ∀ vs H Q E, sp vs H Q E → vs.length = ps.length)
    (body : ∀ (X : Cx), Sees X N Cn (defScope st) → X.prog = P → X.w = w → X.K = K → X.mg = mg → X.base = base → X.xe = (fun _ _ => False) → Room k X.A → ∀ (vs : List V) (H : Hp) (Q : VK) (E : XK), sp vs H Q E →
      RunS X (defBody st) { nx := fun _ H' => Q .non H', rt := Q } (start (N ++ Cn) vs) H) : KnP P w K mg base (k + 1) C m sp := by
  obtain ⟨p, g, fd, F, hb, M⟩ := D
  exact ⟨p, g, fd, ps, hb, M, fn_body F S hloc len body⟩
theorem kn_bodyS (D : Def K mg x st ps) (S : FnScope (N ++ Cn) ps (defScope st)) (hloc : ∀ y ∈ N, Loc (defScope st) y) (len : ∀ vs H Q E, sp vs H Q E → vs.length = ps.length)
    (body : ∀ (X : Cx), Sees X N Cn (defScope st) → X.prog = P → X.w = w → X.K = K → X.mg = mg → X.base = base → X.xe = (fun _ _ => False) → Room k X.A → ∀ (vs : List V) (H : Hp) (Q : VK) (E : XK), sp vs H Q E →
      RunS X (defBody st) { nx := fun _ H' => Q .non H', rt := Q } (start (N ++ Cn) vs) H) : Kn P w K mg base (k + 1) x sp := by
  obtain ⟨f, fd, h1, F, hb⟩ := D.ex
  exact ⟨f, fd, ps, h1, F.kp, hb, fn_body F S hloc len body⟩
end

/-! ### finished instances with slots -/
def objR (C : Addr) (Rs : List Rel) : Rel := ⟨fun v G => ∃ a dx us, v = .ref a ∧ G a = some (SlO a C dx (us.map some)) ∧ G dx = some (.xd []) ∧ PR G us Rs, fun {v G G'} s h => by
  obtain ⟨a, dx, us, e, h1, h2, pr⟩ := h
  exact ⟨a, dx, us, e, s _ _ h1, s _ _ h2, PR.mo s pr⟩⟩
/-- what shows itself as an instance with slots -/
def IsO (W : Md) (G H : Hp) (C : Addr) (R : Rel) (Rs : List Rel) : Prop := ∀ v G1 H1, Gw W G H G1 H1 → R.p v G1 → ∃ a dx us, v = .ref a ∧ Slt H1 a C dx (us.map some) ∧ PR G1 us Rs
section
variable {W : Md} {X : Cx} {σ : L2.St} {G H G' H' : Hp} {e a b c value o : Expr} {es : List Expr} {R R1 R2 : Rel} {Rs Ss : List Rel} {pos pos' p p2 apos : Pos} {N Cn : List Str} {sc : Scope} {rest : List Stmt} {D : Ends} {C pa : Addr} {f m x : Str} {i k : Nat} {sp : Sp}
theorem isO_fin : IsO W G H C (objR C Rs) Rs := fun v G1 H1 g ⟨a, dx, us, e, h1, h2, pr⟩ => ⟨a, dx, us, e, .inr ⟨g.s _ _ h1, g.s _ _ h2⟩, pr⟩
theorem isO_raw {s dx : Addr} {us : List V} (h : H s = some (SlO s C dx (us.map some))) (h2 : H dx = some (.xd [])) (n1 : ¬ W.m s) (n2 : ¬ W.m dx) (pr : PR G us Rs) : IsO W G H C (isV (.ref s)) Rs := fun v G1 H1 g r =>
  ⟨s, dx, us, r, .inr ⟨g.gr.h _ _ n1 h, g.gr.h _ _ n2 h2⟩, PR.mo g.g pr⟩
theorem map_some_get {us : List V} {i : Nat} {v : V} (h : us[i]? = some v) : (us.map some)[i]? = some (some v) := by rw [List.getElem?_map, h]; rfl
/-- e.f, a slot -/
theorem jslot (cs : SCls X.K C) (t : Slot1 X.K C f pa i) (hO : IsO W G H C R1 Rs) (h : J W X e σ G H R1) (hi : Rs[i]? = some R) (hb : attributeBase e f X.env (eval e X.env) = eval e X.env := by rfl) : J W X (.Attribute e f pos) σ G H R :=
  J.pe (SlX.pe_sl sE hb) fun G1 H1 g Q k => h G1 H1 g _ fun v G2 H2 g2 r => by
    obtain ⟨a, dx, us, rfl, hs, pr⟩ := hO v G2 H2 (g.trans g2) r
    obtain ⟨u, hu, ru⟩ := pr.get hi
    exact ⟨a, C, dx, pa, us.map some, i, u, rfl, hs, cs, t, map_some_get hu, k u G2 H2 g2 ru⟩
/-- e.f, a property of an instance with slots -/
theorem jpropSl {ι : Type} {cc : ι → Prop} {pre : ι → List Rel} {post : ι → Rel} (cs : SCls X.K C) (K1 : KnP X.prog X.w X.K X.mg X.base k C f (spP cc pre post)) (hr : Room (k + 1) X.A) (j : ι) (hc : cc j) (h : J W X e σ G H (objR C Rs)) (hp : pre j = [objR C Rs]) (hb : attributeBase e f X.env (eval e X.env) = eval e X.env := by rfl) :
    J W X (.Attribute e f pos) σ G H (post j) := by
  obtain ⟨p, g, fd, ps, hbd, po, F⟩ := K1
  refine J.pe (SlX.pe_propSl (C := C) (E := E0) sE cs po.at_ po.get po.tak po.rec_ (CX := CX0) (fn_r0 F hbd) hr (fun _ _ _ _ z => z) hb) fun G1 H1 g1 Q k => h G1 H1 g1 _ fun v G2 H2 g2 r => ?_
  have r' := r
  obtain ⟨a, dx, us, rfl, h1, h2, pr⟩ := r'
  refine ⟨a, dx, us.map some, rfl, .inr ⟨g2.s _ _ h1, g2.s _ _ h2⟩, j, G2, .pure g2.s, hc, ?_, fun v G3 H3 g3 r3 => k v G3 H3 (g2.trans (Gw.up0 g2.ok g3.to0)) r3⟩
  rw [hp]
  exact .cons r .nil
/-- o.f = e, a slot of an instance under construction or mutable -/
theorem st_slot {s dx : Addr} {vs : List (Option V)} (cs : SCls X.K C) (t : Slot1 X.K C f pa i) (ok : Ok W G H) (h : J W X value σ G H R) (ho : J W X o σ G H (isV (.ref s))) (hs : ∀ G1 H1, Gw W G H G1 H1 → Slt H1 s C dx vs)
    (q : ∀ v G' H', Gw W G H G' H' → R.p v G' → RunS X rest D σ (slH H' s C dx (putS i v vs))) (hsw : swapsWith value (some (.Attribute o f pos')) pos.line X.env = pure false := by rfl) : RunS X (.Assign [.Attribute o f pos'] value pos :: rest) D σ H :=
  st (SlX.ps_sl sE sE hsw) (h.here ok fun y G1 H1 g1 r1 => ho G1 H1 g1 _ fun x G2 H2 g2 r2 => ⟨s, C, dx, pa, vs, i, r2, hs G2 H2 (g1.trans g2), cs, t, q y G2 H2 (g1.trans g2) (R.mo g2.g r1)⟩)
/-! regular instances -/
theorem jfld {h dx : Addr} {fs : List (Str × V)} {v : V} (c : Cls X.K C) (n : NoAttr X.K C f) (he : J W X e σ G H (isV (.ref h))) (hh : H h = some (.ins C dx fs)) (nm : ¬ W.m h) (hl : fs.lookup f = some v) (hb : attributeBase e f X.env (eval e X.env) = eval e X.env := by rfl) : J W X (.Attribute e f pos) σ G H (isV v) :=
  J.pe (pe_fld sE hb) fun G1 H1 g Q k => he G1 H1 g _ fun x G2 H2 g2 r => ⟨h, C, dx, fs, v, r, (g.trans g2).gr.h _ _ nm hh, c, n, hl, k v G2 H2 g2 rfl⟩
theorem st_fld {h dx : Addr} {fs : List (Str × V)} (c : Cls X.K C) (n : NoAttr X.K C f) (ok : Ok W G H) (hv : J W X value σ G H R) (ho : J W X o σ G H (isV (.ref h))) (hh : H h = some (.ins C dx fs)) (nm : ¬ W.m h) (hl : fs.length < 1000)
    (q : ∀ v G' H', Gw W G H G' H' → R.p v G' → RunS X rest D σ (upd H' h (.ins C dx (putF f v fs)))) (hsw : swapsWith value (some (.Attribute o f pos')) pos.line X.env = pure false := by rfl) : RunS X (.Assign [.Attribute o f pos'] value pos :: rest) D σ H :=
  st (ps_fld sE sE hsw) (hv.here ok fun y G1 H1 g1 r1 => ho G1 H1 g1 _ fun x G2 H2 g2 r2 => ⟨h, C, dx, fs, r2, (g1.trans g2).gr.h _ _ nm hh, c, n, hl, q y G2 H2 (g1.trans g2) (R.mo g2.g r1)⟩)
/-! calls, as they stand -/
theorem gmethSl {Q : VK} {pl : Sem Bool} (cs : SCls X.K C) (K1 : KnM X.prog X.w X.K X.mg X.base k C m sp) (hr : Room k X.A) (q : RunE X o σ H fun v H1 => ∃ a dx vs, v = .ref a ∧ Slt H1 a C dx vs ∧ RunA X (e :: es) σ H1 fun ws H2 => sp (v :: ws) H2 Q E0)
    (hst : starEach (e :: es) X.env = (false, eval e X.env) :: starEach es X.env := by rfl) (hpl : (backTo pos (starEach es X.env)).any (·.1) = false := by rfl)
    (ht : eval (.Call (.Attribute o m apos) (e :: es) [] pos) X.env = (do
      let ov ← eval o X.env
      standAt apos.atName
      let (f, first) ← holding [ov] (getMethod ov m pl)
      callWith pos f first (backTo pos (starEach (e :: es) X.env)) (backToKw pos (keywordEach [] X.env))) := by rfl) : RunE X (.Call (.Attribute o m apos) (e :: es) [] pos) σ H Q := by
  obtain ⟨f, M, F⟩ := K1
  exact gE (SlX.pe_methSl (C := C) (E := E0) (pl := pl) sE cs M F hr pass0 sA hst hpl ht) q
theorem gmethSl0 {Q : VK} {pl : Sem Bool} (cs : SCls X.K C) (K1 : KnM X.prog X.w X.K X.mg X.base k C m sp) (hr : Room k X.A) (q : RunE X o σ H fun v H1 => ∃ a dx vs, v = .ref a ∧ Slt H1 a C dx vs ∧ sp [v] H1 Q E0)
    (ht : eval (.Call (.Attribute o m apos) [] [] pos) X.env = (do
      let ov ← eval o X.env
      standAt apos.atName
      let (f, first) ← holding [ov] (getMethod ov m pl)
      callWith pos f first (backTo pos (starEach [] X.env)) (backToKw pos (keywordEach [] X.env))) := by rfl) : RunE X (.Call (.Attribute o m apos) [] [] pos) σ H Q := by
  obtain ⟨f, M, F⟩ := K1
  exact gE (SlX.pe_methSl0 (C := C) (E := E0) (pl := pl) sE cs M F hr pass0 ht) q
theorem gmeth {Q : VK} {pl : Sem Bool} (c : Cls X.K C) (K1 : KnM X.prog X.w X.K X.mg X.base k C m sp) (hr : Room k X.A) (q : RunE X o σ H fun v H1 => ∃ a dx fs, v = .ref a ∧ H1 a = some (.ins C dx fs) ∧ fs.lookup m = none ∧ RunA X (e :: es) σ H1 fun ws H2 => sp (v :: ws) H2 Q E0)
    (hst : starEach (e :: es) X.env = (false, eval e X.env) :: starEach es X.env := by rfl) (hpl : (backTo pos (starEach es X.env)).any (·.1) = false := by rfl)
    (ht : eval (.Call (.Attribute o m apos) (e :: es) [] pos) X.env = (do
      let ov ← eval o X.env
      standAt apos.atName
      let (f, first) ← holding [ov] (getMethod ov m pl)
      callWith pos f first (backTo pos (starEach (e :: es) X.env)) (backToKw pos (keywordEach [] X.env))) := by rfl) : RunE X (.Call (.Attribute o m apos) (e :: es) [] pos) σ H Q := by
  obtain ⟨f, M, F⟩ := K1
  exact gE (pe_methR (C := C) (E := E0) (pl := pl) sE c M F hr pass0 sA hst hpl ht) q
theorem gmake {Q : VK} (K1 : KnI X.prog X.w X.K X.mg X.base k C sp) (hr : Room (k + 1) X.A) (hg : Gl X x) (hm : X.mg x = some (.ref C)) (q : RunA X (e :: es) σ H fun vs H1 => ∀ x dx, H1 x = none → H1 dx = none → dx ≠ x → sp (.ref x :: vs) (upd (upd H1 dx (.own x)) x (.ins C dx [])) (fun v H2 => v = .non ∧ Q (.ref x) H2) E0)
    (hdb : (x == ("__debug__" : Str)) = false := by decide) (he : starEach (e :: es) X.env = (false, eval e X.env) :: starEach es X.env := by rfl) (hpl : (backTo pos (starEach es X.env)).any (·.1) = false := by rfl) : RunE X (.Call (.Name x p) (e :: es) [] pos) σ H Q := by
  obtain ⟨f, fd, ps, hb, M, F⟩ := K1
  refine gE (pe_make (E := E0) M F hr hg hm hb .nil pass0 sA hdb he hpl) ?_
  show RunA X (e :: es) σ H fun vs H1 => ∀ x dx, H1 x = none → H1 dx = none → dx ≠ x → sp (.ref x :: (vs ++ [])) (upd (upd H1 dx (.own x)) x (.ins C dx [])) (fun v H2 => v = .non ∧ Q (.ref x) H2) E0
  have : (fun (vs : List V) H1 => ∀ x dx, H1 x = none → H1 dx = none → dx ≠ x → sp (.ref x :: (vs ++ [])) (upd (upd H1 dx (.own x)) x (.ins C dx [])) (fun v H2 => v = .non ∧ Q (.ref x) H2) E0) = fun vs H1 => ∀ x dx, H1 x = none → H1 dx = none → dx ≠ x → sp (.ref x :: vs) (upd (upd H1 dx (.own x)) x (.ins C dx [])) (fun v H2 => v = .non ∧ Q (.ref x) H2) E0 := by
    funext vs H1
    rw [List.append_nil]
  rw [this]
  exact q
/-- e.f, a property of a regular instance -/
theorem gprop {Q : VK} (c : Cls X.K C) (K1 : KnP X.prog X.w X.K X.mg X.base k C f sp) (hr : Room (k + 1) X.A) (q : RunE X e σ H fun v H1 => ∃ a dx fs, v = .ref a ∧ H1 a = some (.ins C dx fs) ∧ sp [.ref a] H1 Q E0) (hb : attributeBase e f X.env (eval e X.env) = eval e X.env := by rfl) : RunE X (.Attribute e f pos) σ H Q := by
  obtain ⟨p, g, fd, ps, hbd, po, F⟩ := K1
  exact gE (pe_prop (C := C) (E := E0) (dvs := []) sE c po F hr hbd .nil (fun _ _ _ _ _ _ _ z => z.elim) hb) q
/-- isinstance(x, C) of an instance with slots -/
theorem jisiSl {cn : Str} {q1 : Pos} (v : Vw X sc) (cs : SCls X.K C) (si : SIsi X.K C) (hk : PySem.W.kitOne X.K (.ref C) (.ref C) = some true) (h : J W X e σ G H (objR C Rs)) (hm : X.mg cn = some (.ref C)) (hd : (cn == ("__debug__" : Str)) = false := by decide) (hg : sc.names.lookup cn = some .globalImplicit := by rfl) (hg2 : sc.names.lookup ("isinstance" : Str) = some .globalImplicit := by rfl)
    (hs : starEach [e, .Name cn q1] X.env = [(false, eval e X.env), (false, eval (.Name cn q1) X.env)] := by rfl) (hs2 : starEach [.Name cn q1] X.env = [(false, eval (.Name cn q1) X.env)] := by rfl) : J W X (.Call (.Name "isinstance" p) [e, .Name cn q1] [] pos) σ G H (isB true) :=
  jcallB (SlX.call_isiSl (.ref C)) (v.gl _ hg2) v.b.isi (by decide +kernel) (ja h (ja (jglob (v.gl _ hg) hm (show RelV (.ref C) (.ref C) from rfl) hd) ja0 hs2) (by rw [hs, hs2])) (fun vs G1 H1 g pr Q k => by
    obtain ⟨x, y, rfl, ⟨a, dx, us, rfl, h1, h2, pr⟩, ry⟩ := PR.two pr
    obtain rfl : y = V.ref C := ry
    exact ⟨a, C, dx, us.map some, .ref C, true, rfl, rfl, fun w z => z, .inr ⟨g.s _ _ h1, g.s _ _ h2⟩, cs, si, hk, k _ G1 H1 g.rf rfl⟩) (he := by rw [hs, hs2]) (hpl := by rw [hs2]; rfl)
/-- x != y by the class's own == -/
def rNeOwn (K : PySem.W.Frag) (C : Addr) (sp : Sp) : L2.R2 := fun x y H Q => ∃ a dx vs b dy ws, x = .ref a ∧ y = .ref b ∧ Slt H a C dx vs ∧ Slt H b C dy ws ∧ sp [x, y] H (fun z H' => ∃ t, z = .bl t ∧ Q (.bl (!t)) H') E0
theorem op_neOwn {g : Addr} (hn : PySem.W.notFirst X.K C (.ref C) = true) (hm : PySem.W.mroIn X.K C (.type "object") = some true) (he : PySem.W.findIn X.K (.ref C) "__eq__" = some (some (.ref g))) (hf : PySem.W.isFn X.K (.ref g) = true) (hne : PySem.W.findIn X.K (.ref C) "__ne__" = some (some (.builtin "object.__ne__")))
    (F : FnR X.prog X.w X.K X.mg X.base CX0 k g sp) (hr : Room (k + 1) X.A) : OpR X (compareOp .NotEq) (rNeOwn X.K C sp) := by
  intro pins s σ H x y v u Q I rx ry h
  obtain ⟨a, dx, vs, b, dy, ws, rfl, rfl, ha, hb, q⟩ := h
  cases (show v = Value.ref a from rx)
  cases (show u = Value.ref b from ry)
  obtain ⟨sl, od, _, J1, _⟩ := SlX.slt_inst I ha
  obtain ⟨sl', od', _, J2, _⟩ := SlX.slt_inst I hb
  obtain ⟨m, hF⟩ := I.fr
  show wpAny _ _ (richCompare .NotEq (.ref a) (.ref b)) _ _ s
  refine rc_ne (by have := hr.un; omega) hF I.ok.mod.kin J1 J2 hn hm he hf hne (wpAny_call (codeAny_mono (F X.A.in1 X.stack s H [.ref a, .ref b] [.ref a, .ref b] _ E0 hr.in1 I.env0.in1 (.cons rfl (.cons rfl .nil)) q) fun r s' hq => ?_))
  cases r with
  | error e => exact hq.elim
  | ok fl =>
    cases fl with
    | ret u =>
      obtain ⟨z, H', I2, rz, t, ez, q⟩ := I.after hq
      subst ez
      exact ⟨t, rz, .bl (!t), H', I2, rfl, q⟩
    | next => exact False.elim hq
    | brk => exact False.elim hq
    | cont => exact False.elim hq
/-- with ctx as y: body -/
def tWith (C : Addr) (spE spX : Sp) (te : TE) (i : Nat) (tb : TS) : TS := fun D σ H => te σ H fun v H1 => ∃ t dx fs, v = .ref t ∧ H1 t = some (.ins C dx fs) ∧
  spE [.ref t] H1 (fun y H2 => tb { nx := fun σ' H3 => spX [.ref t, .non, .non, .non] H3 (fun _ H4 => D.nx σ' H4) E0, rt := fun _ _ => False } (σ.set i (some y)) H2) E0
theorem ps_withN {ctx : Expr} {y : Str} {py : Pos} {body : List Stmt} {te : TE} {tb : TS} {fe fx : Addr} {spE spX : Sp} {kE kX : Nat} (he : PE X ctx te) (ce : PySem.W.findIn X.K (.ref C) "__enter__" = some (some (.ref fe))) (hfe : PySem.W.isFn X.K (.ref fe) = true)
    (cx : PySem.W.findIn X.K (.ref C) "__exit__" = some (some (.ref fx))) (hfx : PySem.W.isFn X.K (.ref fx) = true) (FE : FnR X.prog X.w X.K X.mg X.base CX0 kE fe spE) (FX : FnR X.prog X.w X.K X.mg X.base CX0 kX fx spX) (hrE : Room kE X.A) (hrX : Room kX X.A)
    (hN : X.N.Nodup) (hi : X.N[i]? = some y) (hy : Loc X.env.scope y) (hfn : X.fn y = true) (hb : PSs X body tb) (hxe : X.xe = fun _ _ => False) : PS X (.With [⟨ctx, some (.Name y py)⟩] body pos) (tWith C spE spX te i tb) := by
  refine ⟨fun pins s σ H D I h => ?_⟩
  refine PySem.W.kw_execN (thn (he.run pins s σ H _ I h) fun u s1 ⟨v, H1, I1, rv, t, dx, fs, ev, ht, q⟩ => ?_)
  subst ev
  obtain rfl : u = Value.ref t := rv
  obtain ⟨mA, O, _⟩ := ins_get I1.hok ht
  obtain ⟨od, Ia, _⟩ := O.look
  obtain ⟨m, hF⟩ := I1.fr
  refine PySem.W.kw_inN hF I1.ok.mod.kin Ia ce hfe cx hfx ?_
  refine thn (wpAny_call (run_fnR (us := [.ref t]) (vs := [.ref t]) FE hrE pass0 I1 (.cons rfl .nil) q)) fun w2 s2 ⟨y2, H2, I2, r2, q2⟩ => ?_
  refine store_ok I2 hN hi hy r2 (fun s3 I3 => ?_) (.inl hfn)
  have hb3 := hb.run pins s3 (σ.set i (some y2)) H2 _ I3 q2
  rw [hxe] at hb3
  refine thn hb3 fun fl s4 h4 => ?_
  cases fl with
  | next =>
    obtain ⟨σ', H3, I4, q4⟩ := h4
    have hx4 := wpAny_call (run_fnR (us := [.ref t, .none, .none, .none]) (vs := [.ref t, .non, .non, .non]) FX hrX pass0 I4 (.cons rfl (.cons rfl (.cons rfl (.cons rfl .nil)))) q4)
    show wpAny _ _ _ _ _ s4
    exact thn hx4 fun u5 s5 ⟨z, H5, I5, r5, q5⟩ => ⟨σ', H5, I5, q5⟩
  | brk => obtain ⟨_, _, _, z⟩ := h4; exact z.elim
  | cont => obtain ⟨_, _, _, z⟩ := h4; exact z.elim
  | ret u5 => obtain ⟨_, _, _, _, _, z⟩ := h4; exact z.elim
end
end Lp
/-! ## Pl -/
set_option Elab.async false
set_option linter.all false
set_option maxRecDepth 100000
set_option maxHeartbeats 2000000
/-! The plain data, how it shows in the store; what is known of the text. -/
namespace Lp
open PySem PySem.Spec PyProof.Rows L2
open SlX (Slt SlO SCls Slot1 slH putS SIsi)
open ClX (CRead CMet)
def LET : Str := "abcdefghijklmnopqrstuvwxyz"
def PNT : Str := "."
def sBack : Str := "back"
def sKeep : Str := "keep"
def sKept : Str := "kept"
def sLies : Str := "lies"
def sRound : Str := "round"
/-- a manner -/
inductive Mn where
  | back
  | keep
  | seat (l : List (Option Nat))
def optR : Option Nat → Rel
  | none => isO
  | some n => isN n
def mnR : Mn → Rel
  | .back => isS sBack
  | .keep => isS sKeep
  | .seat l => tupR (l.map optR)
def waysD (ns : List Str) (ms : List Mn) : List (Str × Rel) := ns.zip (ms.map mnR)
def hsR (C : Addr) (ns ps : List Str) (ms : List Mn) : Rel := objR C [tupR (ns.map isS), tupR (ps.map isS), dctR (waysD ns ms)]
abbrev ordR (o : List Nat) : Rel := tupR (o.map isN)
def OkT (z sg : Str) : Prop := 1 ≤ z.length ∧ z.length ≤ 8 ∧ ∀ c ∈ z.cps.toList, c ∈ sg.cps.toList
structure OkN (ns : List Str) : Prop where
  l1 : 1 ≤ ns.length
  l6 : ns.length ≤ 6
  txt : ∀ z ∈ ns, OkT z LET
  asc : ns.Pairwise fun a b => a.cps.toList < b.cps.toList
structure OkP (k : Nat) (ps : List Str) : Prop where
  lk : k ≤ ps.length
  l6 : ps.length ≤ 6
  txt : ∀ z ∈ ps, z = "" ∨ OkT z (LET ++ PNT)
def OkM (k n : Nat) : Mn → Prop
  | .seat l => l.length = k ∧ ∀ b, some b ∈ l → b < n
  | _ => True
structure OkO (k n : Nat) (o : List Nat) : Prop where
  len : o.length = k
  nd : o.Nodup
  lt : ∀ b ∈ o, b < n
structure OkH (ns ps : List Str) (ms : List Mn) : Prop where
  n : OkN ns
  p : OkP ns.length ps
  ml : ms.length = ns.length
  m : ∀ m ∈ ms, OkM ns.length ps.length m

/-! ### what is known of the text -/
structure Txt (K : PySem.W.Frag) (mg : Str → Option Value) (w : World) (HC SC LC TC : Addr) : Prop where
  b : Bt mg
  letters : ∃ t, mg "LETTERS" = some (.str LET t)
  point : ∃ t, mg "POINT" = some (.str PNT t)
  maxl : ∃ t, mg "MAX_LETTERS" = some (.int 8 t)
  maxn : ∃ t, mg "MAX_NAMES" = some (.int 6 t)
  maxb : ∃ t, mg "MAX_BOXES" = some (.int 6 t)
  backh : ∃ t, mg "BACK_houses" = some (.str sBack t)
  backl : ∃ t, mg "BACK_learning" = some (.str sBack t)
  keep : ∃ t, mg "KEEP" = some (.str sKeep t)
  kept : ∃ t, mg "KEPT" = some (.str sKept t)
  lies : ∃ t, mg "LIES" = some (.str sLies t)
  round : ∃ t, mg "ROUND" = some (.str sRound t)
  is_number : Def K mg "is_number" s_is_number p_is_number
  is_text : Def K mg "is_text" s_is_text p_is_text
  are_names : Def K mg "are_names" s_are_names p_are_names
  are_plates : Def K mg "are_plates" s_are_plates p_are_plates
  is_manner : Def K mg "is_manner" s_is_manner p_is_manner
  are_manners : Def K mg "are_manners" s_are_manners p_are_manners
  check_name : Def K mg "check_name" s_check_name p_check_name
  check_box : Def K mg "check_box" s_check_box p_check_box
  with_manner : Def K mg "with_manner" s_with_manner p_with_manner
  is_order : Def K mg "is_order" s_is_order p_is_order
  check_order : Def K mg "check_order" s_check_order p_check_order
  does_match : Def K mg "does_match" s_does_match p_does_match
  does_fit : Def K mg "does_fit" s_does_fit p_does_fit
  owner_of : Def K mg "owner_of" s_owner_of p_owner_of
  handed_on : Def K mg "handed_on" s_handed_on p_handed_on
  way_of : Def K mg "way_of" s_way_of p_way_of
  answer_of : Def K mg "answer_of" s_answer_of p_answer_of
  learned : Def K mg "learned" s_learned p_learned
  behind_letter : Def K mg "behind_letter" s_behind_letter p_behind_letter
  exchanged : Def K mg "exchanged" s_exchanged p_exchanged
  is_operation : Def K mg "is_operation" s_is_operation p_is_operation
  mHouse : mg "House" = some (.ref HC)
  hs : SCls K HC
  hsi : SIsi K HC
  hfolk : ∃ p, Slot1 K HC "folk" p 0
  hsigns : ∃ p, Slot1 K HC "signs" p 1
  hways : ∃ p, Slot1 K HC "ways" p 2
  hkit : PySem.W.kitOne K (.ref HC) (.ref HC) = some true
  hnf : PySem.W.notFirst K HC (.ref HC) = true
  hmro : PySem.W.mroIn K HC (.type "object") = some true
  hne : PySem.W.findIn K (.ref HC) "__ne__" = some (some (.builtin "object.__ne__"))
  hinit : IDef K HC "House.__init__" s_House_init p_House_init
  hnames : PDef K HC "names" "House.names" s_House_names p_House_names
  hplates : PDef K HC "plates" "House.plates" s_House_plates p_House_plates
  hmanners : PDef K HC "manners" "House.manners" s_House_manners p_House_manners
  heq : MDef K HC "__eq__" "House.__eq__" s_House_eq p_House_eq
  mState : mg "State" = some (.ref SC)
  ss : SCls K SC
  sfacts : ∃ p, Slot1 K SC "facts" p 0
  spast : ∃ p, Slot1 K SC "past" p 1
  sshelf : ∃ p, Slot1 K SC "shelf" p 2
  sundone : ∃ p, Slot1 K SC "undone" p 3
  sinit : IDef K SC "State.__init__" s_State_init p_State_init
  scopied : MDef K SC "copied" "State.copied" s_State_copied p_State_copied
  sgo_on : MDef K SC "go_on" "State.go_on" s_State_go_on p_State_go_on
  sgo_back : MDef K SC "go_back" "State.go_back" s_State_go_back p_State_go_back
  sgo_again : MDef K SC "go_again" "State.go_again" s_State_go_again p_State_go_again
  mHall : mg "Hall" = some (.ref LC)
  ls : Cls K LC
  lstate : NoAttr K LC "state"
  linit : IDef K LC "Hall.__init__" s_Hall_init p_Hall_init
  lreplay : ∃ (mc : Value) (p g : Addr) (fd : FuncData), Fun K "replay" "Hall.replay" s_Hall_replay g fd ∧ Binds K fd p_Hall_replay [] ∧ CRead K LC mc ∧ CMet K LC mc "replay" p g
  lhouse_now : PDef K LC "house_now" "Hall.house_now" s_Hall_house_now p_Hall_house_now
  lliving : PDef K LC "living" "Hall.living" s_Hall_living p_Hall_living
  lteaches : PDef K LC "teaches" "Hall.teaches" s_Hall_teaches p_Hall_teaches
  lposted : PDef K LC "posted" "Hall.posted" s_Hall_posted p_Hall_posted
  lkept_under : PDef K LC "kept_under" "Hall.kept_under" s_Hall_kept_under p_Hall_kept_under
  lhistory : PDef K LC "history" "Hall.history" s_Hall_history p_Hall_history
  lenter : MDef K LC "enter" "Hall.enter" s_Hall_enter p_Hall_enter
  lpost : MDef K LC "post" "Hall.post" s_Hall_post p_Hall_post
  lswap : MDef K LC "swap" "Hall.swap" s_Hall_swap p_Hall_swap
  lshift : MDef K LC "shift" "Hall.shift" s_Hall_shift p_Hall_shift
  lteach : MDef K LC "teach" "Hall.teach" s_Hall_teach p_Hall_teach
  lkeep_as : MDef K LC "keep_as" "Hall.keep_as" s_Hall_keep_as p_Hall_keep_as
  lfetch : MDef K LC "fetch" "Hall.fetch" s_Hall_fetch p_Hall_fetch
  lundo : MDef K LC "undo" "Hall.undo" s_Hall_undo p_Hall_undo
  lredo : MDef K LC "redo" "Hall.redo" s_Hall_redo p_Hall_redo
  lexecute : MDef K LC "execute" "Hall.execute" s_Hall_execute p_Hall_execute
  lapply_all : MDef K LC "apply_all" "Hall.apply_all" s_Hall_apply_all p_Hall_apply_all
  mTrial : mg "Trial" = some (.ref TC)
  ts : Cls K TC
  ttested : NoAttr K TC "tested_hall"
  torigin : NoAttr K TC "origin"
  tfresh : NoAttr K TC "fresh"
  tchosen : NoAttr K TC "chosen"
  tinit : IDef K TC "Trial.__init__" s_Trial_init p_Trial_init
  thold : MDef K TC "hold" "Trial.hold" s_Trial_hold p_Trial_hold
  tenter : MDef K TC "__enter__" "Trial.__enter__" s_Trial_enter p_Trial_enter
  texit : MDef K TC "__exit__" "Trial.__exit__" s_Trial_exit p_Trial_exit
  sizes : ∃ (d : Addr) (es : Array DictEntry) (n : Nat), mg "SIZES" = some (.ref d) ∧ KDict K w d es n ∧
    ∀ z k, (z, k) ∈ [(("post" : Str), (3 : Int)), ("swap", 3), ("shift", 3), ("teach", 2), ("keep_as", 2), ("fetch", 2), ("undo", 1), ("redo", 1)] → ∃ t, PySem.W.nsIn K d z = some (some (.int k t))
  taken : Def K mg "_law_taken" s_law_taken p_law_taken
  pick : Def K mg "_law_pick" s_law_pick p_law_pick
  mixed : Def K mg "_law_mixed" s_law_mixed p_law_mixed
  goes : Def K mg "_law_goes" s_law_goes p_law_goes
  orders : Def K mg "_law_orders" s_law_orders p_law_orders
  way : Def K mg "_law_way" s_law_way p_law_way
  lettersL : Def K mg "_law_letters" s_law_letters p_law_letters
  scheme : Def K mg "_law_scheme" s_law_scheme p_law_scheme
  built : Def K mg "_law_built" s_law_built p_law_built
  rowhouse : Def K mg "_law_rowhouse" s_law_rowhouse p_law_rowhouse
  taught : Def K mg "_law_taught" s_law_taught p_law_taught
  swapped : Def K mg "_law_swapped" s_law_swapped p_law_swapped
  step : Def K mg "_law_step" s_law_step p_law_step
  shows : Def K mg "_law_shows" s_law_shows p_law_shows
theorem Sees.vw {X : Cx} {N C : List Str} {sc : Scope} (S : Sees X N C sc) (b : Bt X.mg) {k : Nat} (hr : Room k X.A) : Vw X sc := ⟨S.gl, b, S.calm, by have := hr.un; omega⟩
theorem SeesB.vw {X : Cx} {N : List Str} {sc : Scope} (S : SeesB X N sc) (b : Bt X.mg) {k : Nat} (hr : Room k X.A) : Vw X sc := ⟨S.gl, b, S.calm, by have := hr.un; omega⟩
section
variable {W : Md} {X : Cx} {σ : L2.St} {G H : Hp} {pos : Pos} {sc : Scope} {x : Str}
theorem vgS {z : Str} (v : Vw X sc) (h : ∃ t, X.mg x = some (.str z t)) (hg : sc.names.lookup x = some .globalImplicit := by rfl) (hd : (x == ("__debug__" : Str)) = false := by decide) : J W X (.Name x pos) σ G H (isS z) := by
  obtain ⟨t, e⟩ := h
  exact jglob (v.gl _ hg) e (show RelV (.str z) (.str z t) from ⟨t, rfl⟩) hd
theorem vgI {i : Int} (v : Vw X sc) (h : ∃ t, X.mg x = some (.int i t)) (hg : sc.names.lookup x = some .globalImplicit := by rfl) (hd : (x == ("__debug__" : Str)) = false := by decide) : J W X (.Name x pos) σ G H (isI i) := by
  obtain ⟨t, e⟩ := h
  exact jglob (v.gl _ hg) e (show RelV (.int i) (.int i t) from ⟨t, rfl⟩) hd
end
end Lp
/-! ## Bk -/
set_option Elab.async false
set_option linter.all false
set_option maxRecDepth 100000
set_option maxHeartbeats 2000000
/-! Comprehensions by a def's view; ifs. -/
namespace Lp
open PySem PySem.Spec PyProof.Rows L2
/-- a block's context within X -/
structure BX (X X' : Cx) (N : List Str) (sc : Scope) : Prop where
  S : SeesB X' N sc
  prog : X'.prog = X.prog
  w : X'.w = X.w
  K : X'.K = X.K
  mg : X'.mg = X.mg
  base : X'.base = X.base
  A : X'.A = X.A
section
variable {W : Md} {X X' : Cx} {σ : L2.St} {G H G' H' : Hp} {e a b c elt iter : Expr} {es : List Expr} {R R1 R2 : Rel} {Rs Ss : List Rel} {pos p p2 q apos tp xp yp zp : Pos} {N C : List Str} {sc scope : Scope} {rest : List Stmt} {D : Ends} {x y z : Str} {HC SC LC TC : Addr} {k : Nat}
theorem BX.txt (B : BX X X' N sc) (T : Txt X.K X.mg X.w HC SC LC TC) : Txt X'.K X'.mg X'.w HC SC LC TC := by rw [B.K, B.mg, B.w]; exact T
theorem BX.room (B : BX X X' N sc) (hr : Room k X.A) : Room k X'.A := by rw [B.A]; exact hr
theorem BX.vw (B : BX X X' N sc) (b : Bt X.mg) (hr : Room k X.A) : Vw X' sc := B.S.vw (by rw [B.mg]; exact b) (B.room hr)
theorem Sees.bx (S : Sees X N C sc) (s0 : Shared) (H0 : Hp) (scope : Scope) (cl : List (Str × Addr)) (Ca : Addr) (fp : List Addr) : BX X (X.blk s0 H0 scope (compEnvC scope cl Ca X.env) fp) (N ++ C) scope := ⟨S.blk s0 H0 scope cl Ca fp, rfl, rfl, rfl, rfl, rfl, rfl⟩
theorem BX.bx {X1 : Cx} (B : BX X X1 N sc) (s0 : Shared) (H0 : Hp) (scope : Scope) (cl : List (Str × Addr)) (Ca : Addr) (fp : List Addr) : BX X (X1.blk s0 H0 scope (compEnvC scope cl Ca X1.env) fp) N scope := ⟨B.S.blk s0 H0 scope cl Ca fp, B.prog, B.w, B.K, B.mg, B.base, B.A⟩
abbrev Own (scope : Scope) (x : Str) : Prop := scope.names.lookup x = some .local ∨ scope.names.lookup x = some .cell
theorem pgb0 {j : Nat} (nd : X.N.Nodup) (hj : X.N[j]? = some x) (hl : Own scope x) (s : Shared) (H : Hp) (Ca : Addr) (cl : List (Str × Addr)) (fp : List Addr) : PG (X.blk s H scope (compEnvC scope cl Ca X.env) fp) (.Name x tp) (gName j) :=
  pg_name (X := X.blk s H scope (compEnvC scope cl Ca X.env) fp) nd hj (hl.elim (fun h => .inl (relab_keep (kd := .local) (by decide) h)) (fun h => .inr (relab_keep (kd := .cell) (by decide) h)))
    (hl.elim (fun h => .inr (relab_keep (kd := .local) (by decide) h)) (fun h => .inl (by show (scope.names.lookup x == some .cell) = true; rw [h]; rfl)))
theorem Sees.pgb (S : Sees X N C sc) {j : Nat} (hj : (N ++ C)[j]? = some x) (hl : Own scope x) (s : Shared) (H : Hp) (Ca : Addr) (cl : List (Str × Addr)) (fp : List Addr) : PG (X.blk s H scope (compEnvC scope cl Ca X.env) fp) (.Name x tp) (gName j) :=
  pgb0 S.nd (by rw [S.hN]; exact hj) hl s H Ca cl fp
theorem SeesB.blkOk (S : SeesB X N sc) {own : List (Str × Nat)} (h : BlkOk N sc scope own) : BlkOk X.N X.env.scope scope own := by
  rw [S.hN]
  exact ⟨h.kind, h.uniq, h.ix, fun y hy e => S.cf _ (h.free y hy e), h.own⟩
theorem Sees.blkOk (S : Sees X N C sc) {own : List (Str × Nat)} (h : BlkOk (N ++ C) sc scope own) : BlkOk X.N X.env.scope scope own := by rw [S.hN, S.sce]; exact h
theorem slc {α : Type} (S : Sees X N C sc) (j : Nat) (xs : List α) (Ri Ro : α → Rel) (hi : JI W X (.Name x tp) iter σ G H (xs.map Ri)) (hn : xs.length ≤ 100000)
    (he : ∀ y v G1 H1, y ∈ xs → Gw W G H G1 H1 → (Ri y).p v G1 → ∀ X', BX X X' (N ++ C) scope → J W X' elt ((wipe σ [j]).set j (some v)) G1 H1 (Ro y))
    (hok : BlkOk (N ++ C) sc scope [(x, j)] := by exact ⟨rfl, by decide +kernel, by decide +kernel, by decide +kernel, by decide +kernel⟩) (hj : (N ++ C)[j]? = some x := by rfl) (hl : Own scope x := by first | exact Or.inl rfl | exact Or.inr rfl) (hf : ∀ x, foldedSetIterable iter X.env x = pure x := by intro _; rfl) :
    J W X (.ListComp elt [⟨.Name x tp, iter, [], 0⟩] scope pos) σ G H (lstR (xs.map Ro)) :=
  jlc S.calm S.nd xs Ri Ro hi hn (S.blkOk hok) (S.pgb hj hl) (fun y v G1 H1 hy g r s0 H0 Ca cl fp => he y v G1 H1 hy g r _ (S.bx s0 H0 scope cl Ca fp)) hf
theorem slci {α : Type} (S : Sees X N C sc) (j : Nat) (xs : List α) (Ri : α → Rel) (keep : α → Bool) (Ro : α → Rel) (hi : JI W X (.Name x tp) iter σ G H (xs.map Ri)) (hn : xs.length ≤ 100000)
    (ht : ∀ y v G1 H1, y ∈ xs → Gw W G H G1 H1 → (Ri y).p v G1 → ∀ X', BX X X' (N ++ C) scope → JT W X' c ((wipe σ [j]).set j (some v)) G1 H1 (keep y))
    (he : ∀ y v G1 H1, y ∈ xs → keep y = true → Gw W G H G1 H1 → (Ri y).p v G1 → ∀ X', BX X X' (N ++ C) scope → J W X' elt ((wipe σ [j]).set j (some v)) G1 H1 (Ro y))
    (hok : BlkOk (N ++ C) sc scope [(x, j)] := by exact ⟨rfl, by decide +kernel, by decide +kernel, by decide +kernel, by decide +kernel⟩) (hj : (N ++ C)[j]? = some x := by rfl) (hl : Own scope x := by first | exact Or.inl rfl | exact Or.inr rfl) (hf : ∀ x, foldedSetIterable iter X.env x = pure x := by intro _; rfl) :
    J W X (.ListComp elt [⟨.Name x tp, iter, [c], 0⟩] scope pos) σ G H (lstR ((xs.filter keep).map Ro)) :=
  jlci S.calm S.nd xs Ri keep Ro hi hn (S.blkOk hok) (S.pgb hj hl) (fun y v G1 H1 hy g r s0 H0 Ca cl fp => ht y v G1 H1 hy g r _ (S.bx s0 H0 scope cl Ca fp)) (fun y v G1 H1 hy hk g r s0 H0 Ca cl fp => he y v G1 H1 hy hk g r _ (S.bx s0 H0 scope cl Ca fp)) hf
/-- a comprehension with a test within a block -/
theorem bslci {α : Type} {X0 : Cx} (B : BX X0 X N sc) (j : Nat) (xs : List α) (Ri : α → Rel) (keep : α → Bool) (Ro : α → Rel) (hi : JI W X (.Name x tp) iter σ G H (xs.map Ri)) (hn : xs.length ≤ 100000)
    (ht : ∀ y v G1 H1, y ∈ xs → Gw W G H G1 H1 → (Ri y).p v G1 → ∀ X', BX X0 X' N scope → JT W X' c ((wipe σ [j]).set j (some v)) G1 H1 (keep y))
    (he : ∀ y v G1 H1, y ∈ xs → keep y = true → Gw W G H G1 H1 → (Ri y).p v G1 → ∀ X', BX X0 X' N scope → J W X' elt ((wipe σ [j]).set j (some v)) G1 H1 (Ro y))
    (hok : BlkOk N sc scope [(x, j)] := by exact ⟨rfl, by decide +kernel, by decide +kernel, by decide +kernel, by decide +kernel⟩) (hj : N[j]? = some x := by rfl) (hl : Own scope x := by first | exact Or.inl rfl | exact Or.inr rfl) (hf : ∀ x, foldedSetIterable iter X.env x = pure x := by intro _; rfl) :
    J W X (.ListComp elt [⟨.Name x tp, iter, [c], 0⟩] scope pos) σ G H (lstR ((xs.filter keep).map Ro)) :=
  jlci B.S.calm B.S.nd xs Ri keep Ro hi hn (B.S.blkOk hok) (pgb0 B.S.nd (by rw [B.S.hN]; exact hj) hl) (fun y v G1 H1 hy g r s0 H0 Ca cl fp => ht y v G1 H1 hy g r _ (B.bx s0 H0 scope cl Ca fp)) (fun y v G1 H1 hy hk g r s0 H0 Ca cl fp => he y v G1 H1 hy hk g r _ (B.bx s0 H0 scope cl Ca fp)) hf
theorem slc2 {α : Type} {kk : Nat} (S : Sees X N C sc) (i j : Nat) (xs : List α) (Ra Rb : α → Rel) (Ro : α → Rel) (hi : JI W X (.Tuple [.Name x xp, .Name y yp] kk tp) iter σ G H (xs.map fun x => pairT (Ra x) (Rb x))) (hn : xs.length ≤ 100000)
    (he : ∀ z v w G1 H1, z ∈ xs → Gw W G H G1 H1 → (Ra z).p v G1 → (Rb z).p w G1 → ∀ X', BX X X' (N ++ C) scope → J W X' elt (((wipe σ [i, j]).set i (some v)).set j (some w)) G1 H1 (Ro z))
    (hok : BlkOk (N ++ C) sc scope [(x, i), (y, j)] := by exact ⟨rfl, by decide +kernel, by decide +kernel, by decide +kernel, by decide +kernel⟩) (hj : (N ++ C)[i]? = some x := by rfl) (hj2 : (N ++ C)[j]? = some y := by rfl) (hl : Own scope x := by first | exact Or.inl rfl | exact Or.inr rfl) (hl2 : Own scope y := by first | exact Or.inl rfl | exact Or.inr rfl) (hij : i ≠ j := by decide) (hf : ∀ x, foldedSetIterable iter X.env x = pure x := by intro _; rfl) :
    J W X (.ListComp elt [⟨.Tuple [.Name x xp, .Name y yp] kk tp, iter, [], 0⟩] scope pos) σ G H (lstR (xs.map Ro)) :=
  jlc2 S.calm S.nd xs Ra Rb Ro hi hn hij (S.blkOk hok) (fun s H Ca cl fp => pg_tup (X := X.blk s H scope (compEnvC scope cl Ca X.env) fp) S.calm (pgs_cons (S.pgb hj hl s H Ca cl fp) (pgs_cons (S.pgb hj2 hl2 s H Ca cl fp) pgs_nil))) (fun z v w G1 H1 hz g r1 r2 s0 H0 Ca cl fp => he z v w G1 H1 hz g r1 r2 _ (S.bx s0 H0 scope cl Ca fp)) hf
theorem slc3 {α : Type} {kk : Nat} (S : Sees X N C sc) (i j l : Nat) (xs : List α) (Ra Rb Rc : α → Rel) (Ro : α → Rel) (hi : JI W X (.Tuple [.Name x xp, .Name y yp, .Name z zp] kk tp) iter σ G H (xs.map fun x => tupR [Ra x, Rb x, Rc x])) (hn : xs.length ≤ 100000)
    (he : ∀ t u v w G1 H1, t ∈ xs → Gw W G H G1 H1 → (Ra t).p u G1 → (Rb t).p v G1 → (Rc t).p w G1 → ∀ X', BX X X' (N ++ C) scope → J W X' elt ((((wipe σ [i, j, l]).set i (some u)).set j (some v)).set l (some w)) G1 H1 (Ro t))
    (hok : BlkOk (N ++ C) sc scope [(x, i), (y, j), (z, l)] := by exact ⟨rfl, by decide +kernel, by decide +kernel, by decide +kernel, by decide +kernel⟩) (hj : (N ++ C)[i]? = some x := by rfl) (hj2 : (N ++ C)[j]? = some y := by rfl) (hj3 : (N ++ C)[l]? = some z := by rfl) (hl : Own scope x := by first | exact Or.inl rfl | exact Or.inr rfl) (hl2 : Own scope y := by first | exact Or.inl rfl | exact Or.inr rfl) (hl3 : Own scope z := by first | exact Or.inl rfl | exact Or.inr rfl) (hij : i ≠ j := by decide) (hil : i ≠ l := by decide) (hjl : j ≠ l := by decide) (hf : ∀ x, foldedSetIterable iter X.env x = pure x := by intro _; rfl) :
    J W X (.ListComp elt [⟨.Tuple [.Name x xp, .Name y yp, .Name z zp] kk tp, iter, [], 0⟩] scope pos) σ G H (lstR (xs.map Ro)) :=
  jlc3 S.calm S.nd xs Ra Rb Rc Ro hi hn hij hil hjl (S.blkOk hok) (fun s H Ca cl fp => pg_tup (X := X.blk s H scope (compEnvC scope cl Ca X.env) fp) S.calm (pgs_cons (S.pgb hj hl s H Ca cl fp) (pgs_cons (S.pgb hj2 hl2 s H Ca cl fp) (pgs_cons (S.pgb hj3 hl3 s H Ca cl fp) pgs_nil)))) (fun t u v w G1 H1 hz g r1 r2 r3 s0 H0 Ca cl fp => he t u v w G1 H1 hz g r1 r2 r3 _ (S.bx s0 H0 scope cl Ca fp)) hf
/-! ifs whose test is known -/
theorem st_ifn {b1 : List Stmt} (s : Ok W G H) (h : JT W X c σ G H false) (k : ∀ G' H', Gw W G H G' H' → RunS X rest D σ H') : RunS X (.If c b1 [] pos :: rest) D σ H :=
  st_if s h (fun z => nomatch z) fun _ G' H' g => st0 (k G' H' g)
theorem st_ify {b1 b2 : List Stmt} (s : Ok W G H) (h : JT W X c σ G H true) (k : ∀ G' H', Gw W G H G' H' → RunS X b1 { D with nx := RunS X rest D } σ H') : RunS X (.If c b1 b2 pos :: rest) D σ H :=
  st_if s h (fun _ G' H' g => k G' H' g) fun z => nomatch z
theorem st_ife {b1 b2 : List Stmt} (s : Ok W G H) (h : JT W X c σ G H false) (k : ∀ G' H', Gw W G H G' H' → RunS X b2 { D with nx := RunS X rest D } σ H') : RunS X (.If c b1 b2 pos :: rest) D σ H :=
  st_if s h (fun z => nomatch z) fun _ G' H' g => k G' H' g
/-- if c: return e -/
theorem st_ifr {t : Bool} {pr : Pos} (s : Ok W G H) (h : JT W X c σ G H t) (h1 : t = true → J W X e σ G H R) (q : t = true → ∀ v G' H', Gw W G H G' H' → R.p v G' → D.rt v H') (k : t = false → ∀ G' H', Gw W G H G' H' → RunS X rest D σ H') : RunS X (.If c [.Return (some e) pr] [] pos :: rest) D σ H :=
  st_if s h (fun z G' H' g => st_ret g.ok ((h1 z).mono g) fun v G2 H2 g2 r => q z v G2 H2 (g.trans g2) r) fun z G' H' g => st0 (k z G' H' g)
end
end Lp
/-! ## Ut -/
set_option Elab.async false
set_option linter.all false
set_option maxRecDepth 100000
set_option maxHeartbeats 2000000
/-! Small facts: cuts, places, sorted texts, names that differ. -/
namespace Lp
open PySem PySem.Spec PyProof.Rows L2
theorem mv {W : Md} {G H G' H' : Hp} {R : Rel} {v : V} (g : Gw W G H G' H') (r : R.p v G) : R.p v G' := R.mo g.g r
theorem cutR_from {Rs : List Rel} {k : Nat} : cutR Rs (some (k : Int)) none = Rs.drop k := by
  unfold cutR
  rw [HT.sIx_nat, HT.sIx_none]
  rcases Nat.le_total k Rs.length with h | h
  · rw [Nat.min_eq_left h, List.take_of_length_le (by simp)]
  · rw [Nat.min_eq_right h, List.drop_of_length_le h, List.drop_of_length_le (Nat.le_refl _)]
    simp
theorem cutR_to {Rs : List Rel} {k : Nat} : cutR Rs none (some (k : Int)) = Rs.take k := by
  unfold cutR
  rw [HT.sIx_nat, HT.sIx_none]
  rcases Nat.le_total k Rs.length with h | h
  · rw [Nat.min_eq_left h]; simp
  · rw [Nat.min_eq_right h, List.take_of_length_le h]
    simp
theorem cutR_but {Rs : List Rel} : cutR Rs none (some (-1)) = Rs.dropLast := by
  unfold cutR
  rw [HT.sIx_none]
  have e : HT.sIx Rs.length Rs.length (some (-1)) = Rs.length - 1 := by
    show (if (-1 : Int) < 0 then ((-1 : Int) + (Rs.length : Int)).toNat else min (-1 : Int).toNat Rs.length) = Rs.length - 1
    rw [if_pos (by decide)]
    omega
  rw [e, List.dropLast_eq_take]
  simp
theorem atI_nat {α : Type} {xs : List α} {i : Nat} : atI xs (i : Int) = xs[i]? := by
  unfold atI ixN
  rw [if_pos (by omega)]
  by_cases h : i < xs.length
  · rw [if_pos (by omega)]
    simp
  · rw [if_neg (by omega)]
    simp [List.getElem?_eq_none (Nat.le_of_not_lt h)]
theorem atI_last {α : Type} {xs : List α} {x : α} : atI (xs ++ [x]) (-1) = some x := by
  unfold atI ixN
  rw [if_neg (by decide), List.length_append]
  rw [if_pos (by simp; omega)]
  have : ((-1 : Int) + ((xs.length + [x].length : Nat) : Int)).toNat = xs.length := by simp; omega
  show (xs ++ [x])[((-1 : Int) + ((xs.length + [x].length : Nat) : Int)).toNat]? = some x
  rw [this]
  simp
theorem atI_map {α β : Type} {f : α → β} {xs : List α} {i : Int} {x : α} (h : atI xs i = some x) : atI (xs.map f) i = some (f x) := by
  unfold atI at h ⊢
  rw [List.length_map]
  cases e : ixN xs.length i with
  | none => rw [e] at h; cases h
  | some j =>
    rw [e] at h
    show (xs.map f)[j]? = _
    rw [List.getElem?_map]
    have h' : xs[j]? = some x := h
    rw [h']
    rfl
theorem getD_map {α β : Type} {f : α → β} {xs : List α} {i : Nat} {d : β} {a : α} (h : i < xs.length) : (xs.map f).getD i d = f (xs.getD i a) := by
  rw [List.getD_eq_getElem?_getD, List.getD_eq_getElem?_getD, List.getElem?_map, List.getElem?_eq_getElem h]
  rfl
theorem map_range_congr {α : Type} {n : Nat} {f g : Nat → α} (h : ∀ i, i < n → f i = g i) : (List.range n).map f = (List.range n).map g := List.map_congr_left fun i hi => h i (List.mem_range.mp hi)
theorem JI.eq {W : Md} {X : Cx} {tg iter : Expr} {σ : L2.St} {G H : Hp} {Rs Ss : List Rel} (h : JI W X tg iter σ G H Rs) (e : Rs = Ss) : JI W X tg iter σ G H Ss := e ▸ h
theorem JA.eq {W : Md} {X : Cx} {es : List Expr} {σ : L2.St} {G H : Hp} {Rs Ss : List Rel} (h : JA W X es σ G H Rs) (e : Rs = Ss) : JA W X es σ G H Ss := e ▸ h
/-! sorted texts -/
theorem risingS_pw : ∀ (p : Str) (l : List Str), risingS p l = true → ∀ x ∈ l.head?, ¬ x.cps.toList < p.cps.toList
  | _, [], _, _, h => by cases h
  | p, x :: r, h, y, hy => by
    simp only [risingS, Bool.and_eq_true, Bool.not_eq_true'] at h
    simp only [List.head?_cons, Option.mem_def, Option.some.injEq] at hy
    subst hy
    rw [ltCps_eq] at h
    simpa using h.1
theorem le_tr {a b c : List Nat} (h1 : ¬ b < a) (h2 : ¬ c < b) : ¬ c < a := by
  rw [List.not_lt] at *
  exact List.le_trans h1 h2
theorem rising_pw : ∀ (l : List Str) (p : Str), risingS p l = true → (p :: l).Pairwise fun a b => ¬ b.cps.toList < a.cps.toList
  | [], p, _ => by simp
  | x :: r, p, h => by
    simp only [risingS, Bool.and_eq_true, Bool.not_eq_true'] at h
    have ih := rising_pw r x h.2
    have hx : ¬ x.cps.toList < p.cps.toList := by
      have := h.1
      rw [ltCps_eq] at this
      simpa using this
    rw [List.pairwise_cons]
    refine ⟨fun y hy => ?_, ih⟩
    rcases List.mem_cons.mp hy with e | hy
    · rw [e]; exact hx
    · exact le_tr hx ((List.pairwise_cons.mp ih).1 y hy)
theorem sorted_pw {l : List Str} (h : sortedS l = true) : l.Pairwise fun a b => ¬ b.cps.toList < a.cps.toList := by
  cases l with
  | nil => simp
  | cons x r => exact rising_pw r x h
theorem str_ext {a b : Str} (h : a.cps.toList = b.cps.toList) : a = b := by
  cases a; cases b
  simpa using Array.toList_inj.mp h
theorem str_antisymm {a b : Str} (h1 : ¬ b.cps.toList < a.cps.toList) (h2 : ¬ a.cps.toList < b.cps.toList) : a = b := by
  rw [List.not_lt] at h1 h2
  exact str_ext (List.le_antisymm h1 h2)
theorem asc_nodup {ns : List Str} (h : ns.Pairwise fun a b => a.cps.toList < b.cps.toList) : ns.Nodup := h.imp fun {a b} h e => by
  subst e
  exact List.lt_irrefl _ h
theorem asc_weak {ns : List Str} (h : ns.Pairwise fun a b => a.cps.toList < b.cps.toList) : ns.Pairwise fun a b => ¬ b.cps.toList < a.cps.toList := h.imp fun {a b} h e => List.lt_irrefl _ (List.lt_trans h e)
/-- sorted of what ascends already -/
theorem sorted_same {ys ns : List Str} (hp : ys.Perm ns) (hs : sortedS ys = true) (h : ns.Pairwise fun a b => a.cps.toList < b.cps.toList) : ys = ns :=
  List.Perm.eq_of_pairwise (fun a b _ _ h1 h2 => str_antisymm h1 h2) (sorted_pw hs) (asc_weak h) hp
/-- sorted of names that differ -/
theorem sorted_asc {ys : List Str} (hs : sortedS ys = true) (hd : ys.Nodup) : ys.Pairwise fun a b => a.cps.toList < b.cps.toList := by
  have h := (sorted_pw hs).and hd
  exact h.imp fun {a b} ⟨h1, h2⟩ => by
    rcases Classical.em (a.cps.toList < b.cps.toList) with q | q
    · exact q
    · exact absurd (str_antisymm h1 q) h2
/-! lookups in a row of names -/
theorem waysD_keys {ns : List Str} {ms : List Mn} (h : ms.length = ns.length) : (waysD ns ms).map (·.1) = ns := by
  unfold waysD
  rw [List.map_fst_zip (by simp [h])]
theorem waysD_len {ns : List Str} {ms : List Mn} (h : ms.length = ns.length) : (waysD ns ms).length = ns.length := by
  unfold waysD
  simp [h]
theorem zip_lookup {β : Type} : ∀ {ns : List Str} {bs : List β} {i : Nat} {b : β}, ns.Nodup → (hi : i < ns.length) → bs[i]? = some b → (ns.zip bs).lookup ns[i] = some b
  | n :: ns, c :: bs, 0, b, _, _, e => by
    simp at e
    subst e
    simp
  | n :: ns, c :: bs, i + 1, b, hd, hi, e => by
    have hd' := List.nodup_cons.mp hd
    have hi' : i < ns.length := by simpa using hi
    have hne : (ns[i] == n) = false := by
      simp only [beq_eq_false_iff_ne]
      intro z
      exact hd'.1 (z ▸ List.getElem_mem hi')
    show ((n, c) :: ns.zip bs).lookup ns[i] = some b
    rw [List.lookup_cons, hne]
    exact zip_lookup hd'.2 hi' (by simpa using e)
  | [], _, _, _, _, hi, _ => absurd hi (by simp)
  | _ :: _, [], _, _, _, _, e => by simp at e
theorem waysD_at {ns : List Str} {ms : List Mn} {i : Nat} (hd : ns.Nodup) (h : ms.length = ns.length) (hi : i < ns.length) : (waysD ns ms).lookup ns[i] = some (mnR (ms[i]'(by omega))) := by
  unfold waysD
  exact zip_lookup hd hi (by rw [List.getElem?_map, List.getElem?_eq_getElem (by omega)]; rfl)
theorem waysD_mem {ns : List Str} {ms : List Mn} {n : Str} (hd : ns.Nodup) (h : ms.length = ns.length) (hn : n ∈ ns) : ∃ m ∈ ms, (waysD ns ms).lookup n = some (mnR m) := by
  obtain ⟨i, hi, e⟩ := List.getElem_of_mem hn
  subst e
  exact ⟨ms[i]'(by omega), List.getElem_mem _, waysD_at hd h hi⟩
theorem isB_of {b : Bool} {v : V} {G : Hp} (h : b = true) (r : (isB b).p v G) : (isB true).p v G := h ▸ r
theorem all_true {α : Type} (l : List α) : (l.all fun _ => true) = true := by simp
theorem okT_str {z sg : Str} (h : OkT z sg) (hs : ∀ c ∈ sg.cps.toList, c < 0x110000) : PyData.strOk z = true := by
  unfold PyData.strOk
  rw [← Array.all_toList, List.all_eq_true]
  exact fun c hc => decide_eq_true (hs c (h.2.2 c hc))
theorem let_lt : ∀ c ∈ LET.cps.toList, c < 0x110000 := by decide +kernel
theorem letp_lt : ∀ c ∈ (LET ++ PNT).cps.toList, c < 0x110000 := by decide +kernel
theorem okN_str {ns : List Str} (h : OkN ns) {z : Str} (hz : z ∈ ns) : PyData.strOk z = true := okT_str (h.txt z hz) let_lt
theorem okP_str {k : Nat} {ps : List Str} (h : OkP k ps) {z : Str} (hz : z ∈ ps) : PyData.strOk z = true := by
  rcases h.txt z hz with e | e
  · subst e; decide +kernel
  · exact okT_str e letp_lt
abbrev strsD (zs : List Str) : PyData := .tuple (zs.map .str)
theorem dat_strs {zs : List Str} : Dat (tupR (zs.map isS)) (strsD zs) := dat_tup (dats_map (fun _ => dat_str) zs)
theorem pd_strs {zs : List Str} (h : ∀ z ∈ zs, PyData.strOk z = true) : Pd 2 (strsD zs) := Pd.tup (Pd.map fun z hz => Pd.str (h z hz))
end Lp
/-! ## D1 -/
set_option Elab.async false
set_option linter.all false
set_option maxRecDepth 100000
set_option maxHeartbeats 2000000
/-! houses: numbers, texts, rows of names, plates, manners. -/
namespace Lp
open PySem PySem.Spec PyProof.Rows L2
variable {P : Program} {w : World} {K : PySem.W.Frag} {mg : Str → Option Value} {base : Heap} {HC SC LC TC : Addr}
theorem kn_is_number (T : Txt K mg w HC SC LC TC) : Kn P w K mg base 1 "is_number" (spP (fun _ : Int × Int × Int => True) (fun i => [isI i.1, isI i.2.1, isI i.2.2]) (fun i => isB (decide (i.2.1 ≤ i.1) && decide (i.1 ≤ i.2.2)))) := by
  refine kn_body T.is_number sc_is_number lo_is_number (fun _ => rfl) ?_
  rintro X S rfl rfl rfl rfl rfl hx hr vs G H Q ⟨n, lo, hi⟩ s - pr k
  obtain ⟨v1, v2, v3, rfl, r1, r2, r3⟩ := PR.three pr
  have v := S.vw T.b hr
  refine st_ret s (R := isB (true && (!false && (decide (lo ≤ n) && decide (n ≤ hi))))) (jand (visi v (nm S 0 r1) (fun _ _ _ => ty_int) (n := "int") (by decide +kernel) T.b.int (by decide +kernel)) fun _ =>
    jand (jnot (visi v (nm S 0 r1) (fun _ _ _ => ty_int) (n := "bool") (by decide +kernel) T.b.bool (by decide +kernel))) fun _ => j1 (jchain op_le op_le (nm S 1 r2) (nm S 0 r1) (nm S 2 r3) tw_le tw_le)) ?_
  intro v G' H' g r
  exact k v G' H' g (by simpa using r)
theorem kn_is_text (T : Txt K mg w HC SC LC TC) : Kn P w K mg base 2 "is_text" (spP (fun i : Str × Str => OkT i.1 i.2) (fun i => [isS i.1, isS i.2]) (fun i => isB true)) := by
  refine kn_body T.is_text sc_is_text lo_is_text (fun _ => rfl) ?_
  rintro X S rfl rfl rfl rfl rfl hx hr vs G H Q ⟨z, sg⟩ s ⟨h1, h8, hc⟩ pr k
  obtain ⟨v1, v2, rfl, r1, r2⟩ := PR.two pr
  have v := S.vw T.b hr
  have h1' : 1 ≤ z.length := h1
  have h8' : z.length ≤ 8 := h8
  refine st_ifn s (JT.eq (t := !true || (!(decide ((1 : Int) ≤ (z.length : Int)) && decide ((z.length : Int) ≤ 8)))) (jtw (jwo (jtnot (jtval (visi v (nm S 0 r1) (fun _ _ _ => ty_str) (n := "str") (by decide +kernel) T.b.str (by decide +kernel)))) fun _ => jw1o (jtnot (jtchain op_le op_le jint (vlenS v (nm S 0 r1) (by omega)) (vgI v T.maxl) tw_le tw_le)))) (by simp; omega)) fun G1 H1 g1 => ?_
  refine st_ret g1.ok (R := isB ((z.cps.toList).all fun c => decide (c ∈ sg.cps.toList))) (vallM v (slc S 2 _ (fun c => isS ⟨#[c]⟩) _ (jiStr (nm S 0 (Rel.mo _ g1.g r1))) (by simpa using (show z.cps.size ≤ 100000 from Nat.le_trans h8 (by decide))) fun c u G2 H2 hc g2 r X' B => ?_)) ?_
  · exact jcmp op_in_sign (nb B.S 2 r) (nb B.S 1 (Rel.mo _ (g1.trans g2).g r2)) tw_sign
  · intro u G2 H2 g2 r
    refine k u G2 H2 (g1.trans g2) ?_
    have : ((z.cps.toList).all fun c => decide (c ∈ sg.cps.toList)) = true := by
      rw [List.all_eq_true]
      exact fun c h => decide_eq_true (hc c h)
    rw [this] at r
    exact r
theorem kn_are_names (T : Txt K mg w HC SC LC TC) : Kn P w K mg base 3 "are_names" (spP (fun ns : List Str => OkN ns) (fun ns => [tupR (ns.map isS)]) (fun _ => isB true)) := by
  refine kn_body T.are_names sc_are_names lo_are_names (fun _ => rfl) ?_
  rintro X S rfl rfl rfl rfl rfl hx hr vs G H Q ns s ok pr k
  obtain ⟨v1, rfl, r1⟩ := PR.one pr
  have v := S.vw T.b hr
  have h1 := ok.l1
  have h6 := ok.l6
  have hall : (ns.all fun _ => true) = true := by simp
  refine st_ifn s (JT.eq (t := !(decide ((1 : Int) ≤ ((ns.map isS).length : Int)) && decide (((ns.map isS).length : Int) ≤ 6)) || !(ns.all fun _ => true)) (jtw (jwo (jtnot (jtchain op_le op_le jint (vlenT v (nm S 0 r1)) (vgI v T.maxn) tw_le tw_le)) fun _ => jw1o (jtnot (jtval (vallM v (slc S 1 ns isS (fun _ => isB true) (jiT (nm S 0 r1)) (by omega) fun z u G2 H2 hz g2 r X' B => ?_)))))) (by simp; omega)) fun G1 H1 g1 => ?_
  · exact jcall (kn_is_text (B.txt T)) (B.S.gl _ rfl) (B.room hr) (z, LET) (ok.txt z hz) (ja (nb B.S 1 r) (ja (vgS (B.vw T.b hr) (B.txt T).letters) ja0))
  have hd : (cutR (ns.map isS) (some ((1 : Nat) : Int)) none) = (ns.drop 1).map isS := by rw [cutR_from, List.map_drop]
  refine st_ret g1.ok (R := isB ((List.range (ns.length - 1)).all fun i => decide ((ns.getD i "").cps.toList < ((ns.drop 1).getD i "").cps.toList))) (vallM v (slc2 S 2 3 (List.range (ns.length - 1)) (fun i => isS (ns.getD i "")) (fun i => isS ((ns.drop 1).getD i "")) _ ((jiZipT v (nm S 0 (mv g1 r1)) ((jslT (nm S 0 (mv g1 r1)) (jo1 jint) jo0).eq (congrArg tupR hd))).eq ?_) (by simp; omega) fun i u u2 G2 H2 hi g2 ra rb X' B => ?_)) ?_
  · rw [List.length_map, List.length_map, List.length_drop, show min ns.length (ns.length - 1) = ns.length - 1 by omega]
    exact map_range_congr fun i hi => by rw [getD_map (a := ("" : Str)) (by omega), getD_map (a := ("" : Str)) (by rw [List.length_drop]; omega)]
  · exact jcmp op_lt_str (nb B.S 2 ra) (nb B.S 3 rb) tw_ltS
  · intro u G2 H2 g2 r
    refine k u G2 H2 (g1.trans g2) ?_
    have : ((List.range (ns.length - 1)).all fun i => decide ((ns.getD i "").cps.toList < ((ns.drop 1).getD i "").cps.toList)) = true := by
      rw [List.all_eq_true]
      intro i hi
      have hi' : i < ns.length - 1 := List.mem_range.mp hi
      refine decide_eq_true ?_
      rw [List.getD_eq_getElem?_getD, List.getD_eq_getElem?_getD, List.getElem?_drop, List.getElem?_eq_getElem (by omega), List.getElem?_eq_getElem (by omega)]
      exact List.pairwise_iff_getElem.mp ok.asc i (1 + i) (by omega) (by omega) (by omega)
    rw [this] at r
    exact r
theorem kn_are_plates (T : Txt K mg w HC SC LC TC) : Kn P w K mg base 3 "are_plates" (spP (fun i : Nat × List Str => OkP i.1 i.2) (fun i => [tupR (i.2.map isS), isN i.1]) (fun _ => isB true)) := by
  refine kn_body T.are_plates sc_are_plates lo_are_plates (fun _ => rfl) ?_
  rintro X S rfl rfl rfl rfl rfl hx hr vs G H Q ⟨n, ps⟩ s ok pr k
  obtain ⟨v1, v2, rfl, r1, r2⟩ := PR.two pr
  have v := S.vw T.b hr
  have h1 : n ≤ ps.length := ok.lk
  have h6 : ps.length ≤ 6 := ok.l6
  refine st_ifn s (JT.eq (t := !(decide ((n : Int) ≤ ((ps.map isS).length : Int)) && decide (((ps.map isS).length : Int) ≤ 6))) (jtnot (jtchain op_le op_le (nm S 1 r2) (vlenT v (nm S 0 r1)) (vgI v T.maxb) tw_le tw_le)) (by simp; omega)) fun G1 H1 g1 => ?_
  refine st_ret g1.ok (R := isB (ps.all fun z => decide (V.str z = V.str "") || true)) (vallM v (slc S 2 ps isS _ (jiT (nm S 0 (mv g1 r1))) (by omega) fun z u G2 H2 hz g2 r X' B => ?_)) ?_
  · refine jor (jcmp op_eq (nb B.S 2 r) jstr (tw_eq rfl)) fun he => j1 ?_
    have hz' : OkT z (LET ++ PNT) := (ok.txt z hz).resolve_left fun q => by simp [q] at he
    exact jcall (kn_is_text (B.txt T)) (B.S.gl _ rfl) (B.room hr) (z, LET ++ PNT) hz' (ja (nb B.S 2 r) (ja (jaddS (vgS (B.vw T.b hr) (B.txt T).letters) (vgS (B.vw T.b hr) (B.txt T).point) (by decide +kernel)) ja0))
  · intro u G2 H2 g2 r
    exact k u G2 H2 (g1.trans g2) (isB_of (by simp) r)
theorem kn_is_manner (T : Txt K mg w HC SC LC TC) : Kn P w K mg base 3 "is_manner" (spP (fun i : Mn × Nat × Nat => OkM i.2.1 i.2.2 i.1 ∧ i.2.1 ≤ 100 ∧ i.2.2 ≤ 100) (fun i => [mnR i.1, isN i.2.1, isN i.2.2]) (fun _ => isB true)) := by
  refine kn_body T.is_manner sc_is_manner lo_is_manner (fun _ => rfl) ?_
  rintro X S rfl rfl rfl rfl rfl hx hr vs G H Q ⟨m, kk, n⟩ s ⟨ok, hk1, hn1⟩ pr k
  obtain ⟨v1, v2, v3, rfl, r1, r2, r3⟩ := PR.three pr
  have v := S.vw T.b hr
  have word : ∀ z : Str, (z = sBack ∨ z = sKeep) → (isS z).p v1 G → RunS X (defBody s_is_manner) { nx := fun _ H' => Q .non H', rt := Q } (start (L_is_manner ++ C_is_manner) [v1, v2, v3]) H := fun z hz rz => by
    refine st_ifr s (jtnot (jtval (visi v (nm S 0 rz) (fun _ _ _ => ty_str) (n := "tuple") (r := false) (by decide +kernel) T.b.tuple (by decide +kernel)))) (fun _ => jcmp op_in_seq (nm S 0 rz) ((jtup (ja (vgS v T.backh) (ja (vgS v T.keep) ja0)) (by decide)).eq (congrArg tupR (show [isS sBack, isS sKeep] = [V.str sBack, V.str sKeep].map isV from rfl))) (tw_in rfl rfl)) (fun _ u G2 H2 g2 r => k u G2 H2 g2 ?_) fun z => nomatch z
    have : inV (V.str z) [V.str sBack, V.str sKeep] = true := by
      rcases hz with e | e <;> (rw [e]; decide +kernel)
    rw [this] at r
    exact r
  cases m with
  | back => exact word sBack (.inl rfl) r1
  | keep => exact word sKeep (.inr rfl) r1
  | seat l =>
    obtain ⟨hl, hb⟩ := (show l.length = kk ∧ ∀ b, some b ∈ l → b < n from ok)
    have hk1' : kk ≤ 100 := hk1
    have r1' : (tupR (l.map optR)).p v1 G := r1
    refine st_ifn s (jtnot (jtval (visi v (nm S 0 r1') (fun _ _ _ => ty_tup) (n := "tuple") (r := true) (by decide +kernel) T.b.tuple (by decide +kernel)))) fun G1 H1 g1 => ?_
    refine st_ifn g1.ok (JT.eq (t := !decide (V.int ((l.map optR).length : Int) = V.int (kk : Int))) (jtcmp op_ne (vlenT v (nm S 0 (mv g1 r1'))) (nm S 1 (mv g1 r2)) (tw_ne rfl)) (by simp [hl])) fun G2 H2 g2 => ?_
    have g12 := g1.trans g2
    refine st_ret g2.ok (R := isB (l.all fun _ => true)) (vallM v (slc S 3 l optR _ (jiT (nm S 0 (mv g12 r1'))) (by omega) fun o u G3 H3 ho g3 r X' B => ?_)) ?_
    · cases o with
      | none => exact (jor (t := true) (u := true) ((jcmp op_isN (nb B.S 3 (R := isO) r) jnon tw_isN).eq (by simp)) fun z => nomatch z).eq rfl
      | some b =>
        have hb' := hb b ho
        refine (jor (t := false) (u := true) ((jcmp op_isN (nb B.S 3 (R := isN b) r) jnon tw_isN).eq (by simp)) fun _ => j1 ?_).eq rfl
        refine (jcall (kn_is_number (B.txt T)) (B.S.gl _ rfl) (B.room (hr.mono (by decide))) ((b : Int), (0 : Int), (n : Int) - 1) trivial (ja (nb B.S 3 (R := isN b) r) (ja jint (ja (jsub (nb B.S 2 (mv (g12.trans g3) r3)) jint) ja0)))).eq ?_
        have : (decide ((0 : Int) ≤ (b : Int)) && decide ((b : Int) ≤ (n : Int) - 1)) = true := by simp; omega
        show isB (decide ((0 : Int) ≤ (b : Int)) && decide ((b : Int) ≤ (n : Int) - 1)) = isB true
        rw [this]
    · intro u G3 H3 g3 r
      exact k u G3 H3 (g12.trans g3) (isB_of (by simp) r)
theorem kn_are_manners (T : Txt K mg w HC SC LC TC) : Kn P w K mg base 4 "are_manners" (spP (fun i : List Str × List Mn × Nat => OkN i.1 ∧ i.2.1.length = i.1.length ∧ i.2.2 ≤ 100 ∧ ∀ m ∈ i.2.1, OkM i.1.length i.2.2 m) (fun i => [dctR (waysD i.1 i.2.1), tupR (i.1.map isS), isN i.2.2]) (fun _ => isB true)) := by
  refine kn_body T.are_manners sc_are_manners lo_are_manners (fun _ => rfl) ?_
  rintro X S rfl rfl rfl rfl rfl hx hr vs G H Q ⟨ns, ms, n⟩ s ⟨ok, hl, hn, hm⟩ pr k
  obtain ⟨v1, v2, v3, rfl, r1, r2, r3⟩ := PR.three pr
  have v := S.vw T.b hr
  have hl' : ms.length = ns.length := hl
  have h6 : ns.length ≤ 6 := ok.l6
  have hd := asc_nodup ok.asc
  refine st_ifn s (jtcmp (op_neD (by have := v.un; omega)) (vtupL v (vsortedD v (nm S 0 r1) (R' := lstR (ns.map isS)) (by rw [waysD_len hl']; omega) fun ys hp hs u G1 q => ?_)) (nm S 1 r2) (tw_neS dat_strs dat_strs (pd_strs fun z hz => okN_str ok hz))) fun G1 H1 g1 => ?_
  · rw [waysD_keys hl'] at hp
    rw [← sorted_same hp hs ok.asc]
    exact q
  refine st_ret g1.ok (R := isB (ns.all fun _ => true)) (vallM v (slc S 3 ns isS _ (jiT (nm S 1 (mv g1 r2))) (by omega) fun z u G2 H2 hz g2 r X' B => ?_)) ?_
  · obtain ⟨m, hm1, hm2⟩ := waysD_mem hd hl' hz
    refine jcall (kn_is_manner (B.txt T)) (B.S.gl _ rfl) (B.room hr) (m, (ns.map isS).length, n) ⟨by have := hm m hm1; rw [List.length_map]; exact this, by rw [List.length_map]; show ns.length ≤ 100; omega, hn⟩ (ja (vixD (B.vw T.b hr) (nb B.S 0 (mv (g1.trans g2) r1)) (nb B.S 3 r) hm2) (ja (vlenT (B.vw T.b hr) (nb B.S 1 (mv (g1.trans g2) r2))) (ja (nb B.S 2 (mv (g1.trans g2) r3)) ja0)))
  · intro u G2 H2 g2 r
    exact k u G2 H2 (g1.trans g2) (isB_of (by simp) r)
end Lp
/-! ## Dx -/
set_option Elab.async false
set_option linter.all false
set_option maxRecDepth 100000
set_option maxHeartbeats 2000000
/-! Dicts: displays, comprehensions, | and ==; slots written. -/
namespace Lp
open PySem PySem.Spec PyProof.Rows L2
open SlX (Slt SlO SCls Slot1 slH putS SIsi)
section
variable {W : Md} {X : Cx} {σ : L2.St} {G H G' H' G0 H0 : Hp} {e a b kx vx iter : Expr} {R R1 R2 : Rel} {Rs Ss : List Rel} {pos p p2 tp : Pos} {N C : List Str} {sc scope : Scope} {x : Str}
/-- {k: v} -/
theorem jd1 {z : Str} (ha : J W X a σ G H (isS z)) (hb : J W X b σ G H R) : J W X (.Dict [some a] [b] pos) σ G H (dctR [(z, R)]) :=
  J.pe (pe_disp (pps_cons sE sE pps_nil) (by rfl) (by rfl) (by simp) (by simp)) fun G1 H1 g Q k d hd => by
    have nm := g.nm hd
    have g1 := g.raw (o := .dK []) hd
    refine ha G1 _ (g.trans g1) _ fun v G2 H2 g2 r => hb G2 H2 ((g.trans g1).trans g2) _ fun u G3 H3 g3 ru => ?_
    have g13 : Gw W G1 H1 G3 H3 := (g1.trans g2).trans g3
    have hd1 : upd H1 d (.dK []) d = some (.dK []) := upd_same
    have h3 := g3.gr.h _ _ nm (g2.gr.h _ _ nm hd1)
    have n3 : G3 d = none := (g2.trans g3).out hd1 (sub_none g.s hd)
    obtain rfl : v = V.str z := r
    refine ⟨h3, [(Sum.inr z, u)], rfl, by simp, ?_⟩
    have s3 := g13.set' (o := .dK [(Sum.inr z, u)]) nm n3 hd
    obtain ⟨f, sf⟩ := s3.fin nm upd_same n3 hd
    exact k _ _ _ f ⟨d, _, rfl, upd_same, .cons ⟨rfl, R.mo sf ru⟩ .nil⟩
/-- {kf x: .. for x in ..}, the keys differ -/
theorem jdc {α : Type} (S : Sees X N C sc) (j : Nat) (xs : List α) (Ri : α → Rel) (kf : α → Str) (Ro : α → Rel) (hi : JI W X (.Name x tp) iter σ G H (xs.map Ri)) (hn : xs.length ≤ 100000) (hd : (xs.map kf).Nodup)
    (hk : ∀ y v G1 H1, y ∈ xs → Gw W G H G1 H1 → (Ri y).p v G1 → ∀ X', BX X X' (N ++ C) scope → J W X' kx ((wipe σ [j]).set j (some v)) G1 H1 (isS (kf y)))
    (he : ∀ y v G1 H1, y ∈ xs → Gw W G H G1 H1 → (Ri y).p v G1 → ∀ X', BX X X' (N ++ C) scope → J W X' vx ((wipe σ [j]).set j (some v)) G1 H1 (Ro y))
    (hok : BlkOk (N ++ C) sc scope [(x, j)] := by exact ⟨rfl, by decide +kernel, by decide +kernel, by decide +kernel, by decide +kernel⟩) (hj : (N ++ C)[j]? = some x := by rfl) (hl : Own scope x := by first | exact Or.inl rfl | exact Or.inr rfl) (hf : ∀ x, foldedSetIterable iter X.env x = pure x := by intro _; rfl) :
    J W X (.DictComp kx vx [⟨.Name x tp, iter, [], 0⟩] scope pos) σ G H (dctR (xs.map fun y => (kf y, Ro y))) := by
  refine J.pe (pe_dc (own := [(x, j)]) (g := gName j) (tt := tYes) (tk := bE X scope kx) (tv := bE X scope vx) S.calm S.nd sI (S.blkOk hok) (S.pgb hj hl) (fun _ _ _ _ _ => pts_nil) sbE sbE hf) ?_
  intro G1 H1 g1 Q q
  refine hi G1 H1 g1 _ fun Jt Gc Y G2 H2 g2 w hG gv D hD => ?_
  rw [List.length_map] at w
  have nm := g2.nm hD
  refine ⟨fun i m H' => m = xs.length - i ∧ i ≤ xs.length ∧ ∃ G' kvs, Gw W G2 H2 G' H' ∧ H' D = some (.dK kvs) ∧ G' D = none ∧ PD G' kvs ((xs.take i).map fun y => (kf y, Ro y)), ⟨xs.length, by simp, Nat.zero_le _, G2, [], g2.raw hD, upd_same, sub_none g2.s hD, .nil⟩, ?_⟩
  rintro i m H' ⟨rfl, hi', G', kvs, g3, hacc, gD, pa⟩
  have hGc := hG H' (g3.g.trans g3.s)
  by_cases hix : i < xs.length
  · refine .inr ⟨w.goes i H' hix hGc, fun H4 => i + 1 ≤ xs.length ∧ ∃ G' kvs, Gw W G2 H2 G' H4 ∧ H4 D = some (.dK kvs) ∧ G' D = none ∧ PD G' kvs ((xs.take (i + 1)).map fun y => (kf y, Ro y)), fun H4 ⟨h1, h2⟩ => ⟨xs.length - (i + 1), by omega, rfl, h1, h2⟩, fun v H'' yv => ?_⟩
    have ex : xs[i]? = some xs[i] := List.getElem?_eq_getElem hix
    obtain ⟨Gv, gv0, rv⟩ := gv i (Ri xs[i]) G' H' v H'' (by rw [List.getElem?_map, ex]; rfl) g3.g g3.s (w.yields i H' v H'' hix hGc yv)
    have et : xs.take (i + 1) = xs.take i ++ [xs[i]] := by rw [List.take_succ, ex]; rfl
    have hacc2 := gv0.H _ _ hacc
    have gD2 := gv0.out hacc gD
    have g3' := g3.trans (Gw.up0 g3.ok gv0)
    refine ⟨wipe_one, ?_⟩
    show bE X scope kx _ H'' _
    intro s0 Hb Ca cl fp
    have hkk := hk xs[i] v Gv H'' (List.getElem_mem hix) ((g1.trans g2).trans g3') rv _ (S.bx s0 Hb scope cl Ca fp)
    refine hkk.here g3'.ok fun u G4 H4 g4 ru => ?_
    intro s1 Hb1 Ca1 cl1 fp1
    have hee := he xs[i] v G4 H4 (List.getElem_mem hix) (((g1.trans g2).trans g3').trans g4) ((Ri xs[i]).mo g4.g rv) _ (S.bx s1 Hb1 scope cl1 Ca1 fp1)
    refine hee.here g4.ok fun y G5 H5 g5 ry => ?_
    obtain rfl : u = V.str (kf xs[i]) := ru
    have g45 := g4.trans g5
    have h5 := g45.gr.h _ _ nm hacc2
    have d5 := g45.out hacc2 gD2
    have pl : kvs.length = i := by rw [pa.len, List.length_map, List.length_take]; omega
    have new : valV kvs (Sum.inr (kf xs[i])) = none := by
      have := pa.valN (x := kf xs[i])
      cases hv : valV kvs (Sum.inr (kf xs[i])) with
      | none => rfl
      | some z =>
        exfalso
        rw [hv] at this
        have hm : (List.lookup (kf xs[i]) ((xs.take i).map fun y => (kf y, Ro y))).isSome = true := this.symm
        rw [Option.isSome_iff_exists] at hm
        obtain ⟨R0, hR⟩ := hm
        obtain ⟨l1, l2, e1, e2⟩ := List.lookup_eq_some_iff.mp hR
        have hmem : (kf xs[i], R0) ∈ (xs.take i).map fun y => (kf y, Ro y) := by rw [e1]; simp
        obtain ⟨y, hy, ey⟩ := List.mem_map.mp hmem
        have ek : kf y = kf xs[i] := congrArg Prod.fst ey
        obtain ⟨t, ht, et2⟩ := List.getElem_of_mem hy
        have ht' : t < i := by rw [List.length_take] at ht; omega
        have e3 : xs[t]'(by omega) = y := by rw [← et2, List.getElem_take]
        have := (List.pairwise_iff_getElem.mp hd) t i (by simpa using (by omega : t < xs.length)) (by simpa using hix) ht'
        rw [List.getElem_map, List.getElem_map, e3] at this
        exact this ek
    refine ⟨kvs, Sum.inr (kf xs[i]), rfl, h5, by rw [sizeLine_eq]; omega, by omega, G5, _, (g3'.trans g45).set' nm d5 hD, upd_same, d5, ?_⟩
    rw [putK_new _ new, et, List.map_append]
    have pa5 := PD.mo (gv0.g.trans g45.g) pa
    have ap : ∀ {k1 : List (Key × V)} {d1 : List (Str × Rel)} {k2 : List (Key × V)} {d2 : List (Str × Rel)}, PD G5 k1 d1 → PD G5 k2 d2 → PD G5 (k1 ++ k2) (d1 ++ d2) := by
      intro k1 d1 k2 d2 h1 h2
      induction h1 with
      | nil => exact h2
      | cons r t ih => exact .cons r ih
    exact ap pa5 (.cons ⟨rfl, ry⟩ .nil)
  · have e : i = xs.length := by omega
    subst e
    refine .inl ⟨w.stops H' hGc, ?_⟩
    obtain ⟨g4, s4⟩ := Gw.fin g3 nm hacc gD hD
    refine q _ _ H' (g2.trans g4) ⟨D, kvs, rfl, upd_same, ?_⟩
    rw [List.take_length] at pa
    exact PD.mo s4 pa
theorem PD.put {G : Hp} {n : Str} {v : V} {m : Mn} : ∀ {kvs : List (Key × V)} {ns : List Str} {ms : List Mn} {i : Nat}, PD G kvs (waysD ns ms) → ns.Nodup → ms.length = ns.length → (hi : i < ns.length) → ns[i] = n → (mnR m).p v G →
    PD G (kvs.map fun kv => if kv.1 = Sum.inr n then (kv.1, v) else kv) (waysD ns (ms.set i m))
  | kvs, [], ms, i, _, _, _, hi, _, _ => absurd hi (by simp)
  | kvs, n' :: ns, [], i, _, _, hl, _, _, _ => by simp at hl
  | [], n' :: ns, m' :: ms, i, h, _, _, _, _, _ => nomatch h
  | kv :: kvs, n' :: ns, m' :: ms, 0, .cons r t, hd, hl, hi, e, hm => by
    obtain rfl : n' = n := e
    have hd' := List.nodup_cons.mp hd
    have ek : kv.1 = Sum.inr n' := r.1
    rw [List.map_cons, if_pos ek]
    have same : (kvs.map fun kv => if kv.1 = Sum.inr n' then (kv.1, v) else kv) = kvs := by
      have hk := PD.keys t
      refine (List.map_congr_left fun kv hkv => ?_).trans (List.map_id _)
      have h1 : kv.1 ∈ kvs.map (·.1) := List.mem_map_of_mem hkv
      rw [hk] at h1
      rw [if_neg]
      · rfl
      · intro z
        rw [z] at h1
        obtain ⟨y, hy, ey⟩ := List.mem_map.mp h1
        have hl' : ms.length = ns.length := by simpa using hl
        have h2 : (ns.zip (ms.map mnR)).map (·.1) = ns := waysD_keys hl'
        have hy2 : y ∈ ns := by rw [← h2]; exact hy
        exact hd'.1 (Sum.inr.inj ey ▸ hy2)
    rw [same]
    exact .cons ⟨ek, hm⟩ t
  | kv :: kvs, n' :: ns, m' :: ms, i + 1, .cons r t, hd, hl, hi, e, hm => by
    have hd' := List.nodup_cons.mp hd
    have hi' : i < ns.length := by simpa using hi
    have e' : ns[i] = n := by simpa using e
    have hne : ¬ kv.1 = Sum.inr n := by
      intro z
      have ek : kv.1 = Sum.inr n' := r.1
      rw [ek] at z
      have : n' = n := Sum.inr.inj z
      exact hd'.1 (this ▸ e' ▸ List.getElem_mem hi')
    rw [List.map_cons, if_neg hne]
    exact .cons r (PD.put t hd'.2 (by simpa using hl) hi' e' hm)
theorem putK_ways {G : Hp} {v : V} {m : Mn} {kvs : List (Key × V)} {ns : List Str} {ms : List Mn} {i : Nat} (pd : PD G kvs (waysD ns ms)) (hd : ns.Nodup) (hl : ms.length = ns.length) (hi : i < ns.length) (hm : (mnR m).p v G) : PD G (putK kvs (Sum.inr ns[i]) v) (waysD ns (ms.set i m)) := by
  have h : (kvs.any fun kv => decide (kv.1 = Sum.inr ns[i])) = true := by
    rw [valV_any, pd.valN, waysD_at hd hl hi]
    rfl
  unfold putK
  rw [if_pos h]
  exact PD.put pd hd hl hi rfl hm
/-- ways | {name: manner} -/
theorem tw_or1 {ns : List Str} {ms : List Mn} {i : Nat} {m : Mn} (hd : ns.Nodup) (hl : ms.length = ns.length) (hi : i < ns.length) (hz : ns.length ≤ 1000) : Tw W rOr1 G H (dctR (waysD ns ms)) (dctR [(ns[i], mnR m)]) (dctR (waysD ns (ms.set i m))) := fun x y G1 H1 g ⟨a, kvs, e, h, pd⟩ ⟨b, kvs2, e2, h2, pd2⟩ Q k => by
  cases pd2 with
  | cons r t =>
    cases t
    rename_i kv
    obtain ⟨k1, v1⟩ := kv
    obtain ⟨ek, rv⟩ := r
    obtain rfl : k1 = Sum.inr ns[i] := ek
    refine ⟨a, b, kvs, _, v1, e, e2, g.s _ _ h, g.s _ _ h2, ?_, fun p hp => ?_⟩
    · rw [pd.len, waysD_len hl]; omega
    · refine k _ _ _ (g.nw hp) ⟨p, _, rfl, upd_same, PD.mo (Gr.new (m := no) g.s hp).g (putK_ways pd hd hl hi rv)⟩
/-- the same data on both sides -/
theorem tw_eqDict {K : PySem.W.Frag} {ds : List (Str × Rel)} (hd : (ds.map (·.1)).Nodup) (h : ∀ q ∈ ds, ∃ d n, Dat q.2 d ∧ Pd n d ∧ n ≤ 64) : Tw W (rEqDict K) G H (dctR ds) (dctR ds) (isB true) := fun x y G1 H1 g ⟨a, ks, e, ha, pd⟩ ⟨b, ls, e2, hb, pd2⟩ Q k => by
  refine ⟨a, b, ks, ls, e, e2, g.s _ _ ha, g.s _ _ hb, by rw [pd.len, pd2.len], fun p hp => ?_, k _ G1 H1 g.rf rfl⟩
  have key : ∀ {ks : List (Key × V)} {ds : List (Str × Rel)}, PD G1 ks ds → ∀ p ∈ ks, ∃ q ∈ ds, p.1 = Sum.inr q.1 ∧ q.2.p p.2 G1 := by
    intro ks ds hh
    induction hh with
    | nil => intro p hp; cases hp
    | @cons x1 y1 xs ys r t ih =>
      intro p hp
      rcases List.mem_cons.mp hp with z | z
      · subst z
        exact ⟨y1, by simp, r⟩
      · obtain ⟨q, hq, h2⟩ := ih p z
        exact ⟨q, by simp [hq], h2⟩
  obtain ⟨q, hq, ek, rq⟩ := key pd p hp
  obtain ⟨d, n, hD, hP, hn⟩ := h q hq
  have hl : ds.lookup q.1 = some q.2 := by
    have gen : ∀ (ds : List (Str × Rel)), (ds.map (·.1)).Nodup → ∀ q ∈ ds, ds.lookup q.1 = some q.2 := by
      intro ds
      induction ds with
      | nil => intro _ q hq; cases hq
      | cons y ys ih =>
        intro hd q hq
        have hd' := List.nodup_cons.mp (show ((y.1) :: ys.map (·.1)).Nodup from hd)
        obtain ⟨y1, y2⟩ := y
        rcases List.mem_cons.mp hq with z | z
        · subst z; simp
        · have : (q.1 == y1) = false := by
            simp only [beq_eq_false_iff_ne]
            intro w
            have h3 : q.1 ∈ ys.map (·.1) := List.mem_map_of_mem z
            rw [w] at h3
            exact hd'.1 h3
          rw [List.lookup_cons, this]
          exact ih hd'.2 q z
    exact gen ds hd q hq
  obtain ⟨u, hu, ru⟩ := pd2.val hl
  refine ⟨u, by rw [ek]; exact hu, d, d, hD K _ G1 H1 g.s rq, hD K _ G1 H1 g.s ru, hP.sh hn, hP.sh hn, hP.eq⟩
/-! slots written -/
theorem Gr.slH {m : Addr → Prop} {s C dx : Addr} {vs : List (Option V)} (x : Gr m G0 H0 G H) (n1 : G s = none) (n2 : G dx = none) (m1 : m s) (m2 : m dx) : Gr m G0 H0 G (slH H s C dx vs) where
  g := x.g
  s := fun c u e => by rw [SlX.slH_ne (ne_of_none e n1) (ne_of_none e n2)]; exact x.s _ _ e
  h := fun c u z e => by
    rw [SlX.slH_ne (fun q => z (by rw [q]; exact m1)) (fun q => z (by rw [q]; exact m2))]
    exact x.h c u z e
  n := x.n
  t := fun c u e => by
    by_cases h1 : c = s
    · rw [h1]; exact ⟨_, upd_same⟩
    · by_cases h2 : c = dx
      · subst h2
        exact ⟨.xd [], by unfold SlX.slH; rw [upd_ne h1, upd_same]⟩
      · rw [SlX.slH_ne h1 h2]; exact x.t c u e
end
end Lp
/-! ## D2 -/
set_option Elab.async false
set_option linter.all false
set_option maxRecDepth 100000
set_option maxHeartbeats 2000000
/-! House, the checks, with_manner. -/
namespace Lp
open PySem PySem.Spec PyProof.Rows L2
open SlX (Slt SlO SCls Slot1 slH putS SIsi)
variable {P : Program} {w : World} {K : PySem.W.Frag} {mg : Str → Option Value} {base : Heap} {HC SC LC TC : Addr}
abbrev hsRs (ns ps : List Str) (ms : List Mn) : List Rel := [tupR (ns.map isS), tupR (ps.map isS), dctR (waysD ns ms)]
def spHI (HC : Addr) : Sp := fun vs H Q _ => ∃ x dx G ns ps ms vn vp vm, vs = [.ref x, vn, vp, vm] ∧ Same G H ∧ H x = some (.ins HC dx []) ∧ H dx = some (.own x) ∧ dx ≠ x ∧ G x = none ∧ G dx = none ∧ OkH ns ps ms ∧
  (tupR (ns.map isS)).p vn G ∧ (tupR (ps.map isS)).p vp G ∧ (dctR (waysD ns ms)).p vm G ∧
  ∀ G' H' us, Gr (fun a => a = x ∨ a = dx) G H G' H' → H' x = some (SlO x HC dx (us.map some)) → H' dx = some (.xd []) → PR G' us (hsRs ns ps ms) → Q .non H'
theorem waysD_eq {ns : List Str} {ms : List Mn} (hd : ns.Nodup) (hl : ms.length = ns.length) : waysD ns ms = ns.map fun n => (n, ((waysD ns ms).lookup n).getD isO) := by
  apply List.ext_getElem
  · rw [List.length_map, waysD_len hl]
  · intro i h1 h2
    have hi : i < ns.length := by simpa using h2
    rw [List.getElem_map, waysD_at hd hl hi]
    have hz : (ns.zip (ms.map mnR))[i]'h1 = (ns[i], (ms.map mnR)[i]'(by rw [List.length_map]; omega)) := List.getElem_zip
    exact hz.trans (by rw [List.getElem_map]; rfl)
theorem kn_House_init (T : Txt K mg w HC SC LC TC) : KnI P w K mg base 5 HC (spHI HC) := by
  refine kni_body T.hinit sc_House_init lo_House_init (fun vs H Q E ⟨x, dx, G, ns, ps, ms, vn, vp, vm, e, _⟩ => by rw [e]; rfl) ?_
  rintro X S rfl rfl rfl rfl rfl hx hr vs H Q E ⟨x, dx, G, ns, ps, ms, vn, vp, vm, rfl, s0, hX, hD, ne, nx, nd, ok, rn, rp, rm, q⟩
  have v := S.vw T.b hr
  have s := Ok.pure s0
  obtain ⟨pf, hf⟩ := T.hfolk
  obtain ⟨psg, hsg⟩ := T.hsigns
  obtain ⟨pw, hw⟩ := T.hways
  have hd := asc_nodup ok.n.asc
  have h6 := ok.n.l6
  have p6 := ok.p.l6
  refine st_ifn s (jtnot (jtval (jcall (kn_are_names T) (S.gl _ rfl) (hr.mono (by decide)) ns ok.n (ja (nm S 1 rn) ja0)))) fun G1 H1 g1 => ?_
  refine st_ifn g1.ok (jtnot (jtval (jcall (kn_are_plates T) (S.gl _ rfl) (hr.mono (by decide)) ((ns.map isS).length, ps) (by rw [List.length_map]; exact ok.p) (ja (nm S 2 (mv g1 rp)) (ja (vlenT v (nm S 1 (mv g1 rn))) ja0))))) fun G2 H2 g2 => ?_
  have g12 := g1.trans g2
  refine st_ifn g2.ok (jtnot (jtval (jcall (kn_are_manners T) (S.gl _ rfl) (hr.mono (by decide)) (ns, ms, (ps.map isS).length) ⟨ok.n, ok.ml, by rw [List.length_map]; show ps.length ≤ 100; omega, by rw [List.length_map]; exact ok.m⟩ (ja (nm S 3 (mv g12 rm)) (ja (nm S 1 (mv g12 rn)) (ja (vlenT v (nm S 2 (mv g12 rp))) ja0)))))) fun G3 H3 g3 => ?_
  have g13 := g12.trans g3
  refine st_slot (C := HC) (s := x) (dx := dx) (vs := []) T.hs hf g3.ok (nm S 1 (mv g13 rn)) (nm S 0 rfl) (fun G4 H4 g4 => .inl ⟨(g13.trans g4).to0.H _ _ hX, rfl⟩) fun u4 G4 H4 g4 r4 => ?_
  have g14 := g13.trans g4
  have nx4 := g14.out hX nx
  have nd4 := g14.out hD nd
  have gr4 : Gr (fun a => a = x ∨ a = dx) G H G4 (slH H4 x HC dx (putS 0 u4 [])) := Gr.slH g14.to0.up nx4 nd4 (.inl rfl) (.inr rfl)
  refine st_slot (C := HC) (s := x) (dx := dx) (vs := putS 0 u4 []) T.hs hsg (Ok.pure gr4.s) (nm S 2 (mv g14 rp)) (nm S 0 rfl) (fun G5 H5 g5 => .inr ⟨g5.to0.H _ _ upd_same, g5.to0.H _ _ (by unfold SlX.slH; rw [upd_ne ne, upd_same])⟩) fun u5 G5 H5 g5 r5 => ?_
  have gr5 : Gr (fun a => a = x ∨ a = dx) G H G5 (slH H5 x HC dx (putS 1 u5 (putS 0 u4 []))) := Gr.slH (gr4.to g5.to0) (g5.out upd_same nx4) (g5.out (show slH H4 x HC dx (putS 0 u4 []) dx = some (.xd []) by unfold SlX.slH; rw [upd_ne ne, upd_same]) nd4) (.inl rfl) (.inr rfl)
  have rn5 : (tupR (ns.map isS)).p vn G5 := Rel.mo _ gr5.g rn
  have rm5 : (dctR (waysD ns ms)).p vm G5 := Rel.mo _ gr5.g rm
  have e1 := waysD_eq hd ok.ml
  refine st_slot (C := HC) (s := x) (dx := dx) (vs := putS 1 u5 (putS 0 u4 [])) (R := dctR (waysD ns ms)) T.hs hw (Ok.pure gr5.s) (J.eq (R := dctR (ns.map fun n => (n, ((waysD ns ms).lookup n).getD isO))) (jdc S 4 ns isS id (fun n => ((waysD ns ms).lookup n).getD isO) (jiT (nm S 1 rn5)) (by omega) (by rw [List.map_id]; exact hd) (fun z u G6 H6 hz g6 r X' B => nb B.S 4 r) (fun z u G6 H6 hz g6 r X' B => ?_)) (congrArg dctR e1.symm)) (nm S 0 rfl) (fun G6 H6 g6 => .inr ⟨g6.to0.H _ _ upd_same, g6.to0.H _ _ (by unfold SlX.slH; rw [upd_ne ne, upd_same])⟩) fun u6 G6 H6 g6 r6 => ?_
  · obtain ⟨m, hm, hl⟩ := waysD_mem hd ok.ml hz
    exact (vixD (B.vw T.b hr) (nb B.S 3 (mv g6 rm5)) (nb B.S 4 r) hl).eq (by rw [hl]; rfl)
  have nx5 := gr5.out hX nx
  have nd5 := gr5.out hD nd
  have gr6 : Gr (fun a => a = x ∨ a = dx) G H G6 (slH H6 x HC dx (putS 2 u6 (putS 1 u5 (putS 0 u4 [])))) := Gr.slH (gr5.to g6.to0) (g6.out upd_same nx5) (g6.out (show slH H5 x HC dx (putS 1 u5 (putS 0 u4 [])) dx = some (.xd []) by unfold SlX.slH; rw [upd_ne ne, upd_same]) nd5) (.inl rfl) (.inr rfl)
  refine st0 (q G6 _ [u4, u5, u6] gr6 upd_same (by unfold SlX.slH; rw [upd_ne ne, upd_same]) (.cons (Rel.mo _ (g5.g.trans g6.g) r4) (.cons (Rel.mo _ g6.g r5) (.cons r6 .nil))))
theorem kn_House_names (T : Txt K mg w HC SC LC TC) : KnP P w K mg base 1 HC "names" (spP (fun _ : List Str × List Str × List Mn => True) (fun i => [hsR HC i.1 i.2.1 i.2.2]) (fun i => tupR (i.1.map isS))) := by
  refine knp_body T.hnames sc_House_names lo_House_names (fun vs H Q E ⟨i, G, _, _, pr, _⟩ => by rw [pr.len]; rfl) ?_
  rintro X S rfl rfl rfl rfl rfl hx hr vs H Q E ⟨⟨ns, ps, ms⟩, G, s, _, pr, k⟩
  obtain ⟨v1, rfl, r1⟩ := PR.one pr
  obtain ⟨pf, hf⟩ := T.hfolk
  exact st_ret s (jslot T.hs hf isO_fin (nm S 0 r1) rfl) fun u G1 H1 g r => k u G1 H1 g r
theorem kn_House_plates (T : Txt K mg w HC SC LC TC) : KnP P w K mg base 1 HC "plates" (spP (fun _ : List Str × List Str × List Mn => True) (fun i => [hsR HC i.1 i.2.1 i.2.2]) (fun i => tupR (i.2.1.map isS))) := by
  refine knp_body T.hplates sc_House_plates lo_House_plates (fun vs H Q E ⟨i, G, _, _, pr, _⟩ => by rw [pr.len]; rfl) ?_
  rintro X S rfl rfl rfl rfl rfl hx hr vs H Q E ⟨⟨ns, ps, ms⟩, G, s, _, pr, k⟩
  obtain ⟨v1, rfl, r1⟩ := PR.one pr
  obtain ⟨pf, hf⟩ := T.hsigns
  exact st_ret s (jslot T.hs hf isO_fin (nm S 0 r1) rfl) fun u G1 H1 g r => k u G1 H1 g r
theorem kn_House_manners (T : Txt K mg w HC SC LC TC) : KnP P w K mg base 1 HC "manners" (spP (fun _ : List Str × List Str × List Mn => True) (fun i => [hsR HC i.1 i.2.1 i.2.2]) (fun i => dctR (waysD i.1 i.2.2))) := by
  refine knp_body T.hmanners sc_House_manners lo_House_manners (fun vs H Q E ⟨i, G, _, _, pr, _⟩ => by rw [pr.len]; rfl) ?_
  rintro X S rfl rfl rfl rfl rfl hx hr vs H Q E ⟨⟨ns, ps, ms⟩, G, s, _, pr, k⟩
  obtain ⟨v1, rfl, r1⟩ := PR.one pr
  obtain ⟨pf, hf⟩ := T.hways
  exact st_ret s (vdict (S.vw T.b hr) (jslot T.hs hf isO_fin (nm S 0 r1) rfl)) fun u G1 H1 g r => k u G1 H1 g r
def optD : Option Nat → PyData
  | none => .none
  | some n => .int n
def mnD : Mn → PyData
  | .back => .str sBack
  | .keep => .str sKeep
  | .seat l => .tuple (l.map optD)
theorem dat_opt : ∀ o : Option Nat, Dat (optR o) (optD o)
  | none => dat_non
  | some n => dat_int
theorem pd_opt : ∀ o : Option Nat, Pd 1 (optD o)
  | none => Pd.none
  | some n => Pd.int _
theorem dat_mn : ∀ m : Mn, Dat (mnR m) (mnD m)
  | .back => dat_str
  | .keep => dat_str
  | .seat l => dat_tup (dats_map dat_opt l)
theorem pd_mn : ∀ m : Mn, Pd 2 (mnD m)
  | .back => (Pd.str (by decide +kernel)).mono (by decide)
  | .keep => (Pd.str (by decide +kernel)).mono (by decide)
  | .seat l => Pd.tup (Pd.map fun o _ => pd_opt o)
theorem waysD_dat {ns : List Str} {ms : List Mn} : ∀ q ∈ waysD ns ms, ∃ d n, Dat q.2 d ∧ Pd n d ∧ n ≤ 64 := fun q hq => by
  obtain ⟨x, y⟩ := q
  have := (List.of_mem_zip hq).2
  obtain ⟨m, hm, e⟩ := List.mem_map.mp this
  subst e
  exact ⟨mnD m, 2, dat_mn m, pd_mn m, by decide⟩
theorem kn_House_eq (T : Txt K mg w HC SC LC TC) : KnM P w K mg base 3 HC "__eq__" (spP (fun i : List Str × List Str × List Mn => OkH i.1 i.2.1 i.2.2) (fun i => [hsR HC i.1 i.2.1 i.2.2, hsR HC i.1 i.2.1 i.2.2]) (fun _ => isB true)) := by
  refine knm_body T.heq sc_House_eq lo_House_eq (fun vs H Q E ⟨i, G, _, _, pr, _⟩ => by rw [pr.len]; rfl) ?_
  rintro X S rfl rfl rfl rfl rfl hx hr vs H Q E ⟨⟨ns, ps, ms⟩, G, s, ok, pr, k⟩
  obtain ⟨v1, v2, rfl, r1, r2⟩ := PR.two pr
  have v := S.vw T.b hr
  obtain ⟨pf, hf⟩ := T.hfolk
  obtain ⟨psg, hsg⟩ := T.hsigns
  obtain ⟨pw, hw⟩ := T.hways
  have hu : X.A.units + 70 < cLine := by have := hr.un; omega
  refine st_ifn s (JT.eq (t := !true || (false || false)) (jtw (jwo (jtnot (jtval (jisiSl v T.hs T.hsi T.hkit (nm S 1 r2) T.mHouse))) fun _ =>
    jwo (jtcmp (op_neD (by omega)) (jslot T.hs hf isO_fin (nm S 0 r1) rfl) (jpropSl T.hs (kn_House_names T) hr (ns, ps, ms) trivial (nm S 1 r2) rfl) (tw_neS dat_strs dat_strs (pd_strs fun z hz => okN_str ok.n hz))) fun _ =>
    jw1o (jtcmp (op_neD (by omega)) (jslot T.hs hsg isO_fin (nm S 0 r1) rfl) (jpropSl T.hs (kn_House_plates T) hr (ns, ps, ms) trivial (nm S 1 r2) rfl) (tw_neS dat_strs dat_strs (pd_strs fun z hz => okP_str ok.p hz))))) rfl) fun G1 H1 g1 => ?_
  refine st_ret g1.ok (jcmp (op_eqDict hu) (jslot T.hs hw isO_fin (nm S 0 (mv g1 r1)) rfl) (jpropSl T.hs (kn_House_manners T) hr (ns, ps, ms) trivial (nm S 1 (mv g1 r2)) rfl) (tw_eqDict (by rw [waysD_keys ok.ml]; exact asc_nodup ok.n.asc) waysD_dat)) fun u G2 H2 g2 r => k u G2 H2 (g1.trans g2) r
theorem inV_str {n : Str} {ns : List Str} : inV (.str n) (ns.map .str) = decide (n ∈ ns) := by
  unfold inV
  rw [List.any_map]
  by_cases h : n ∈ ns
  · rw [decide_eq_true h, List.any_eq_true]
    exact ⟨n, h, by simp [eqV]⟩
  · rw [decide_eq_false h, List.any_eq_false]
    intro y hy
    simp only [Function.comp_apply, eqV]
    intro z
    exact h ((beq_iff_eq.mp z) ▸ hy)
theorem inV_nat {n : Nat} {ns : List Nat} : inV (.int (n : Int)) (ns.map fun i : Nat => .int (i : Int)) = decide (n ∈ ns) := by
  unfold inV
  rw [List.any_map]
  by_cases h : n ∈ ns
  · rw [decide_eq_true h, List.any_eq_true]
    exact ⟨n, h, by simp [eqV]⟩
  · rw [decide_eq_false h, List.any_eq_false]
    intro y hy
    simp only [Function.comp_apply, eqV]
    intro z
    have : (y : Int) = (n : Int) := beq_iff_eq.mp z
    exact h ((Int.ofNat.inj this) ▸ hy)
theorem strs_isV {ns : List Str} : ns.map isS = (ns.map V.str).map isV := by rw [List.map_map]; rfl
theorem nats_isV {ns : List Nat} : ns.map isN = (ns.map fun i : Nat => V.int (i : Int)).map isV := by rw [List.map_map]; rfl
theorem strs_flat {ns : List Str} : (ns.map V.str).all flatV = true := by simp [flatV]
theorem nats_flat {ns : List Nat} : (ns.map fun i : Nat => V.int (i : Int)).all flatV = true := by simp [flatV]
section
variable {W : Md} {X : Cx} {σ : L2.St} {G H : Hp} {K : PySem.W.Frag} {n : Str} {ns : List Str} {b : Nat} {bs : List Nat}
theorem tw_inS : Tw W (rIn K false) G H (isS n) (tupR (ns.map isS)) (isB (decide (n ∈ ns))) := by
  rw [strs_isV, ← inV_str]
  exact tw_in rfl strs_flat
theorem tw_ninS : Tw W (rIn K true) G H (isS n) (tupR (ns.map isS)) (isB (!decide (n ∈ ns))) := by
  rw [strs_isV, ← inV_str]
  exact tw_nin rfl strs_flat
theorem tw_inN : Tw W (rIn K false) G H (isN b) (tupR (bs.map isN)) (isB (decide (b ∈ bs))) := by
  rw [nats_isV, ← inV_nat]
  exact tw_in rfl nats_flat
theorem tw_ninN : Tw W (rIn K true) G H (isN b) (tupR (bs.map isN)) (isB (!decide (b ∈ bs))) := by
  rw [nats_isV, ← inV_nat]
  exact tw_nin rfl nats_flat
end
theorem kn_check_name (T : Txt K mg w HC SC LC TC) : Kn P w K mg base 1 "check_name" (spP (fun i : (List Str × List Str × List Mn) × Str => i.2 ∈ i.1.1) (fun i => [hsR HC i.1.1 i.1.2.1 i.1.2.2, isS i.2]) (fun _ => isO)) := by
  refine kn_body T.check_name sc_check_name lo_check_name (fun _ => rfl) ?_
  rintro X S rfl rfl rfl rfl rfl hx hr vs G H Q ⟨⟨ns, ps, ms⟩, n⟩ s hn pr k
  obtain ⟨v1, v2, rfl, r1, r2⟩ := PR.two pr
  have v := S.vw T.b hr
  obtain ⟨pf, hf⟩ := T.hfolk
  have hn' : n ∈ ns := hn
  refine st_ifn s (JT.eq (t := !true || !decide (n ∈ ns)) (jtw (jwo (jtnot (jtval (visi v (nm S 1 r2) (fun _ _ _ => ty_str) (n := "str") (by decide +kernel) T.b.str (by decide +kernel)))) fun _ => jw1o (jtcmp op_notIn_seq (nm S 1 r2) (jslot T.hs hf isO_fin (nm S 0 r1) rfl) tw_ninS))) (by simp [hn'])) fun G1 H1 g1 => st0 (k .non G1 H1 g1 rfl)
theorem kn_check_box (T : Txt K mg w HC SC LC TC) : Kn P w K mg base 2 "check_box" (spP (fun i : (List Str × List Str × List Mn) × Nat => i.2 < i.1.2.1.length) (fun i => [hsR HC i.1.1 i.1.2.1 i.1.2.2, isN i.2]) (fun _ => isO)) := by
  refine kn_body T.check_box sc_check_box lo_check_box (fun _ => rfl) ?_
  rintro X S rfl rfl rfl rfl rfl hx hr vs G H Q ⟨⟨ns, ps, ms⟩, n⟩ s hn pr k
  obtain ⟨v1, v2, rfl, r1, r2⟩ := PR.two pr
  have v := S.vw T.b hr
  obtain ⟨pf, hf⟩ := T.hsigns
  have hn' : n < ps.length := hn
  refine st_ifn s (JT.eq (t := !(decide ((0 : Int) ≤ (n : Int)) && decide ((n : Int) ≤ ((ps.map isS).length : Int) - 1))) (jtnot (jtval (jcall (kn_is_number T) (S.gl _ rfl) hr ((n : Int), (0 : Int), ((ps.map isS).length : Int) - 1) trivial (ja (nm S 1 r2) (ja jint (ja (jsub (vlenT v (jslot T.hs hf isO_fin (nm S 0 r1) rfl)) jint) ja0)))))) (by simp; omega)) fun G1 H1 g1 => st0 (k .non G1 H1 g1 rfl)
/-- House(names, plates, manners) -/
theorem jHouse {W : Md} {X : Cx} {σ : L2.St} {G H : Hp} {e : Expr} {es : List Expr} {p pos : Pos} {ns ps : List Str} {ms : List Mn} (T : Txt X.K X.mg X.w HC SC LC TC) (hg : Gl X "House") (hr : Room 6 X.A) (ok : OkH ns ps ms) (ha : JA W X (e :: es) σ G H (hsRs ns ps ms))
    (he : starEach (e :: es) X.env = (false, eval e X.env) :: starEach es X.env := by rfl) (hpl : (backTo pos (starEach es X.env)).any (·.1) = false := by rfl) : J W X (.Call (.Name "House" p) (e :: es) [] pos) σ G H (hsR HC ns ps ms) := fun G1 H1 g Q k =>
  gmake (kn_House_init T) hr hg T.mHouse (ha G1 H1 g _ fun vs G2 H2 g2 pr => by
    obtain ⟨vn, vp, vm, rfl, rn, rp, rm⟩ := PR.three pr
    intro x dx hx hdx ne
    have s1 : Same H2 (upd (upd H2 dx (.own x)) x (.ins HC dx [])) := fun c u q => by
      rw [upd_ne (ne_of_none q hx), upd_ne (ne_of_none q hdx)]; exact q
    refine ⟨x, dx, G2, ns, ps, ms, vn, vp, vm, rfl, g2.s.trans s1, upd_same, by rw [upd_ne ne, upd_same], ne, g2.s.free hx, g2.s.free hdx, ok, rn, rp, rm, fun G' H' us gr h1 h2 pu => ⟨rfl, ?_⟩⟩
    have g3 : Gr0 G2 H2 G' H' := ⟨gr.g, gr.s, fun a o _ q => gr.h a o (by
        rintro (z | z)
        · rw [z, hx] at q; cases q
        · rw [z, hdx] at q; cases q) (s1 _ _ q), fun a o q => gr.n a o (s1 _ _ q), fun a o q => gr.t a o (s1 _ _ q)⟩
    have n1 : G' x = none := gr.out upd_same (g2.s.free hx)
    have n2 : G' dx = none := gr.out (show upd (upd H2 dx (.own x)) x (.ins HC dx []) dx = some (.own x) by rw [upd_ne ne, upd_same]) (g2.s.free hdx)
    obtain ⟨f1, sf1⟩ := Gr.fin g3 h2 n2 hdx
    obtain ⟨f2, sf2⟩ := Gr.fin f1 h1 (by rw [upd_ne (Ne.symm ne)]; exact n1) hx
    refine k (.ref x) _ _ (g2.trans (Gw.up0 g2.ok f2)) ⟨x, dx, us, rfl, upd_same, by rw [upd_ne ne, upd_same], PR.mo (sf1.trans sf2) pu⟩) (he := he) (hpl := hpl)
theorem kn_with_manner (T : Txt K mg w HC SC LC TC) : Kn P w K mg base 7 "with_manner" (spP (fun i : (List Str × List Str × List Mn) × Nat × Mn => OkH i.1.1 i.1.2.1 i.1.2.2 ∧ i.2.1 < i.1.1.length ∧ OkM i.1.1.length i.1.2.1.length i.2.2) (fun i => [hsR HC i.1.1 i.1.2.1 i.1.2.2, isS (i.1.1.getD i.2.1 ""), mnR i.2.2]) (fun i => hsR HC i.1.1 i.1.2.1 (i.1.2.2.set i.2.1 i.2.2))) := by
  refine kn_body T.with_manner sc_with_manner lo_with_manner (fun _ => rfl) ?_
  rintro X S rfl rfl rfl rfl rfl hx hr vs G H Q ⟨⟨ns, ps, ms⟩, i, m⟩ s ⟨ok, hi, hm⟩ pr k
  obtain ⟨v1, v2, v3, rfl, r1, r2, r3⟩ := PR.three pr
  have v := S.vw T.b hr
  obtain ⟨pf, hf⟩ := T.hfolk
  obtain ⟨psg, hsg⟩ := T.hsigns
  obtain ⟨pw, hw⟩ := T.hways
  have hi' : i < ns.length := hi
  have h6 := ok.n.l6
  have eg : ns.getD i "" = ns[i] := by rw [List.getD_eq_getElem?_getD, List.getElem?_eq_getElem hi']; rfl
  have r2' : (isS ns[i]).p v2 G := by rw [← eg]; exact r2
  have ok' : OkH ns ps (ms.set i m) := ⟨ok.n, ok.p, by rw [List.length_set]; exact ok.ml, fun m' hm' => (List.mem_or_eq_of_mem_set hm').elim (ok.m m') fun e => e ▸ hm⟩
  refine st_ret s (jHouse T (S.gl _ rfl) hr ok' (ja (jslot T.hs hf isO_fin (nm S 0 r1) rfl) (ja (jslot T.hs hsg isO_fin (nm S 0 r1) rfl) (ja (jop (op_or1 (by have := hr.un; omega)) (jslot T.hs hw isO_fin (nm S 0 r1) rfl) (jd1 (nm S 1 r2') (nm S 2 r3)) (tw_or1 (asc_nodup ok.n.asc) ok.ml hi' (by have := ok.n.l6; omega))) ja0)))) fun u G1 H1 g r => k u G1 H1 g r
end Lp
/-! ## D3 -/
set_option Elab.async false
set_option linter.all false
set_option maxRecDepth 100000
set_option maxHeartbeats 2000000
/-! ordering: orders, matches, fits, owners. -/
namespace Lp
open PySem PySem.Spec PyProof.Rows L2
variable {P : Program} {w : World} {K : PySem.W.Frag} {mg : Str → Option Value} {base : Heap} {HC SC LC TC : Addr}
theorem idx_before {α : Type} [BEq α] [LawfulBEq α] {xs : List α} {a : α} {m : Nat} {z : α} (h : m < xs.idxOf a) (hz : xs[m]? = some z) : (z == a) = false := by
  have hl : m < xs.length := Nat.lt_of_lt_of_le h List.idxOf_le_length
  have e : xs[m] = z := by
    rw [List.getElem?_eq_getElem hl] at hz
    exact Option.some.inj hz
  have := List.not_of_lt_findIdx (p := (· == a)) (xs := xs) (i := m) h
  rw [e] at this
  simpa using this
section
variable {W : Md} {X : Cx} {σ : L2.St} {G H : Hp} {a b : Expr} {pos apos : Pos}
theorem vtixN {o : List Nat} {y : Nat} (hy : y ∈ o) (ha : J W X a σ G H (ordR o)) (hb : J W X b σ G H (isN y))
    (hst : starEach [b] X.env = (false, eval b X.env) :: starEach [] X.env := by rfl) (hbase : attributeBase a "index" X.env (eval a X.env) = eval a X.env := by rfl) (hline : (apos.endLine == pos.line) = true := by rfl) : J W X (.Call (.Attribute a "index" apos) [b] [] pos) σ G H (isN (o.idxOf y)) := by
  have hl := List.idxOf_lt_length_of_mem hy
  refine jtix (xs := o.map fun i : Nat => V.int (i : Int)) (y := .int (y : Int)) (z := .int (y : Int)) (ha.eq (congrArg tupR nats_isV)) hb rfl nats_flat ?_ (by simp [eqV]) (fun m z' hm hz => ?_) hst hbase hline
  · rw [List.getElem?_map, List.getElem?_eq_getElem hl, List.getElem_idxOf hl]
    rfl
  · rw [List.getElem?_map] at hz
    cases e : o[m]? with
    | none => rw [e] at hz; cases hz
    | some t =>
      rw [e] at hz
      cases hz
      have := idx_before hm e
      simp only [eqV]
      simp only [beq_eq_false_iff_ne] at this ⊢
      exact fun q => this (Int.ofNat.inj q)
theorem vtixS {ns : List Str} {y : Str} (hy : y ∈ ns) (ha : J W X a σ G H (tupR (ns.map isS))) (hb : J W X b σ G H (isS y))
    (hst : starEach [b] X.env = (false, eval b X.env) :: starEach [] X.env := by rfl) (hbase : attributeBase a "index" X.env (eval a X.env) = eval a X.env := by rfl) (hline : (apos.endLine == pos.line) = true := by rfl) : J W X (.Call (.Attribute a "index" apos) [b] [] pos) σ G H (isN (ns.idxOf y)) := by
  have hl := List.idxOf_lt_length_of_mem hy
  refine jtix (xs := ns.map V.str) (y := .str y) (z := .str y) (ha.eq (congrArg tupR strs_isV)) hb rfl strs_flat ?_ (by simp [eqV]) (fun m z' hm hz => ?_) hst hbase hline
  · rw [List.getElem?_map, List.getElem?_eq_getElem hl, List.getElem_idxOf hl]
    rfl
  · rw [List.getElem?_map] at hz
    cases e : ns[m]? with
    | none => rw [e] at hz; cases hz
    | some t =>
      rw [e] at hz
      cases hz
      exact idx_before hm e
/-- an item told by its place -/
theorem jixN {α : Type} {f : α → Rel} {xs : List α} {i : Nat} {x : α} (ha : J W X a σ G H (tupR (xs.map f))) (hb : J W X b σ G H (isN i)) (e : xs[i]? = some x) (hs : PlainIx b := by intro _ _; rfl) : J W X (.Subscript a b pos) σ G H (f x) :=
  jixT ha hb (by rw [atI_nat, List.getElem?_map, e]; rfl) hs
theorem jixNL {α : Type} {f : α → Rel} {xs : List α} {i : Nat} {x : α} (ha : J W X a σ G H (lstR (xs.map f))) (hb : J W X b σ G H (isN i)) (e : xs[i]? = some x) (hs : PlainIx b := by intro _ _; rfl) : J W X (.Subscript a b pos) σ G H (f x) :=
  jixL ha hb (by rw [atI_nat, List.getElem?_map, e]; rfl) hs
end
theorem kn_is_order (T : Txt K mg w HC SC LC TC) : Kn P w K mg base 2 "is_order" (spP (fun i : (List Str × List Str × List Mn) × List Nat => OkH i.1.1 i.1.2.1 i.1.2.2 ∧ OkO i.1.1.length i.1.2.1.length i.2) (fun i => [hsR HC i.1.1 i.1.2.1 i.1.2.2, ordR i.2]) (fun _ => isB true)) := by
  refine kn_body T.is_order sc_is_order lo_is_order (fun _ => rfl) ?_
  rintro X S rfl rfl rfl rfl rfl hx hr vs G H Q ⟨⟨ns, ps, ms⟩, o⟩ s ⟨ok, oo⟩ pr k
  obtain ⟨v1, v2, rfl, r1, r2⟩ := PR.two pr
  have v := S.vw T.b hr
  obtain ⟨pf, hf⟩ := T.hfolk
  obtain ⟨psg, hsg⟩ := T.hsigns
  have h6 : ns.length ≤ 6 := ok.n.l6
  have ol : o.length = ns.length := oo.len
  have hlt : ∀ b ∈ o, b < ps.length := oo.lt
  refine st_ifn s (JT.eq (t := !true || (!decide (V.int ((o.map isN).length : Int) = V.int ((ns.map isS).length : Int)) || decide ((o.length : Int) < ((o.map isN).length : Int)))) (jtw (jwo (jtnot (jtval (visi v (nm S 1 r2) (fun _ _ _ => ty_tup) (n := "tuple") (by decide +kernel) T.b.tuple (by decide +kernel)))) fun _ =>
    jwo (jtcmp op_ne (vlenT v (nm S 1 r2)) (vlenT v (jslot T.hs hf isO_fin (nm S 0 r1) rfl)) (tw_ne rfl)) fun _ => jw1o (jtcmp op_lt (vlenSet v (nm S 1 r2) oo.nd (show o.length ≤ 1000 by omega)) (vlenT v (nm S 1 r2)) tw_lt))) (by simp [ol])) fun G1 H1 g1 => ?_
  refine st_ret g1.ok (R := isB (o.all fun _ => true)) (vallM v (slc S 2 o isN _ (jiT (nm S 1 (mv g1 r2))) (by omega) fun b u G2 H2 hb g2 r X' B => ?_)) fun u G2 H2 g2 r => k u G2 H2 (g1.trans g2) (isB_of (all_true o) r)
  refine (jcall (kn_is_number (B.txt T)) (B.S.gl _ rfl) (B.room hr) ((b : Int), (0 : Int), ((ps.map isS).length : Int) - 1) trivial (ja (nb B.S 2 r) (ja jint (ja (jsub (vlenT (B.vw T.b hr) (jslot (B.txt T).hs (B.K ▸ hsg) isO_fin (nb B.S 0 (mv (g1.trans g2) r1)) rfl)) jint) ja0)))).eq ?_
  have := hlt b hb
  have e : (decide ((0 : Int) ≤ (b : Int)) && decide ((b : Int) ≤ ((ps.map isS).length : Int) - 1)) = true := by simp; omega
  show isB _ = isB true
  rw [← e]
theorem kn_check_order (T : Txt K mg w HC SC LC TC) : Kn P w K mg base 3 "check_order" (spP (fun i : (List Str × List Str × List Mn) × List Nat => OkH i.1.1 i.1.2.1 i.1.2.2 ∧ OkO i.1.1.length i.1.2.1.length i.2) (fun i => [hsR HC i.1.1 i.1.2.1 i.1.2.2, ordR i.2]) (fun _ => isO)) := by
  refine kn_body T.check_order sc_check_order lo_check_order (fun _ => rfl) ?_
  rintro X S rfl rfl rfl rfl rfl hx hr vs G H Q ⟨⟨ns, ps, ms⟩, o⟩ s ok pr k
  obtain ⟨v1, v2, rfl, r1, r2⟩ := PR.two pr
  exact st_ifn s (jtnot (jtval (jcall (kn_is_order T) (S.gl _ rfl) hr ((ns, ps, ms), o) ok (ja (nm S 0 r1) (ja (nm S 1 r2) ja0))))) fun G1 H1 g1 => st0 (k .non G1 H1 g1 rfl)
def signAt (z : Str) (i : Nat) : Str := ⟨#[z.cps.getD i 0]⟩
def matchP (p n : Str) : Bool := decide (p.length = n.length) && (List.range p.length).all fun i => inV (.str (signAt p i)) [.str PNT, .str (signAt n i)]
theorem kn_does_match (T : Txt K mg w HC SC LC TC) : Kn P w K mg base 1 "does_match" (spP (fun i : Str × Str => i.1.length ≤ 100 ∧ i.2.length ≤ 100) (fun i => [isS i.1, isS i.2]) (fun i => isB (matchP i.1 i.2))) := by
  refine kn_body T.does_match sc_does_match lo_does_match (fun _ => rfl) ?_
  rintro X S rfl rfl rfl rfl rfl hx hr vs G H Q ⟨p, n⟩ s ⟨hp, hn⟩ pr k
  obtain ⟨v1, v2, rfl, r1, r2⟩ := PR.two pr
  have v := S.vw T.b hr
  have hp' : p.length ≤ 100 := hp
  have hn' : n.length ≤ 100 := hn
  refine st_ifr s (jtcmp op_ne (vlenS v (nm S 0 r1) (by omega)) (vlenS v (nm S 1 r2) (by omega)) (tw_ne rfl)) (fun _ => jbl) (fun t u G1 H1 g1 r => k u G1 H1 g1 ?_) fun t G1 H1 g1 => ?_
  · have : ¬ p.length = n.length := by simp at t; omega
    have e : matchP p n = false := by unfold matchP; rw [decide_eq_false this]; rfl
    show (isB (matchP p n)).p u G1
    rw [e]
    exact r
  have el : p.length = n.length := by simp at t; omega
  refine st_ret g1.ok (R := isB ((List.range (min p.cps.size n.cps.size)).all fun i => inV (.str (signAt p i)) [.str PNT, .str (signAt n i)])) (vallM v (slc2 S 2 3 (List.range (min p.cps.size n.cps.size)) (fun i => isS (signAt p i)) (fun i => isS (signAt n i)) _ (jiZipS v (nm S 0 (mv g1 r1)) (nm S 1 (mv g1 r2))) ?_ fun i u u2 G2 H2 hi g2 ra rb X' B => ?_)) fun u G2 H2 g2 r => k u G2 H2 (g1.trans g2) ?_
  · have h1 : p.cps.size ≤ 100 := hp
    rw [List.length_range]
    omega
  · exact jcmp op_in_seq (nb B.S 2 ra) ((jtup (ja (vgS (B.vw T.b hr) (B.txt T).point) (ja (nb B.S 3 rb) ja0)) (by simp)).eq (congrArg tupR (show [isS PNT, isS (signAt n i)] = [V.str PNT, V.str (signAt n i)].map isV from rfl))) (tw_in rfl rfl)
  · have e : matchP p n = ((List.range (min p.cps.size n.cps.size)).all fun i => inV (.str (signAt p i)) [.str PNT, .str (signAt n i)]) := by
      unfold matchP
      rw [decide_eq_true el]
      have : min p.cps.size n.cps.size = p.length := by
        have : p.cps.size = n.cps.size := el
        rw [this, Nat.min_self]
        exact el.symm
      rw [this]
      rfl
    show (isB (matchP p n)).p u G2
    rw [e]
    exact r
def fitAt (ns : List Str) (o : List Nat) (i : Nat) (p : Str) : Bool := decide (p = "") || (decide (i ∈ o) && matchP p (ns.getD (o.idxOf i) ""))
def fitP (ns ps : List Str) (o : List Nat) : Bool := (List.range ps.length).all fun i => fitAt ns o i (ps.getD i "")
theorem okT_len {z sg : Str} (h : z = "" ∨ OkT z sg) : z.length ≤ 8 := by
  rcases h with e | e
  · rw [e]; decide
  · exact e.2.1
theorem kn_does_fit (T : Txt K mg w HC SC LC TC) : Kn P w K mg base 2 "does_fit" (spP (fun i : (List Str × List Str × List Mn) × List Nat => OkH i.1.1 i.1.2.1 i.1.2.2 ∧ OkO i.1.1.length i.1.2.1.length i.2) (fun i => [hsR HC i.1.1 i.1.2.1 i.1.2.2, ordR i.2]) (fun i => isB (fitP i.1.1 i.1.2.1 i.2))) := by
  refine kn_body T.does_fit sc_does_fit lo_does_fit (fun _ => rfl) ?_
  rintro X S rfl rfl rfl rfl rfl hx hr vs G H Q ⟨⟨ns, ps, ms⟩, o⟩ s ⟨ok, oo⟩ pr k
  obtain ⟨v1, v2, rfl, r1, r2⟩ := PR.two pr
  have v := S.vw T.b hr
  obtain ⟨pf, hf⟩ := T.hfolk
  obtain ⟨psg, hsg⟩ := T.hsigns
  have ol : o.length = ns.length := oo.len
  have lp : (List.range (ps.map isS).length).map (fun i => pairT (isN i) ((ps.map isS).getD i isO)) = (List.range ps.length).map (fun i => pairT (isN i) (isS (ps.getD i ""))) := by
    rw [List.length_map]
    exact map_range_congr fun i hi => by rw [getD_map (a := ("" : Str)) hi]
  refine st_for _ s S.calm hx ((jiEnumT v (jslot T.hs hsg isO_fin (nm S 0 r1) rfl)).eq lp) (pg_tup S.calm (pgs_cons (S.pg 2) (pgs_cons (S.pg 3) pgs_nil))) fun G2 H2 g2 => ?_
  refine ⟨fun i σ' G' H' => Gw pureM G2 H2 G' H' ∧ (∃ x y, σ' = [some v1, some v2, x, y]) ∧ ∀ j, j < i → fitAt ns o j (ps.getD j "") = true, ⟨g2.rf, ⟨_, _, rfl⟩, fun j hj => absurd hj (Nat.not_lt_zero j)⟩, fun i σ' G' H' h => ⟨h.1.g, h.1.s⟩, ?_, ?_⟩
  · rintro i R u σ' G' H' G3 H3 hR ⟨g', ⟨x, y, rfl⟩, hall⟩ gr3 r
    have hi : i < ps.length := by
      rcases Nat.lt_or_ge i ps.length with q | q
      · exact q
      · rw [List.getElem?_eq_none (by simpa using q)] at hR; cases hR
    rw [List.getElem?_map, List.getElem?_range hi] at hR
    obtain rfl : pairT (isN i) (isS (ps.getD i "")) = R := by simpa using hR
    have g3 : Gw pureM G H G3 H3 := (g2.trans g').trans (Gw.up0 g'.ok gr3)
    have g23 : Gw pureM G2 H2 G3 H3 := g'.trans (Gw.up0 g'.ok gr3)
    refine pairT_tup g3.s r fun w1 w2 q1 q2 => ?_
    have okp : (ps.getD i "").length ≤ 8 := by
      rw [List.getD_eq_getElem?_getD, List.getElem?_eq_getElem hi]
      exact okT_len (ok.p.txt _ (List.getElem_mem hi))
    show RunS X _ _ [some v1, some v2, some w1, some w2] H3
    refine st_if g3.ok (jtcmp op_ne (nm S 3 q2) jstr (tw_ne rfl)) (fun t G4 H4 g4 => ?_) fun t G4 H4 g4 => st0 (st0 ⟨G4, g23.trans g4, ⟨_, _, rfl⟩, fun j hj => ?_⟩)
    · have hne : ¬ ps.getD i "" = "" := by simpa using t
      have g34 := g3.trans g4
      have hoi : i ∈ o → ns[o.idxOf i]? = some (ns.getD (o.idxOf i) "") ∧ (ns.getD (o.idxOf i) "").length ≤ 8 := fun hio => by
        have h1 := List.idxOf_lt_length_of_mem hio
        rw [List.getD_eq_getElem?_getD, List.getElem?_eq_getElem (by omega)]
        exact ⟨rfl, (ok.n.txt _ (List.getElem_mem _)).2.1⟩
      refine st_if g4.ok (t := !decide (i ∈ o) || !matchP (ps.getD i "") (ns.getD (o.idxOf i) "")) (jtw (jwo (jtcmp op_notIn_seq (nm S 2 (mv g4 q1)) (nm S 1 (mv g34 r2)) tw_ninN) fun z => jw1o (jtnot (jtval ?_)))) (fun z G5 H5 g5 => ?_) fun z G5 H5 g5 => st0 (st0 (st0 ⟨G5, g23.trans (g4.trans g5), ⟨_, _, rfl⟩, fun j hj => ?_⟩))
      · have hio : i ∈ o := by simpa using z
        obtain ⟨hix, okn⟩ := hoi hio
        exact jcall (kn_does_match T) (S.gl _ rfl) hr (ps.getD i "", ns.getD (o.idxOf i) "") ⟨by show (ps.getD i "").length ≤ 100; omega, by show (ns.getD (o.idxOf i) "").length ≤ 100; omega⟩ (ja (nm S 3 (mv g4 q2)) (ja (jixN (jslot T.hs hf isO_fin (nm S 0 (mv g34 r1)) rfl) (vtixN hio (nm S 1 (mv g34 r2)) (nm S 2 (mv g4 q1))) hix) ja0))
      · refine st_ret g5.ok jbl fun u G6 H6 g6 r6 => k u G6 H6 ((g34.trans g5).trans g6) ?_
        have e : fitP ns ps o = false := by
          unfold fitP
          rw [List.all_eq_false]
          refine ⟨i, List.mem_range.mpr hi, ?_⟩
          unfold fitAt
          rw [decide_eq_false hne]
          intro w
          rw [Bool.false_or] at w
          rw [Bool.and_eq_true] at w
          rw [w.1, w.2] at z
          cases z
        show (isB (fitP ns ps o)).p u G6
        rw [e]
        exact r6
      · rcases Nat.lt_or_ge j i with q | q
        · exact hall j q
        · obtain rfl : j = i := by omega
          unfold fitAt
          have : (decide (j ∈ o) && matchP (ps.getD j "") (ns.getD (o.idxOf j) "")) = true := by
            revert z
            cases decide (j ∈ o) <;> cases matchP (ps.getD j "") (ns.getD (o.idxOf j) "") <;> simp
          rw [this, Bool.or_true]
    · rcases Nat.lt_or_ge j i with q | q
      · exact hall j q
      · obtain rfl : j = i := by omega
        have he : ps.getD j "" = "" := by simpa using t
        unfold fitAt
        rw [decide_eq_true he]
        rfl
  · rintro σ' G' H' ⟨g', ⟨x, y, rfl⟩, hall⟩
    rw [List.length_map, List.length_range] at hall
    refine st_ret g'.ok jbl fun u G3 H3 g3 r => k u G3 H3 ((g2.trans g').trans g3) ?_
    have e : fitP ns ps o = true := by
      unfold fitP
      rw [List.all_eq_true]
      exact fun i hi => hall i (List.mem_range.mp hi)
    show (isB (fitP ns ps o)).p u G3
    rw [e]
    exact r
/-- who lives behind a box -/
def ownerP (ns : List Str) (o : List Nat) (b : Nat) : Option Str := if b ∈ o then some (ns.getD (o.idxOf b) "") else none
def optS : Option Str → Rel
  | none => isO
  | some z => isS z
theorem kn_owner_of (T : Txt K mg w HC SC LC TC) : Kn P w K mg base 1 "owner_of" (spP (fun i : (List Str × List Str × List Mn) × List Nat × Nat => i.2.1.length = i.1.1.length) (fun i => [hsR HC i.1.1 i.1.2.1 i.1.2.2, ordR i.2.1, isN i.2.2]) (fun i => optS (ownerP i.1.1 i.2.1 i.2.2))) := by
  refine kn_body T.owner_of sc_owner_of lo_owner_of (fun _ => rfl) ?_
  rintro X S rfl rfl rfl rfl rfl hx hr vs G H Q ⟨⟨ns, ps, ms⟩, o, b⟩ s ol pr k
  obtain ⟨v1, v2, v3, rfl, r1, r2, r3⟩ := PR.three pr
  obtain ⟨pf, hf⟩ := T.hfolk
  have ol' : o.length = ns.length := ol
  refine st_ret s (R := optS (ownerP ns o b)) (jif (jtcmp op_in_seq (nm S 2 r3) (nm S 1 r2) tw_inN) (fun t => ?_) fun t => ?_) fun u G1 H1 g1 r => k u G1 H1 g1 r
  · have hb : b ∈ o := by simpa using t
    have h1 := List.idxOf_lt_length_of_mem hb
    refine (jixN (x := ns.getD (o.idxOf b) "") (jslot T.hs hf isO_fin (nm S 0 r1) rfl) (vtixN hb (nm S 1 r2) (nm S 2 r3)) ?_).eq ?_
    · show ns[o.idxOf b]? = some (ns.getD (o.idxOf b) "")
      rw [List.getD_eq_getElem?_getD, List.getElem?_eq_getElem (by omega)]
      rfl
    · unfold ownerP
      rw [if_pos hb]
      rfl
  · have hb : ¬ b ∈ o := by simpa using t
    refine jnon.eq ?_
    unfold ownerP
    rw [if_neg hb]
    rfl
end Lp
/-! ## D4 -/
set_option Elab.async false
set_option linter.all false
set_option maxRecDepth 100000
set_option maxHeartbeats 2000000
/-! letters: a letter's way. -/
namespace Lp
open PySem PySem.Spec PyProof.Rows L2
variable {P : Program} {w : World} {K : PySem.W.Frag} {mg : Str → Option Value} {base : Heap} {HC SC LC TC : Addr}
/-- what a manner does with a letter -/
inductive Gl2 where
  | back
  | keep
  | to (n : Nat)
def glV : Gl2 → V
  | .back => .str sBack
  | .keep => .str sKeep
  | .to n => .int (n : Int)
abbrev glR (g : Gl2) : Rel := isV (glV g)
/-- the seat number i of a manner, at box b -/
def handedP (m : Mn) (i b : Nat) : Gl2 := match m with
  | .back => .back
  | .keep => .keep
  | .seat l => match l.getD i none with
    | none => .back
    | some g => if g = b then .back else .to g
theorem kn_handed_on (T : Txt K mg w HC SC LC TC) : Kn P w K mg base 1 "handed_on" (spP (fun i : (List Str × List Str × List Mn) × Nat × Str × Nat => OkH i.1.1 i.1.2.1 i.1.2.2 ∧ i.2.1 < i.1.1.length ∧ i.2.2.1 ∈ i.1.1)
    (fun i => [hsR HC i.1.1 i.1.2.1 i.1.2.2, isS (i.1.1.getD i.2.1 ""), isS i.2.2.1, isN i.2.2.2]) (fun i => glR (handedP (i.1.2.2.getD i.2.1 .back) (i.1.1.idxOf i.2.2.1) i.2.2.2))) := by
  refine kn_body T.handed_on sc_handed_on lo_handed_on (fun _ => rfl) ?_
  rintro X S rfl rfl rfl rfl rfl hx hr vs G H Q ⟨⟨ns, ps, ms⟩, i, n, b⟩ s ⟨ok, hi, hn⟩ pr k
  obtain ⟨v1, v2, v3, v4, rfl, r1, r2, r3, r4⟩ := PR.four pr
  have v := S.vw T.b hr
  obtain ⟨pf, hf⟩ := T.hfolk
  obtain ⟨pw, hw⟩ := T.hways
  have hi' : i < ns.length := hi
  have hml : ms.length = ns.length := ok.ml
  have eg : ns.getD i "" = ns[i] := by rw [List.getD_eq_getElem?_getD, List.getElem?_eq_getElem hi']; rfl
  have em : ms.getD i .back = ms[i]'(by omega) := by rw [List.getD_eq_getElem?_getD, List.getElem?_eq_getElem (by omega)]; rfl
  have r2' : (isS ns[i]).p v2 G := by rw [← eg]; exact r2
  have k' : ∀ u G' H', Gw pureM G H G' H' → (glR (handedP (ms[i]'(by omega)) (ns.idxOf n) b)).p u G' → Q u H' := fun u G' H' g r => k u G' H' g (by
    show (glR (handedP (ms.getD i .back) (ns.idxOf n) b)).p u G'
    rw [em]; exact r)
  have okm := ok.m (ms[i]'(by omega)) (List.getElem_mem _)
  refine st_set S 4 s (vixD v (jslot T.hs hw isO_fin (nm S 0 r1) rfl) (nm S 1 r2') (waysD_at (asc_nodup ok.n.asc) hml hi')) fun u G1 H1 g1 rm => ?_
  generalize ms[i]'(by omega) = m at rm k' okm
  cases m with
  | back => exact st_ifr g1.ok (jtnot (jtval (visi v (nm S 4 rm) (fun _ _ _ => ty_str) (n := "tuple") (r := false) (by decide +kernel) T.b.tuple (by decide +kernel)))) (fun _ => nm S 4 rm) (fun _ u G2 H2 g2 r => k' u G2 H2 (g1.trans g2) r) fun z => nomatch z
  | keep => exact st_ifr g1.ok (jtnot (jtval (visi v (nm S 4 rm) (fun _ _ _ => ty_str) (n := "tuple") (r := false) (by decide +kernel) T.b.tuple (by decide +kernel)))) (fun _ => nm S 4 rm) (fun _ u G2 H2 g2 r => k' u G2 H2 (g1.trans g2) r) fun z => nomatch z
  | seat l =>
    obtain ⟨hl, hb⟩ := (show l.length = ns.length ∧ ∀ b, some b ∈ l → b < ps.length from okm)
    have rm' : (tupR (l.map optR)).p u G1 := rm
    refine st_ifn g1.ok (jtnot (jtval (visi v (nm S 4 rm') (fun _ _ _ => ty_tup) (n := "tuple") (r := true) (by decide +kernel) T.b.tuple (by decide +kernel)))) fun G2 H2 g2 => ?_
    have g12 := g1.trans g2
    have hix := List.idxOf_lt_length_of_mem hn
    have el : l[ns.idxOf n]? = some (l.getD (ns.idxOf n) none) := by
      have hix' : ns.idxOf n < ns.length := hix
      rw [List.getD_eq_getElem?_getD, List.getElem?_eq_getElem (by omega)]
      rfl
    refine st_set S 5 g2.ok (jixN (nm S 4 (mv g2 rm')) (vtixS hn (jslot T.hs hf isO_fin (nm S 0 (mv g12 r1)) rfl) (nm S 2 (mv g12 r3))) el) fun u5 G3 H3 g3 r5 => ?_
    have g13 := g12.trans g3
    have kk : ∀ u G' H', Gw pureM G H G' H' → (glR (match l.getD (ns.idxOf n) none with | none => .back | some g => if g = b then .back else .to g)).p u G' → Q u H' := k'
    generalize l.getD (ns.idxOf n) none = o at r5 kk
    cases o with
    | none =>
      refine st_ret g3.ok (R := isS sBack) (jif (t := true) (jtw (jwo (t := true) (u := true) ((jtcmp op_isN (nm S 5 (R := isO) r5) jnon tw_isN).eq (by simp)) fun z => nomatch z)) (fun _ => vgS v T.backh) fun z => nomatch z) fun u G4 H4 g4 r => kk u G4 H4 (g13.trans g4) r
    | some g =>
      have r5' : (isN g).p u5 G3 := r5
      refine st_ret g3.ok (R := glR (if g = b then .back else .to g)) (jif (t := false || decide (V.int (g : Int) = V.int (b : Int))) (jtw (jwo ((jtcmp op_isN (nm S 5 r5') jnon tw_isN).eq (by simp)) fun _ => jw1o (jtcmp op_eq (nm S 5 r5') (nm S 3 (mv g13 r4)) (tw_eq rfl)))) (fun z => ?_) fun z => ?_) fun u G4 H4 g4 r => kk u G4 H4 (g13.trans g4) r
      · have : g = b := by simp at z; omega
        rw [if_pos this]
        exact vgS v T.backh
      · have : ¬ g = b := by simp at z; omega
        rw [if_neg this]
        exact nm S 5 r5'
theorem jneg {W : Md} {X : Cx} {σ : L2.St} {G H : Hp} {a : Expr} {pos : Pos} {i : Int} (h : J W X a σ G H (isI i)) : J W X (.UnaryOp .USub a pos) σ G H (isI (-i)) :=
  J.pe (pe_un un_neg sE) fun G1 H1 g Q k => h G1 H1 g _ fun v G2 H2 g2 r => ⟨i, r, k _ G2 H2 g2 rfl⟩
/-- the way of a letter for n from box here, the boxes met so far in bs -/
def wayF (ns : List Str) (ms : List Mn) (o : List Nat) (n : Str) : Nat → List Nat → Nat → List Nat × Str
  | 0, bs, _ => (bs, sRound)
  | f + 1, bs, here => if here ∈ o then
      if ns.getD (o.idxOf here) "" = n then (bs, sKept)
      else match handedP (ms.getD (o.idxOf here) .back) (ns.idxOf n) here with
        | .back => (bs, sBack)
        | .keep => (bs, sLies)
        | .to g => if g ∈ bs then (bs, sRound) else wayF ns ms o n f (bs ++ [g]) g
    else (bs, sLies)
def wayP (ns : List Str) (ms : List Mn) (o : List Nat) (n : Str) (b : Nat) : List Nat × Str := wayF ns ms o n 9 [b] b
theorem handed_lt {ns ps : List Str} {ms : List Mn} {i j b g : Nat} (ok : OkH ns ps ms) (hi : i < ns.length) (h : handedP (ms.getD i .back) j b = .to g) : g < ps.length := by
  have hml := ok.ml
  have em : ms.getD i .back = ms[i]'(by omega) := by rw [List.getD_eq_getElem?_getD, List.getElem?_eq_getElem (by omega)]; rfl
  rw [em] at h
  have okm := ok.m (ms[i]'(by omega)) (List.getElem_mem _)
  generalize ms[i]'(by omega) = m at h okm
  cases m with
  | back => cases h
  | keep => cases h
  | seat l =>
    obtain ⟨hl, hb⟩ := (show l.length = ns.length ∧ ∀ b, some b ∈ l → b < ps.length from okm)
    unfold handedP at h
    simp only at h
    cases e : l.getD j none with
    | none => rw [e] at h; cases h
    | some q =>
      rw [e] at h
      simp only at h
      split at h
      · cases h
      · cases h
        refine hb g ?_
        rw [List.getD_eq_getElem?_getD] at e
        cases e2 : l[j]? with
        | none => rw [e2] at e; cases e
        | some t =>
          rw [e2] at e
          have : t = some g := e
          rw [← this]
          exact List.mem_of_getElem? e2
theorem nodup_small {bs : List Nat} {n : Nat} (h : bs.Nodup) (hl : ∀ b ∈ bs, b < n) : bs.length ≤ n := by
  have := List.Nodup.length_le_of_subset (l₂ := List.range n) h (fun b hb => List.mem_range.mpr (hl b hb))
  simpa using this
theorem inV_gl {g : Gl2} : inV (glV g) [.str sBack, .str sKeep] = (match g with | .to _ => false | _ => true) := by
  cases g with
  | back => decide +kernel
  | keep => decide +kernel
  | to n => simp [inV, glV, eqV]
theorem glV_flat (g : Gl2) : flatV (glV g) = true := by cases g <;> rfl
theorem kn_way_of (T : Txt K mg w HC SC LC TC) : Kn P w K mg base 2 "way_of" (spP (fun i : (List Str × List Str × List Mn) × List Nat × Str × Nat => OkH i.1.1 i.1.2.1 i.1.2.2 ∧ OkO i.1.1.length i.1.2.1.length i.2.1 ∧ i.2.2.1 ∈ i.1.1 ∧ i.2.2.2 < i.1.2.1.length)
    (fun i => [hsR HC i.1.1 i.1.2.1 i.1.2.2, ordR i.2.1, isS i.2.2.1, isN i.2.2.2]) (fun i => tupR [ordR (wayP i.1.1 i.1.2.2 i.2.1 i.2.2.1 i.2.2.2).1, isS (wayP i.1.1 i.1.2.2 i.2.1 i.2.2.1 i.2.2.2).2])) := by
  refine kn_body T.way_of sc_way_of lo_way_of (fun _ => rfl) ?_
  rintro X S rfl rfl rfl rfl rfl hx hr vs G H Q ⟨⟨ns, ps, ms⟩, o, n, b⟩ s ⟨ok, oo, hn, hb⟩ pr k
  obtain ⟨v1, v2, v3, v4, rfl, r1, r2, r3, r4⟩ := PR.four pr
  have v := S.vw T.b hr
  have ol : o.length = ns.length := oo.len
  have p6 : ps.length ≤ 6 := ok.p.l6
  have hn' : n ∈ ns := hn
  have hb' : b < ps.length := hb
  refine st (ps_set (i := 4) S.nd (by rw [S.hN]; rfl) (S.loc _ (by simp)) sE rfl (.inl (S.fn _))) (glst s (ja (nm S 3 r4) ja0) (by simp) fun vs0 u G1 H1 g1 pr1 hu => ?_)
  have nm0 : ∀ a, ¬ pureM.m a := fun a h => h
  show RunS X _ _ [some v1, some v2, some v3, some v4, some (.ref u), none, none, none] (upd H1 u (.lst vs0))
  have hw0 : pureM.m u → False := fun h => h
  refine st (ps_while (by rw [hx]; exact PassesOwn.never) sT sS) ?_
  let Wv : Nat → L2.St → Hp → Prop := fun f σ' H' => ∃ G' vs pre here x y z, σ' = [some v1, some v2, some v3, some v4, some (.ref u), x, y, z] ∧ Gw pureM G H G' H' ∧ H' u = some (.lst vs) ∧ G' u = none ∧ PR G' vs ((pre ++ [here]).map isN) ∧ (pre ++ [here]).Nodup ∧
    (∀ t ∈ pre ++ [here], t < ps.length) ∧ f + (pre ++ [here]).length = 10 ∧ wayF ns ms o n f (pre ++ [here]) here = wayP ns ms o n b
  have n1 : G1 u = none := sub_none g1.s hu
  have hu0 : H u = none := g1.to0.H.free hu
  refine ⟨Wv, ⟨9, G1, vs0, [], b, none, none, none, rfl, (g1.trans g1.rf).set' (fun h => h) n1 hu0, upd_same, n1, pr1, by simp, fun t ht => by simp at ht; omega, rfl, rfl⟩, ?_⟩
  rintro f σ' H' ⟨G', vs, pre, here, x, y, z, rfl, g', hl, nu, prv, hnd, hlt, hf, hres⟩
  refine (jtval jbl : JT pureM X _ _ G' H' true).here g'.ok fun G2 H2 g2 => ?_
  have hlen := nodup_small hnd hlt
  obtain ⟨f', rfl⟩ : ∃ f', f = f' + 1 := ⟨f - 1, by omega⟩
  rw [if_pos rfl]
  refine ⟨Wv f', fun σ' H' h => ⟨f', Nat.lt_succ_self _, h⟩, ?_⟩
  have gA := g'.trans g2
  have hl2 := g2.to0.H _ _ hl
  have nu2 := g2.out hl nu
  have pr2 := PR.mo g2.g prv
  have hmem : here ∈ pre ++ [here] := by simp
  refine st_set S 5 g2.ok (rixL (isL_raw hl2 (fun h => h) pr2) (nm S 4 rfl) (jneg jint) (atI_map (f := isN) atI_last)) fun u5 G3 H3 g3 r5 => ?_
  have gB := gA.trans g3
  show RunS X _ _ [some v1, some v2, some v3, some v4, some (.ref u), some u5, y, z] H3
  refine st_set S 6 g3.ok (jcall (kn_owner_of T) (S.gl _ rfl) (hr.mono (by decide)) ((ns, ps, ms), o, here) ol (ja (nm S 0 (mv gB r1)) (ja (nm S 1 (mv gB r2)) (ja (nm S 5 r5) ja0)))) fun u6 G4 H4 g4 r6 => ?_
  have gC := gB.trans g4
  have g24 := g3.trans g4
  have hl4 := g24.to0.H _ _ hl2
  have nu4 := g24.out hl2 nu2
  have pr4 := PR.mo g24.g pr2
  show RunS X _ _ [some v1, some v2, some v3, some v4, some (.ref u), some u5, some u6, z] H4
  have k' : ∀ {wd : Str} u G6 H6, Gw pureM G H G6 H6 → wayP ns ms o n b = (pre ++ [here], wd) → (tupR [tupR ((pre ++ [here]).map isN), isS wd]).p u G6 → Q u H6 := fun u G6 H6 g6 e r => k u G6 H6 g6 (by
    show (tupR [ordR (wayP ns ms o n b).1, isS (wayP ns ms o n b).2]).p u G6
    rw [e]
    exact r)
  by_cases hio : here ∈ o
  · have eo : ownerP ns o here = some (ns.getD (o.idxOf here) "") := by unfold ownerP; rw [if_pos hio]
    have r6' : (isS (ns.getD (o.idxOf here) "")).p u6 G4 := by
      have : (optS (ownerP ns o here)).p u6 G4 := r6
      rw [eo] at this
      exact this
    have hix : o.idxOf here < ns.length := by have := List.idxOf_lt_length_of_mem hio; omega
    refine st_ifn g4.ok (JT.eq (jtcmp op_isN (nm S 6 r6') jnon tw_isN) (by simp)) fun G5 H5 g5 => ?_
    have gD := gC.trans g5
    have hl5 := g5.to0.H _ _ hl4
    have nu5 := g5.out hl4 nu4
    have pr5 := PR.mo g5.g pr4
    refine st_ifr g5.ok (jtcmp op_eq (nm S 6 (mv g5 r6')) (nm S 2 (mv gD r3)) (tw_eq rfl)) (fun _ => jtup (ja (rtupL v (isL_raw hl5 (fun h => h) pr5) (nm S 4 rfl)) (ja (vgS v T.kept) ja0)) (by simp)) (fun t u G6 H6 g6 r => k' u G6 H6 (gD.trans g6) ?_ r) fun t G6 H6 g6 => ?_
    · have e1 : ns.getD (o.idxOf here) "" = n := by simpa using t
      rw [← hres]
      simp only [wayF]
      rw [if_pos hio, if_pos e1]
    have e1 : ¬ ns.getD (o.idxOf here) "" = n := by simpa using t
    have gE := gD.trans g6
    have hl6 := g6.to0.H _ _ hl5
    have nu6 := g6.out hl5 nu5
    have pr6 := PR.mo g6.g pr5
    refine st_set S 7 g6.ok (jcall (kn_handed_on T) (S.gl _ rfl) (hr.mono (by decide)) ((ns, ps, ms), o.idxOf here, n, here) ⟨ok, hix, hn'⟩ (ja (nm S 0 (mv gE r1)) (ja (nm S 6 (mv (g5.trans g6) r6')) (ja (nm S 2 (mv gE r3)) (ja (nm S 5 (mv ((g4.trans g5).trans g6) r5)) ja0))))) fun u7 G7 H7 g7 r7 => ?_
    have gF := gE.trans g7
    have hl7 := g7.to0.H _ _ hl6
    have nu7 := g7.out hl6 nu6
    have pr7 := PR.mo g7.g pr6
    show RunS X _ _ [some v1, some v2, some v3, some v4, some (.ref u), some u5, some u6, some u7] H7
    have r7' : (glR (handedP (ms.getD (o.idxOf here) .back) (ns.idxOf n) here)).p u7 G7 := r7
    have hlt' : ∀ g, handedP (ms.getD (o.idxOf here) .back) (ns.idxOf n) here = .to g → g < ps.length := fun g e => handed_lt ok hix e
    have hres2 : (match handedP (ms.getD (o.idxOf here) .back) (ns.idxOf n) here with | .back => (pre ++ [here], sBack) | .keep => (pre ++ [here], sLies) | .to g => if g ∈ pre ++ [here] then (pre ++ [here], sRound) else wayF ns ms o n f' ((pre ++ [here]) ++ [g]) g) = wayP ns ms o n b := by
      rw [← hres]
      conv => rhs; unfold wayF
      rw [if_pos hio, if_neg e1]
    generalize handedP (ms.getD (o.idxOf here) .back) (ns.idxOf n) here = gl at r7' hlt' hres2
    let wd : Str := match gl with | .back => sBack | _ => sLies
    refine st_ifr g7.ok (t := inV (glV gl) [.str sBack, .str sKeep]) (R := tupR [tupR ((pre ++ [here]).map isN), isS wd]) (jtcmp op_in_seq (nm S 7 r7') ((jtup (ja (vgS v T.backh) (ja (vgS v T.keep) ja0)) (by simp)).eq (congrArg tupR (show [isS sBack, isS sKeep] = [V.str sBack, V.str sKeep].map isV from rfl))) (tw_in (glV_flat gl) rfl))
      (fun _ => jtup (ja (rtupL v (isL_raw hl7 (fun h => h) pr7) (nm S 4 rfl)) (ja (jif (t := decide (glV gl = V.str sBack)) (jtcmp op_eq (nm S 7 r7') (vgS v T.backh) (tw_eq (by cases gl <;> rfl))) (fun t => (vgS v T.backh).eq ?_) (fun t => (vgS v T.lies).eq ?_)) ja0)) (by simp)) (fun t u G8 H8 g8 r => k' u G8 H8 (gF.trans g8) ?_ r) fun t G8 H8 g8 => ?_
    · cases gl with
      | back => rfl
      | keep => exact absurd (of_decide_eq_true t) (by unfold glV; intro z; exact absurd (V.str.inj z) (by decide))
      | to g => exact absurd (of_decide_eq_true t) (by unfold glV; intro z; cases z)
    · cases gl with
      | back => exact absurd rfl (of_decide_eq_false t)
      | keep => rfl
      | to g => rfl
    · rw [inV_gl] at t
      cases gl with
      | back => exact hres2.symm
      | keep => exact hres2.symm
      | to g => cases t
    rw [inV_gl] at t
    cases gl with
    | back => cases t
    | keep => cases t
    | to g =>
      have r8 : (isN g).p u7 G8 := mv g8 r7'
      have hl8 := g8.to0.H _ _ hl7
      have nu8 := g8.out hl7 nu7
      have pr8 := PR.mo g8.g pr7
      have gG := gF.trans g8
      refine st_ifr g8.ok (t := decide (g ∈ pre ++ [here])) (JT.eq (jtcmp op_in_seq (nm S 7 r8) (nm S 4 rfl) (rinL (isL_raw hl8 (fun h => h) (by rw [← nats_isV]; exact pr8)) rfl nats_flat)) inV_nat) (fun _ => jtup (ja (rtupL v (isL_raw hl8 (fun h => h) pr8) (nm S 4 rfl)) (ja (vgS v T.round) ja0)) (by simp)) (fun t u G9 H9 g9 r => k' u G9 H9 (gG.trans g9) ?_ r) fun t G9 H9 g9 => ?_
      · rw [← hres2]
        simp only
        rw [if_pos (of_decide_eq_true t)]
      have hng : ¬ g ∈ pre ++ [here] := of_decide_eq_false t
      have hl9 := g9.to0.H _ _ hl8
      have nu9 := g9.out hl8 nu8
      have pr9 := PR.mo g9.g pr8
      refine st_append g9.ok (nm S 4 rfl) hl9 (fun h => h) (by rw [pr9.len, List.length_map]; omega) (nm S 7 (mv g9 r8)) fun u9 G10 H10 g10 r10 hl10 => st0 ?_
      refine ⟨G10, vs ++ [u9], pre ++ [here], g, some u5, some u6, some u7, rfl, ((gG.trans g9).trans g10).set' (fun h => h) (g10.out hl9 nu9) hu0, upd_same, g10.out hl9 nu9, ?_, ?_, ?_, ?_, ?_⟩
      · rw [List.map_append]
        exact (PR.mo g10.g pr9).app (.cons r10 .nil)
      · rw [List.nodup_append]
        exact ⟨hnd, by simp, fun a ha c hc => by simp at hc; subst hc; exact fun e => hng (e ▸ ha)⟩
      · intro t ht
        rcases List.mem_append.mp ht with q | q
        · exact hlt t q
        · simp at q; rw [q]; exact hlt' g rfl
      · rw [List.length_append]; simp; simp at hf; omega
      · rw [← hres2]
        simp only
        rw [if_neg hng]
  · have eo : ownerP ns o here = none := by unfold ownerP; rw [if_neg hio]
    have r6' : (isO).p u6 G4 := by
      have : (optS (ownerP ns o here)).p u6 G4 := r6
      rw [eo] at this
      exact this
    refine st_ifr g4.ok (JT.eq (t := decide (V.non = V.non)) (jtcmp op_isN (nm S 6 (R := isV .non) r6') jnon tw_isN) (by simp) : JT pureM X _ _ G4 H4 true) (fun _ => jtup (ja (rtupL v (isL_raw hl4 (fun h => h) pr4) (nm S 4 rfl)) (ja (vgS v T.lies) ja0)) (by simp)) (fun t u G6 H6 g6 r => k' u G6 H6 (gC.trans g6) ?_ r) fun t => nomatch t
    rw [← hres]
    simp only [wayF]
    rw [if_neg hio]
end Lp
/-! ## D5 -/
set_option Elab.async false
set_option linter.all false
set_option maxRecDepth 100000
set_option maxHeartbeats 2000000
/-! answers, what is learned, orders exchanged. -/
namespace Lp
open PySem PySem.Spec PyProof.Rows L2
variable {P : Program} {w : World} {K : PySem.W.Frag} {mg : Str → Option Value} {base : Heap} {HC SC LC TC : Addr}
/-- box b's owner holds a seat row -/
def Seat (ms : List Mn) (o : List Nat) (b : Nat) : Prop := b ∈ o ∧ ∃ l, ms.getD (o.idxOf b) .back = .seat l
theorem handed_seat {m : Mn} {i b g : Nat} (h : handedP m i b = .to g) : ∃ l, m = .seat l := by
  cases m with
  | back => cases h
  | keep => cases h
  | seat l => exact ⟨l, rfl⟩
structure WayOk (ns ps : List Str) (ms : List Mn) (o : List Nat) (r : List Nat × Str) : Prop where
  ex : ∃ pre here, r.1 = pre ++ [here] ∧ ∀ b ∈ pre, Seat ms o b
  lt : ∀ b ∈ r.1, b < ps.length
  word : r.2 = sKept ∨ r.2 = sLies ∨ r.2 = sBack ∨ r.2 = sRound
theorem wayF_ok {ns ps : List Str} {ms : List Mn} {o : List Nat} {n : Str} (ok : OkH ns ps ms) (oo : OkO ns.length ps.length o) : ∀ (f : Nat) (pre : List Nat) (here : Nat), (∀ b ∈ pre, Seat ms o b) → (∀ b ∈ pre ++ [here], b < ps.length) → WayOk ns ps ms o (wayF ns ms o n f (pre ++ [here]) here)
  | 0, pre, here, h1, h2 => ⟨⟨pre, here, rfl, h1⟩, h2, .inr (.inr (.inr rfl))⟩
  | f + 1, pre, here, h1, h2 => by
    unfold wayF
    by_cases hio : here ∈ o
    · rw [if_pos hio]
      by_cases e1 : ns.getD (o.idxOf here) "" = n
      · rw [if_pos e1]
        exact ⟨⟨pre, here, rfl, h1⟩, h2, .inl rfl⟩
      · rw [if_neg e1]
        have hix : o.idxOf here < ns.length := by have := List.idxOf_lt_length_of_mem hio; have := oo.len; omega
        cases e : handedP (ms.getD (o.idxOf here) .back) (ns.idxOf n) here with
        | back => exact ⟨⟨pre, here, rfl, h1⟩, h2, .inr (.inr (.inl rfl))⟩
        | keep => exact ⟨⟨pre, here, rfl, h1⟩, h2, .inr (.inl rfl)⟩
        | to g =>
          simp only
          by_cases hg : g ∈ pre ++ [here]
          · rw [if_pos hg]
            exact ⟨⟨pre, here, rfl, h1⟩, h2, .inr (.inr (.inr rfl))⟩
          · rw [if_neg hg]
            refine wayF_ok ok oo f (pre ++ [here]) g (fun b hb => ?_) fun b hb => ?_
            · rcases List.mem_append.mp hb with q | q
              · exact h1 b q
              · rw [List.mem_singleton.mp q]; exact ⟨hio, handed_seat e⟩
            · rcases List.mem_append.mp hb with q | q
              · exact h2 b q
              · rw [List.mem_singleton.mp q]; exact handed_lt ok hix e
    · rw [if_neg hio]
      exact ⟨⟨pre, here, rfl, h1⟩, h2, .inr (.inl rfl)⟩
theorem wayP_ok {ns ps : List Str} {ms : List Mn} {o : List Nat} {n : Str} {b : Nat} (ok : OkH ns ps ms) (oo : OkO ns.length ps.length o) (hb : b < ps.length) : WayOk ns ps ms o (wayP ns ms o n b) :=
  wayF_ok ok oo 9 [] b (fun b hb => nomatch hb) fun t ht => by simp at ht; omega
def answerP (r : List Nat × Str) : Option Nat := if r.2 = sBack then some (r.1.length - 1) else none
abbrev Hs := List Str × List Str × List Mn
theorem kn_answer_of (T : Txt K mg w HC SC LC TC) : Kn P w K mg base 3 "answer_of" (spP (fun i : Hs × List Nat × Str × Nat => OkH i.1.1 i.1.2.1 i.1.2.2 ∧ OkO i.1.1.length i.1.2.1.length i.2.1 ∧ i.2.2.1 ∈ i.1.1 ∧ i.2.2.2 < i.1.2.1.length)
    (fun i => [hsR HC i.1.1 i.1.2.1 i.1.2.2, ordR i.2.1, isS i.2.2.1, isN i.2.2.2]) (fun i => optR (answerP (wayP i.1.1 i.1.2.2 i.2.1 i.2.2.1 i.2.2.2)))) := by
  refine kn_body T.answer_of sc_answer_of lo_answer_of (fun _ => rfl) ?_
  rintro X S rfl rfl rfl rfl rfl hx hr vs G H Q ⟨⟨ns, ps, ms⟩, o, n, b⟩ s ⟨ok, oo, hn, hb⟩ pr k
  obtain ⟨v1, v2, v3, v4, rfl, r1, r2, r3, r4⟩ := PR.four pr
  have v := S.vw T.b hr
  have wo := wayP_ok (n := n) ok oo hb
  refine st_unp2 S 4 5 s (jcall (kn_way_of T) (S.gl _ rfl) hr ((ns, ps, ms), o, n, b) ⟨ok, oo, hn, hb⟩ (ja (nm S 0 r1) (ja (nm S 1 r2) (ja (nm S 2 r3) (ja (nm S 3 r4) ja0))))) fun u1 u2 G1 H1 g1 q1 q2 => ?_
  obtain ⟨⟨pre, here, e, _⟩, _, _⟩ := wo
  refine st_ret g1.ok (R := optR (answerP (wayP ns ms o n b))) (jif (jtcmp op_eq (nm S 5 q2) (vgS v T.backh) (tw_eq rfl)) (fun t => ?_) fun t => ?_) fun u G2 H2 g2 r => k u G2 H2 (g1.trans g2) r
  · have : (wayP ns ms o n b).2 = sBack := by simpa using t
    unfold answerP
    rw [if_pos this]
    refine (jsub (vlenT v (nm S 4 q1)) jint).eq ?_
    show isI _ = isN ((wayP ns ms o n b).1.length - 1)
    have e' : (wayP ns ms o n b).1.length = pre.length + 1 := by rw [e]; simp
    rw [List.length_map]
    show isI (((wayP ns ms o n b).1.length : Int) - 1) = _
    rw [e']
    show isV _ = isV _
    congr 2
    omega
  · have : ¬ (wayP ns ms o n b).2 = sBack := by simpa using t
    unfold answerP
    rw [if_neg this]
    exact jnon
/-- seat i of a manner set -/
def setSeat : Mn → Nat → Option Nat → Mn
  | .seat l, i, g => .seat (l.set i g)
  | m, _, _ => m
def learn1 (o : List Nat) (j : Nat) (g : Option Nat) (ms : List Mn) (b : Nat) : List Mn := ms.set (o.idxOf b) (setSeat (ms.getD (o.idxOf b) .back) j g)
def learnP (ns : List Str) (o : List Nat) (n : Str) (ms : List Mn) (bs : List Nat) (g : Option Nat) : List Mn := bs.foldl (learn1 o (ns.idxOf n) g) ms
theorem getD_mem {ms : List Mn} {i : Nat} (h : i < ms.length) : ms.getD i .back ∈ ms := by
  rw [List.getD_eq_getElem?_getD, List.getElem?_eq_getElem h]
  exact List.getElem_mem h
theorem okM_set {k n i : Nat} {m : Mn} {g : Option Nat} (h : OkM k n m) (hg : ∀ b, g = some b → b < n) : OkM k n (setSeat m i g) := by
  cases m with
  | back => trivial
  | keep => trivial
  | seat l =>
    obtain ⟨h1, h2⟩ := h
    exact ⟨by rw [List.length_set]; exact h1, fun b hb => (List.mem_or_eq_of_mem_set hb).elim (h2 b) fun e => hg b e.symm⟩
theorem okH_learn1 {ns ps : List Str} {ms : List Mn} {o : List Nat} {j b : Nat} {g : Option Nat} (ok : OkH ns ps ms) (hb : o.idxOf b < ns.length) (hg : ∀ b, g = some b → b < ps.length) : OkH ns ps (learn1 o j g ms b) :=
  ⟨ok.n, ok.p, by unfold learn1; rw [List.length_set]; exact ok.ml, fun m hm => (List.mem_or_eq_of_mem_set hm).elim (ok.m m) fun e => e ▸ okM_set (ok.m _ (getD_mem (by have := ok.ml; omega))) hg⟩
theorem seat_learn1 {ms : List Mn} {o : List Nat} {j b c : Nat} {g : Option Nat} (h : Seat ms o c) : Seat (learn1 o j g ms b) o c := by
  obtain ⟨h1, l, h2⟩ := h
  refine ⟨h1, ?_⟩
  unfold learn1
  by_cases e : o.idxOf b = o.idxOf c
  · by_cases hl : o.idxOf c < ms.length
    · refine ⟨l.set j g, ?_⟩
      rw [List.getD_eq_getElem?_getD, e, List.getElem?_set_self hl, h2]
      rfl
    · rw [List.getD_eq_getElem?_getD, List.getElem?_eq_none (by omega)] at h2
      cases h2
  · refine ⟨l, ?_⟩
    rw [List.getD_eq_getElem?_getD, List.getElem?_set_ne e, ← List.getD_eq_getElem?_getD]
    exact h2
theorem set_cut {α : Type} {l : List α} {i : Nat} {a : α} (h : i < l.length) : l.take i ++ [a] ++ l.drop (i + 1) = l.set i a := by
  rw [List.set_eq_take_append_cons_drop, if_pos h]
  simp
theorem kn_learned (T : Txt K mg w HC SC LC TC) : Kn P w K mg base 8 "learned" (spP (fun i : Hs × List Nat × Str × (List Nat × Nat) × Option Nat => OkH i.1.1 i.1.2.1 i.1.2.2 ∧ OkO i.1.1.length i.1.2.1.length i.2.1 ∧ i.2.2.1 ∈ i.1.1 ∧ (∀ b ∈ i.2.2.2.1.1, Seat i.1.2.2 i.2.1 b) ∧ ∀ b, i.2.2.2.2 = some b → b < i.1.2.1.length)
    (fun i => [hsR HC i.1.1 i.1.2.1 i.1.2.2, ordR i.2.1, isS i.2.2.1, ordR (i.2.2.2.1.1 ++ [i.2.2.2.1.2]), optR i.2.2.2.2]) (fun i => hsR HC i.1.1 i.1.2.1 (learnP i.1.1 i.2.1 i.2.2.1 i.1.2.2 i.2.2.2.1.1 i.2.2.2.2))) := by
  refine kn_body T.learned sc_learned lo_learned (fun _ => rfl) ?_
  rintro X S rfl rfl rfl rfl rfl hx hr vs G H Q ⟨⟨ns, ps, ms⟩, o, n, ⟨pre, last⟩, g⟩ s ⟨ok, oo, hn, hs, hg⟩ pr k
  obtain ⟨v1, v2, v3, v4, v5, rfl, r1, r2, r3, r4, r5⟩ := PR.five pr
  have v := S.vw T.b hr
  have ol : o.length = ns.length := oo.len
  have hni := List.idxOf_lt_length_of_mem (show n ∈ ns from hn)
  have h6 : ns.length ≤ 6 := ok.n.l6
  refine st_set S 5 s (vtixS hn (jpropSl T.hs (kn_House_names T) (hr.mono (by decide)) (ns, ps, ms) trivial (nm S 0 r1) rfl) (nm S 2 r3)) fun u6 G1 H1 g1 r6 => ?_
  have cut : cutR ((pre ++ [last]).map isN) none (some (-1)) = pre.map isN := by rw [cutR_but, List.map_append]; simp
  refine st_for (pre.map isN) g1.ok S.calm hx (jiT ((jslT (nm S 3 (mv g1 r4)) jo0 (jo1 (jneg jint))).eq (congrArg tupR cut))) (S.pg 6) fun G2 H2 g2 => ?_
  have g12 := g1.trans g2
  refine ⟨fun i σ' G' H' => Gw pureM G2 H2 G' H' ∧ ∃ h x y z, σ' = [some h, some v2, some v3, some v4, some v5, some u6, x, y, z] ∧ (hsR HC ns ps (learnP ns o n ms (pre.take i) g)).p h G' ∧ OkH ns ps (learnP ns o n ms (pre.take i) g) ∧ ∀ b ∈ pre, Seat (learnP ns o n ms (pre.take i) g) o b,
    ⟨g2.rf, v1, none, none, none, rfl, mv g12 r1, ok, hs⟩, fun i σ' G' H' h => ⟨h.1.g, h.1.s⟩, ?_, ?_⟩
  · rintro i R u σ' G' H' G3 H3 hR ⟨g', h, x, y, z, rfl, rh, okh, hse⟩ gr3 r
    have hi : i < pre.length := by
      rcases Nat.lt_or_ge i pre.length with q | q
      · exact q
      · rw [List.getElem?_eq_none (by simpa using q)] at hR; cases hR
    rw [List.getElem?_map, List.getElem?_eq_getElem hi] at hR
    obtain rfl : isN pre[i] = R := by simpa using hR
    have hbm : pre[i] ∈ pre := List.getElem_mem hi
    have et : learnP ns o n ms (pre.take (i + 1)) g = learn1 o (ns.idxOf n) g (learnP ns o n ms (pre.take i) g) pre[i] := by
      unfold learnP
      rw [List.take_succ, List.getElem?_eq_getElem hi]
      show List.foldl _ ms (pre.take i ++ [pre[i]]) = _
      rw [List.foldl_append]
      rfl
    dsimp only
    rw [et]
    generalize pre[i] = bx at r hbm
    generalize learnP ns o n ms (pre.take i) g = ms2 at rh okh hse
    have g23 : Gw pureM G2 H2 G3 H3 := g'.trans (Gw.up0 g'.ok gr3)
    have g3 := g12.trans g23
    obtain ⟨hbo, l, hl⟩ := hse bx hbm
    have hix : o.idxOf bx < ns.length := by have := List.idxOf_lt_length_of_mem hbo; omega
    have hml := okh.ml
    have rh3 : (hsR HC ns ps ms2).p h G3 := Rel.mo _ gr3.g rh
    show RunS X _ _ [some h, some v2, some v3, some v4, some v5, some u6, some u, y, z] H3
    have eo : ownerP ns o bx = some (ns.getD (o.idxOf bx) "") := by unfold ownerP; rw [if_pos hbo]
    have en : ns.getD (o.idxOf bx) "" = ns[o.idxOf bx] := by rw [List.getD_eq_getElem?_getD, List.getElem?_eq_getElem hix]; rfl
    have em : ms2.getD (o.idxOf bx) .back = ms2[o.idxOf bx]'(by omega) := by rw [List.getD_eq_getElem?_getD, List.getElem?_eq_getElem (by omega)]; rfl
    refine st_set S 7 g3.ok (J.eq (R1 := isS ns[o.idxOf bx]) (jcall (kn_owner_of T) (S.gl _ rfl) (hr.mono (by decide)) ((ns, ps, ms2), o, bx) ol (ja (nm S 0 rh3) (ja (nm S 1 (mv g3 r2)) (ja (nm S 6 r) ja0)))) (by show optS (ownerP ns o bx) = _; rw [eo, en]; rfl)) fun u7 G4 H4 g4 r7 => ?_
    show RunS X _ _ [some h, some v2, some v3, some v4, some v5, some u6, some u, some u7, z] H4
    refine st_set S 8 g4.ok (J.eq (R1 := tupR (l.map optR)) (vixD v (jpropSl T.hs (kn_House_manners T) (hr.mono (by decide)) (ns, ps, ms2) trivial (nm S 0 (mv g4 rh3)) rfl) (nm S 7 r7) (waysD_at (asc_nodup ok.n.asc) hml hix)) (by rw [← em, hl]; rfl)) fun u8 G5 H5 g5 r8 => ?_
    show RunS X _ _ [some h, some v2, some v3, some v4, some v5, some u6, some u, some u7, some u8] H5
    have g35 := g3.trans (g4.trans g5)
    have okl : l.length = ns.length ∧ ∀ b, some b ∈ l → b < ps.length := by
      have := okh.m _ (getD_mem (i := o.idxOf bx) (by omega))
      rw [hl] at this
      exact this
    have ec : (cutR (l.map optR) none (some ((ns.idxOf n : Nat) : Int)) ++ [optR g]) ++ cutR (l.map optR) (some (((ns.idxOf n + 1 : Nat) : Int))) none = (l.set (ns.idxOf n) g).map optR := by
      rw [cutR_to, cutR_from, ← set_cut (by omega)]
      simp [List.map_take, List.map_drop]
    have hseat : setSeat (ms2.getD (o.idxOf bx) .back) (ns.idxOf n) g = .seat (l.set (ns.idxOf n) g) := by rw [hl]; rfl
    have okl1 : OkH ns ps (learn1 o (ns.idxOf n) g ms2 bx) := okH_learn1 okh hix hg
    refine st_set S 0 g5.ok (J.eq (R1 := hsR HC ns ps (learn1 o (ns.idxOf n) g ms2 bx)) (jcall (kn_with_manner T) (S.gl _ rfl) hr ((ns, ps, ms2), o.idxOf bx, setSeat (ms2.getD (o.idxOf bx) .back) (ns.idxOf n) g) ⟨okh, hix, okM_set (okh.m _ (getD_mem (by omega))) hg⟩ (ja (nm S 0 (mv (g4.trans g5) rh3)) (ja ((nm S 7 (mv g5 r7)).eq (by rw [← en])) (ja (J.eq (R1 := mnR (setSeat (ms2.getD (o.idxOf bx) .back) (ns.idxOf n) g)) (jcatT (jcatT (jslT (nm S 8 r8) jo0 (jo1 (nm S 5 (mv (g23.trans (g4.trans g5)) (mv g2 r6))))) (jtup (ja (nm S 4 (mv g35 r5)) ja0) (by simp)) ?_) (jslT (nm S 8 r8) (jo1 (jadd (nm S 5 (mv (g23.trans (g4.trans g5)) (mv g2 r6))) jint)) jo0) ?_) ?_) ja0)))) rfl) fun u9 G6 H6 g6 r9 => st0 ⟨G6, (g23.trans (g4.trans g5)).trans g6, u9, some u, some u7, some u8, rfl, r9, okl1, fun b hb => seat_learn1 (hse b hb)⟩
    · rw [cutR_to]; simp; omega
    · rw [cutR_to, show (((ns.idxOf n : Nat) : Int) + 1) = ((ns.idxOf n + 1 : Nat) : Int) by omega, cutR_from]; simp; omega
    · rw [hseat, show (((ns.idxOf n : Nat) : Int) + 1) = ((ns.idxOf n + 1 : Nat) : Int) by omega]
      show tupR ((cutR (l.map optR) none (some ((ns.idxOf n : Nat) : Int)) ++ [optR g]) ++ cutR (l.map optR) (some (((ns.idxOf n + 1 : Nat) : Int))) none) = tupR ((l.set (ns.idxOf n) g).map optR)
      rw [ec]
  · rintro σ' G' H' ⟨g', h, x, y, z, rfl, rh, okh, hse⟩
    rw [List.length_map, List.take_length] at rh
    exact st_ret g'.ok (nm S 0 rh) fun u G3 H3 g3 r => k u G3 H3 ((g12.trans g').trans g3) r
end Lp
/-! ## Rw -/
set_option Elab.async false
set_option linter.all false
set_option maxRecDepth 100000
set_option maxHeartbeats 2000000
/-! Lists and dicts under construction: made, written. -/
namespace Lp
open PySem PySem.Spec PyProof.Rows L2
section
variable {W : Md} {X : Cx} {σ : L2.St} {G H G' H' : Hp} {e a b c o i : Expr} {es : List Expr} {R R1 R2 R3 : Rel} {Rs Ss : List Rel} {pos p p2 q apos tpos p1' p2' : Pos} {N C : List Str} {sc : Scope} {rest : List Stmt} {D : Ends} {kt k2 : Nat}
/-- list(t), not finished -/
theorem glistT {Q : VK} (v : Vw X sc) (s : Ok W G H) (h : J W X e σ G H (tupR Rs)) (k : ∀ vs u G' H', Gw W G H G' H' → PR G' vs Rs → H' u = none → Q (.ref u) (upd H' u (.lst vs))) (hg : sc.names.lookup ("list" : Str) = some .globalImplicit := by rfl) (hs : starEach [e] X.env = [(false, eval e X.env)] := by rfl) : RunE X (.Call (.Name "list" p) [e] [] pos) σ H Q :=
  gE (pe_callTy call_list_of (v.gl _ hg) v.b.list (by decide +kernel) sA (he := hs)) ((ja h ja0 hs).here s fun vs G1 H1 g pr => by
    obtain ⟨x, rfl, l, ws, rfl, hl, q⟩ := PR.one pr
    exact ⟨l, ws, rfl, .inr (sqT g hl), fun u hu => k ws u G1 H1 g q hu⟩)
theorem glistL {Q : VK} (v : Vw X sc) (s : Ok W G H) (h : J W X e σ G H (lstR Rs)) (k : ∀ vs u G' H', Gw W G H G' H' → PR G' vs Rs → H' u = none → Q (.ref u) (upd H' u (.lst vs))) (hg : sc.names.lookup ("list" : Str) = some .globalImplicit := by rfl) (hs : starEach [e] X.env = [(false, eval e X.env)] := by rfl) : RunE X (.Call (.Name "list" p) [e] [] pos) σ H Q :=
  gE (pe_callTy call_list_of (v.gl _ hg) v.b.list (by decide +kernel) sA (he := hs)) ((ja h ja0 hs).here s fun vs G1 H1 g pr => by
    obtain ⟨x, rfl, l, ws, rfl, hl, q⟩ := PR.one pr
    exact ⟨l, ws, rfl, .inl (sqL g hl), fun u hu => k ws u G1 H1 g q hu⟩)
/-- dict(d), not finished -/
theorem gdictD {Q : VK} {ds : List (Str × Rel)} (v : Vw X sc) (s : Ok W G H) (h : J W X e σ G H (dctR ds)) (k : ∀ kvs u G' H', Gw W G H G' H' → PD G' kvs ds → H' u = none → Q (.ref u) (upd H' u (.dK kvs))) (hg : sc.names.lookup ("dict" : Str) = some .globalImplicit := by rfl) (hs : starEach [e] X.env = [(false, eval e X.env)] := by rfl) : RunE X (.Call (.Name "dict" p) [e] [] pos) σ H Q :=
  gE (pe_callTy call_dictD (v.gl _ hg) v.b.dict (by decide +kernel) sA (he := hs)) ((ja h ja0 hs).here s fun vs G1 H1 g pr => by
    obtain ⟨x, rfl, l, ws, rfl, hl, q⟩ := PR.one pr
    exact ⟨l, ws, rfl, .of (g.s _ _ hl), fun u hu => k ws u G1 H1 g q hu⟩)
/-- l[i] = e -/
theorem st_lset {l : Addr} {vs : List V} {j : Int} {n : Nat} (s : Ok W G H) (h : J W X e σ G H R) (ho : J W X o σ G H (isV (.ref l))) (hi : J W X i σ G H (isI j)) (hl : H l = some (.lst vs)) (nm : ¬ W.m l) (hn : ixN vs.length j = some n)
    (k : ∀ v G' H', Gw W G H G' H' → R.p v G' → H' l = some (.lst vs) → RunS X rest D σ (upd H' l (.lst (vs.set n v))))
    (ha : ∀ v, assign (.Subscript o i p2) X.env v = (do
      let ov ← holding [v] (eval o X.env)
      let iv ← holding [v, ov] (eval i X.env)
      standAt p2
      holding [v, ov, iv] (setItem ov iv v)
      release [v, ov, iv] []) := by intro _; rfl)
    (hs : swapsWithSole [.Subscript o i p2] e pos.line X.env = pure false := by rfl) (hw : swappedStores [.Subscript o i p2] e X.env = pure none := by rfl) (h1 : (assignEach [.Subscript o i p2] X.env).map (·.2) = [assign (.Subscript o i p2) X.env] := by rfl) : RunS X (.Assign [.Subscript o i p2] e pos :: rest) D σ H :=
  st (ps_asg sE (pg_sub sE sE set_list ha) hs hw h1) (h.here s fun v G1 H1 g1 r1 => ho G1 H1 g1 _ fun u G2 H2 g2 r2 => hi G2 H2 (g1.trans g2) _ fun w G3 H3 g3 r3 =>
    have g := (g1.trans g2).trans g3
    ⟨l, vs, j, n, r2, r3, g.gr.h _ _ nm hl, hn, k v G3 H3 g (R.mo (g2.trans g3).g r1) (g.gr.h _ _ nm hl)⟩)
/-- d[z] = e -/
theorem st_dset {l : Addr} {kvs : List (Key × V)} {z : Str} (hu : X.A.units + 1 < cLine) (s : Ok W G H) (h : J W X e σ G H R) (ho : J W X o σ G H (isV (.ref l))) (hi : J W X i σ G H (isS z)) (hl : H l = some (.dK kvs)) (nm : ¬ W.m l) (hz : kvs.length ≤ 1000)
    (k : ∀ v G' H', Gw W G H G' H' → R.p v G' → H' l = some (.dK kvs) → RunS X rest D σ (upd H' l (.dK (putK kvs (Sum.inr z) v)))) (hs : swapsWith e (some (.Subscript o i p2)) pos.line X.env = pure false := by rfl) : RunS X (.Assign [.Subscript o i p2] e pos :: rest) D σ H :=
  st (ps_dput hu sE sE sE hs) (h.here s fun v G1 H1 g1 r1 => ho G1 H1 g1 _ fun u G2 H2 g2 r2 => hi G2 H2 (g1.trans g2) _ fun w G3 H3 g3 r3 => by
    have g := (g1.trans g2).trans g3
    have h3 := g.gr.h _ _ nm hl
    obtain rfl : w = V.str z := r3
    exact ⟨l, _, r2, DPut.k (k := Sum.inr z) h3 (Nat.lt_of_le_of_lt hz (by rw [sizeLine_eq]; decide)), k v G3 H3 g (R.mo (g2.trans g3).g r1) h3⟩)
theorem ixN_nat {n j : Nat} (h : j < n) : ixN n (j : Int) = some j := by
  unfold ixN
  rw [if_pos (by omega), if_pos (by omega)]
  simp
/-- l[i], l[j] = l[j], l[i] or the like: two stores into one list under construction -/
theorem st_lset2 {l : Addr} {vs : List V} {i2 o2 : Expr} {m n : Nat} (S : Sees X N C sc) (s : Ok W G H) (h : J W X (.Tuple es k2 q) σ G H (tupR [R1, R2])) (ho : J W X o σ G H (isV (.ref l))) (hi : J W X i σ G H (isN m)) (ho2 : J W X o2 σ G H (isV (.ref l))) (hi2 : J W X i2 σ G H (isN n))
    (hpo : ∀ (G1 H1 : Hp) (vs' : List V), Gw W G H G1 H1 → ∀ Q : VK, Q (.ref l) (upd H1 l (.lst vs')) → RunE X o2 σ (upd H1 l (.lst vs')) Q) (hpi : ∀ (G1 H1 : Hp) (vs' : List V), Gw W G H G1 H1 → ∀ Q : VK, Q (.int (n : Int)) (upd H1 l (.lst vs')) → RunE X i2 σ (upd H1 l (.lst vs')) Q)
    (hl : H l = some (.lst vs)) (nm : ¬ W.m l) (hm : m < vs.length) (hn : n < vs.length)
    (k : ∀ v w G' H', Gw W G H G' H' → R1.p v G' → R2.p w G' → RunS X rest D σ (upd H' l (.lst ((vs.set m v).set n w))))
    (ha : ∀ v, assign (.Subscript o i p1') X.env v = (do
      let ov ← holding [v] (eval o X.env)
      let iv ← holding [v, ov] (eval i X.env)
      standAt p1'
      holding [v, ov, iv] (setItem ov iv v)
      release [v, ov, iv] []) := by intro _; rfl)
    (ha2 : ∀ v, assign (.Subscript o2 i2 p2') X.env v = (do
      let ov ← holding [v] (eval o2 X.env)
      let iv ← holding [v, ov] (eval i2 X.env)
      standAt p2'
      holding [v, ov, iv] (setItem ov iv v)
      release [v, ov, iv] []) := by intro _; rfl)
    (hs : swapsWithSole [.Tuple [.Subscript o i p1', .Subscript o2 i2 p2'] kt tpos] (.Tuple es k2 q) pos.line X.env = pure false := by rfl) (hw : swappedStores [.Tuple [.Subscript o i p1', .Subscript o2 i2 p2'] kt tpos] (.Tuple es k2 q) { X.env with scope := sc } = pure none := by rfl)
    (h1 : (assignEach [.Tuple [.Subscript o i p1', .Subscript o2 i2 p2'] kt tpos] X.env).map (·.2) = [assign (.Tuple [.Subscript o i p1', .Subscript o2 i2 p2'] kt tpos) X.env] := by rfl)
    (hc1 : (assignEach [.Subscript o i p1', .Subscript o2 i2 p2'] X.env).map (·.2) = assign (.Subscript o i p1') X.env :: (assignEach [.Subscript o2 i2 p2'] X.env).map (·.2) := by rfl)
    (hc2 : (assignEach [.Subscript o2 i2 p2'] X.env).map (·.2) = assign (.Subscript o2 i2 p2') X.env :: (assignEach [] X.env).map (·.2) := by rfl)
    (hn2 : (assignEach [.Subscript o i p1', .Subscript o2 i2 p2'] X.env).length = 2 := by rfl) (hst : (assignEach [.Subscript o i p1', .Subscript o2 i2 p2'] X.env).findIdx? (·.1) = none := by rfl) :
    RunS X (.Assign [.Tuple [.Subscript o i p1', .Subscript o2 i2 p2'] kt tpos] (.Tuple es k2 q) pos :: rest) D σ H :=
  st (ps_asg sE (pg_tup S.calm (pgs_cons (pg_sub sE sE set_list ha) (pgs_cons (pg_sub sE sE set_list ha2) pgs_nil hc2) hc1) hn2 hst) hs ((swapped_eq S.sce).trans hw) h1) (h.here s fun t G1 H1 g1 ⟨ta, ws, et, hT, pr⟩ => by
    obtain ⟨v1, v2, rfl, r1, r2⟩ := PR.two pr
    refine ⟨ta, [v1, v2], et, sqT g1 hT, rfl, v1, [v2], rfl, ho G1 H1 g1 _ fun u G2 H2 g2 q2 => hi G2 H2 (g1.trans g2) _ fun w G3 H3 g3 q3 => ?_⟩
    have g := (g1.trans g2).trans g3
    refine ⟨l, vs, (m : Int), m, q2, q3, g.gr.h _ _ nm hl, ixN_nat hm, v2, [], rfl, ?_⟩
    refine hpo G3 H3 _ g _ (hpi G3 H3 _ g _ ⟨l, vs.set m v1, (n : Int), n, rfl, rfl, upd_same, ixN_nat (by rw [List.length_set]; exact hn), rfl, ?_⟩)
    have e : upd (upd H3 l (.lst (vs.set m v1))) l (.lst ((vs.set m v1).set n v2)) = upd H3 l (.lst ((vs.set m v1).set n v2)) := by
      funext c
      by_cases hc : c = l
      · rw [hc, upd_same, upd_same]
      · rw [upd_ne hc, upd_ne hc, upd_ne hc]
    rw [e]
    exact k v1 v2 G3 H3 g (R1.mo (g2.trans g3).g r1) (R2.mo (g2.trans g3).g r2))
/-- a name's value whatever stands in the heap -/
theorem rnm (S : Sees X N C sc) (j : Nat) {x : Str} {v : V} {H : Hp} {Q : VK} (q : Q v H) (hσ : σ[j]? = some (some v) := by rfl) (hN : N[j]? = some x := by rfl) (hd : (x == ("__debug__" : Str)) = false := by decide)
    (hcd : (x == ("__classdict__" : Str)) = false := by decide) : RunE X (.Name x pos) σ H Q :=
  gE (pv j (by rw [S.hN]; exact app_ix hN) (by rcases S.loc x (List.mem_of_getElem? hN) with k | k; exact .inl k; exact .inr (.inl k)) hd hcd) ⟨v, hσ, q⟩
end
end Lp
/-! ## D6 -/
set_option Elab.async false
set_option linter.all false
set_option maxRecDepth 100000
set_option maxHeartbeats 2000000
/-! behind_letter, exchanged, is_operation. -/
namespace Lp
open PySem PySem.Spec PyProof.Rows L2
variable {P : Program} {w : World} {K : PySem.W.Frag} {mg : Str → Option Value} {base : Heap} {HC SC LC TC : Addr}
/-- the manners behind a letter -/
def behindP (ns : List Str) (ms : List Mn) (o : List Nat) (n : Str) (r : List Nat × Str) : List Mn :=
  if r.2 = sKept then learnP ns o n ms r.1.dropLast (some (r.1.getLastD 0)) else if r.2 = sBack then learnP ns o n ms r.1.dropLast none else ms
theorem kn_behind_letter (T : Txt K mg w HC SC LC TC) : Kn P w K mg base 9 "behind_letter" (spP (fun i : Hs × List Nat × Str × Nat => OkH i.1.1 i.1.2.1 i.1.2.2 ∧ OkO i.1.1.length i.1.2.1.length i.2.1 ∧ i.2.2.1 ∈ i.1.1 ∧ i.2.2.2 < i.1.2.1.length)
    (fun i => [hsR HC i.1.1 i.1.2.1 i.1.2.2, ordR i.2.1, isS i.2.2.1, isN i.2.2.2]) (fun i => tupR [hsR HC i.1.1 i.1.2.1 (behindP i.1.1 i.1.2.2 i.2.1 i.2.2.1 (wayP i.1.1 i.1.2.2 i.2.1 i.2.2.1 i.2.2.2)), isS (wayP i.1.1 i.1.2.2 i.2.1 i.2.2.1 i.2.2.2).2, isI (((wayP i.1.1 i.1.2.2 i.2.1 i.2.2.1 i.2.2.2).1.length : Int) - 1)])) := by
  refine kn_body T.behind_letter sc_behind_letter lo_behind_letter (fun _ => rfl) ?_
  rintro X S rfl rfl rfl rfl rfl hx hr vs G H Q ⟨⟨ns, ps, ms⟩, o, n, b⟩ s ⟨ok, oo, hn, hb⟩ pr k
  obtain ⟨v1, v2, v3, v4, rfl, r1, r2, r3, r4⟩ := PR.four pr
  have v := S.vw T.b hr
  obtain ⟨⟨pre, here, e, hse⟩, hlt, _⟩ := wayP_ok (n := n) ok oo hb
  refine st_unp2 S 4 5 s (jcall (kn_way_of T) (S.gl _ rfl) (hr.mono (by decide)) ((ns, ps, ms), o, n, b) ⟨ok, oo, hn, hb⟩ (ja (nm S 0 r1) (ja (nm S 1 r2) (ja (nm S 2 r3) (ja (nm S 3 r4) ja0))))) fun u1 u2 G1 H1 g1 q1 q2 => ?_
  have k' : ∀ u G' H', Gw pureM G H G' H' → (tupR [hsR HC ns ps (behindP ns ms o n (wayP ns ms o n b)), isS (wayP ns ms o n b).2, isI (((wayP ns ms o n b).1.length : Int) - 1)]).p u G' → Q u H' := k
  have q1' : (ordR (wayP ns ms o n b).1).p u1 G1 := q1
  have q2' : (isS (wayP ns ms o n b).2).p u2 G1 := q2
  generalize wayP ns ms o n b = r at q1' q2' k' e hlt hse
  obtain ⟨bs, wd⟩ := r
  obtain rfl : bs = pre ++ [here] := e
  have hl : here < ps.length := hlt here (by simp)
  have ebut : (pre ++ [here]).dropLast = pre := by simp
  have elast : (pre ++ [here]).getLastD 0 = here := by simp
  refine st_if g1.ok (t := decide (V.str wd = V.str sKept)) (jtcmp op_eq (nm S 5 q2') (vgS v T.kept) (tw_eq rfl)) (fun t G2 H2 g2 => ?_) fun t G2 H2 g2 => ?_
  · have ew : wd = sKept := by simpa using t
    have g12 := g1.trans g2
    refine st_set S 0 g2.ok (jcall (kn_learned T) (S.gl _ rfl) hr ((ns, ps, ms), o, n, (pre, here), some here) ⟨ok, oo, hn, hse, fun b hb => by cases hb; exact hl⟩ (ja (nm S 0 (mv g12 r1)) (ja (nm S 1 (mv g12 r2)) (ja (nm S 2 (mv g12 r3)) (ja (nm S 4 (mv g2 q1')) (ja (jixT (nm S 4 (mv g2 q1')) (jneg jint) (atI_map (f := isN) atI_last)) ja0)))))) fun u3 G3 H3 g3 r3' => st0 ?_
    have eb : behindP ns ms o n (pre ++ [here], wd) = learnP ns o n ms pre (some here) := by unfold behindP; rw [if_pos ew]; simp only [ebut, elast]
    rw [eb] at k'
    exact st_ret g3.ok (jtup (ja (nm S 0 r3') (ja (nm S 5 (mv (g2.trans g3) q2')) (ja ((jsub (vlenT v (nm S 4 (mv (g2.trans g3) q1'))) jint).eq (by rw [List.length_map])) ja0))) (by simp)) fun u G4 H4 g4 r => k' u G4 H4 ((g12.trans g3).trans g4) r
  · have ew : ¬ wd = sKept := by simpa using t
    have g12 := g1.trans g2
    refine st_if g2.ok (t := decide (V.str wd = V.str sBack)) (jtcmp op_eq (nm S 5 (mv g2 q2')) (vgS v T.backl) (tw_eq rfl)) (fun t2 G3 H3 g3 => ?_) fun t2 G3 H3 g3 => st0 (st0 ?_)
    · have ew2 : wd = sBack := by simpa using t2
      have g13 := g12.trans g3
      refine st_set S 0 g3.ok (jcall (kn_learned T) (S.gl _ rfl) hr ((ns, ps, ms), o, n, (pre, here), none) ⟨ok, oo, hn, hse, fun b hb => nomatch hb⟩ (ja (nm S 0 (mv g13 r1)) (ja (nm S 1 (mv g13 r2)) (ja (nm S 2 (mv g13 r3)) (ja (nm S 4 (mv (g2.trans g3) q1')) (ja jnon ja0)))))) fun u3 G4 H4 g4 r3' => st0 (st0 ?_)
      have eb : behindP ns ms o n (pre ++ [here], wd) = learnP ns o n ms pre none := by unfold behindP; rw [if_neg ew, if_pos ew2]; simp only [ebut]
      rw [eb] at k'
      exact st_ret g4.ok (jtup (ja (nm S 0 r3') (ja (nm S 5 (mv ((g2.trans g3).trans g4) q2')) (ja ((jsub (vlenT v (nm S 4 (mv ((g2.trans g3).trans g4) q1'))) jint).eq (by rw [List.length_map])) ja0))) (by simp)) fun u G5 H5 g5 r => k' u G5 H5 ((g13.trans g4).trans g5) r
    · have ew2 : ¬ wd = sBack := by simpa using t2
      have g13 := g12.trans g3
      have eb : behindP ns ms o n (pre ++ [here], wd) = ms := by unfold behindP; rw [if_neg ew, if_neg ew2]
      rw [eb] at k'
      exact st_ret g3.ok (jtup (ja (nm S 0 (mv g13 r1)) (ja (nm S 5 (mv (g2.trans g3) q2')) (ja ((jsub (vlenT v (nm S 4 (mv (g2.trans g3) q1'))) jint).eq (by rw [List.length_map])) ja0))) (by simp)) fun u G5 H5 g5 r => k' u G5 H5 (g13.trans g5) r
def swapP (o : List Nat) (i j : Nat) : List Nat := (o.set i (o.getD j 0)).set j (o.getD i 0)
theorem PR.set {G : Hp} {v : V} {R : Rel} : ∀ {vs : List V} {Rs : List Rel} {i : Nat}, PR G vs Rs → R.p v G → PR G (vs.set i v) (Rs.set i R)
  | _, _, _, .nil, _ => .nil
  | _, _, 0, .cons _ t, h => .cons h t
  | _, _, i + 1, .cons r t, h => .cons r (PR.set t h)
theorem kn_exchanged (T : Txt K mg w HC SC LC TC) : Kn P w K mg base 1 "exchanged" (spP (fun i : List Nat × Nat × Nat => i.2.1 < i.1.length ∧ i.2.2 < i.1.length) (fun i => [ordR i.1, isN i.2.1, isN i.2.2]) (fun i => ordR (swapP i.1 i.2.1 i.2.2))) := by
  refine kn_body T.exchanged sc_exchanged lo_exchanged (fun _ => rfl) ?_
  rintro X S rfl rfl rfl rfl rfl hx hr vs G H Q ⟨o, i, j⟩ s ⟨hi, hj⟩ pr k
  obtain ⟨v1, v2, v3, rfl, r1, r2, r3⟩ := PR.three pr
  have v := S.vw T.b hr
  have hi' : i < o.length := hi
  have hj' : j < o.length := hj
  obtain rfl : v3 = V.int (j : Int) := r3
  refine st (ps_set (i := 3) S.nd (by rw [S.hN]; rfl) (S.loc _ (by simp)) sE rfl (.inl (S.fn _))) (glistT v s (nm S 0 r1) fun vs0 u G1 H1 g1 pr1 hu => ?_)
  show RunS X _ _ [some v1, some v2, some (.int (j : Int)), some (.ref u)] (upd H1 u (.lst vs0))
  have g1' := g1.raw (o := .lst vs0) hu
  have n1 := sub_none g1.s hu
  have hL : IsL pureM G1 (upd H1 u (.lst vs0)) (isV (.ref u)) (o.map isN) := isL_raw upd_same (fun h => h) pr1
  have hl0 : vs0.length = o.length := by rw [pr1.len, List.length_map]
  refine st_lset2 S g1'.ok (jtup (ja (rixL hL (nm S 3 rfl) (nm S 2 rfl) (i := (j : Int)) (R := isN (o.getD j 0)) ?_) (ja (rixL hL (nm S 3 rfl) (nm S 1 (mv g1 r2)) (i := (i : Int)) (R := isN (o.getD i 0)) ?_) ja0)) (by simp)) (nm S 3 rfl) (nm S 1 (mv g1 r2)) (nm S 3 rfl) (nm S 2 rfl)
    (fun G2 H2 vs' g2 Q' q => rnm S 3 q) (fun G2 H2 vs' g2 Q' q => rnm S 2 q) upd_same (fun h => h) (show i < vs0.length by omega) (show j < vs0.length by omega) fun a c G2 H2 g2 ra rc => ?_
  · rw [atI_nat, List.getElem?_map, List.getD_eq_getElem?_getD, List.getElem?_eq_getElem hj']; rfl
  · rw [atI_nat, List.getElem?_map, List.getD_eq_getElem?_getD, List.getElem?_eq_getElem hi']; rfl
  · have h2 : H2 u = some (.lst vs0) := g2.to0.H _ _ upd_same
    have n2 : G2 u = none := g2.out upd_same n1
    have hu0 : H u = none := g1.to0.H.free hu
    have g3 : Gw pureM G H G2 (upd H2 u (.lst ((vs0.set i a).set j c))) := ((g1.trans g1').trans g2).set' (fun h => h) n2 hu0
    have pr3 : PR G2 ((vs0.set i a).set j c) ((swapP o i j).map isN) := by
      have := (((PR.mo g2.g pr1).set (i := i) ra).set (i := j) rc)
      unfold swapP
      rw [List.map_set, List.map_set]
      exact this
    exact st_ret g3.ok (rtupL v (isL_raw upd_same (fun h => h) pr3) (nm S 3 rfl)) fun u' G4 H4 g4 r => k u' G4 H4 (g3.trans g4) r
/-! ### operations -/
inductive Op where
  | post (n : Str) (b : Nat)
  | swap (n m : Str)
  | shift (n : Str) (b : Nat)
  | teach (y : Bool)
  | keepAs (z : Str)
  | fetch (z : Str)
def opRs : Op → List Rel
  | .post n b => [isS "post", isS n, isN b]
  | .swap n m => [isS "swap", isS n, isS m]
  | .shift n b => [isS "shift", isS n, isN b]
  | .teach y => [isS "teach", isB y]
  | .keepAs z => [isS "keep_as", isS z]
  | .fetch z => [isS "fetch", isS z]
def opR (p : Op) : Rel := tupR (opRs p)
def opW : Op → Str
  | .post _ _ => "post"
  | .swap _ _ => "swap"
  | .shift _ _ => "shift"
  | .teach _ => "teach"
  | .keepAs _ => "keep_as"
  | .fetch _ => "fetch"
theorem opRs0 (p : Op) : ∃ r, opRs p = isS (opW p) :: r := by cases p <;> exact ⟨_, rfl⟩
theorem kn_is_operation (T : Txt K mg w HC SC LC TC) : Kn P w K mg base 1 "is_operation" (spP (fun _ : Op => True) (fun p => [opR p]) (fun _ => isB true)) := by
  refine kn_body T.is_operation sc_is_operation lo_is_operation (fun _ => rfl) ?_
  rintro X S rfl rfl rfl rfl rfl hx hr vs G H Q p s _ pr k
  obtain ⟨v1, rfl, r1⟩ := PR.one pr
  have v := S.vw T.b hr
  obtain ⟨rs, ers⟩ := opRs0 p
  have r1' : (tupR (isS (opW p) :: rs)).p v1 G := by rw [← ers]; exact r1
  obtain ⟨d, es, nn, md, hD, hS⟩ := T.sizes
  have hlen : ∃ t, PySem.W.nsIn X.K d (opW p) = some (some (.int ((isS (opW p) :: rs).length : Int) t)) := by
    rw [← ers]
    cases p <;> exact hS _ _ (by simp [opW, opRs])
  obtain ⟨t, ht⟩ := hlen
  have h0 : atI (isS (opW p) :: rs) 0 = some (isS (opW p)) := by
    have := atI_nat (xs := isS (opW p) :: rs) (i := 0)
    exact this
  refine st_ifn s (JT.eq (t := !true || (false || !true)) (jtw (jwo (jtnot (jtval (visi v (nm S 0 r1') (fun _ _ _ => ty_tup) (n := "tuple") (r := true) (by decide +kernel) T.b.tuple (by decide +kernel)))) fun _ =>
    jwo ((jtcmp (op_eqT0 (by have := hr.un; omega)) (nm S 0 r1') (jtup ja0 (by simp)) tw_eqT0).eq rfl) fun _ => jw1o (jtnot (jtval (visi v (jixT (nm S 0 r1') jint h0) (fun _ _ _ => ty_str) (n := "str") (by decide +kernel) T.b.str (by decide +kernel)))))) rfl) fun G1 H1 g1 => ?_
  refine st_ret g1.ok (R := isB (decide (V.int ((isS (opW p) :: rs).length : Int) = V.int ((isS (opW p) :: rs).length : Int)))) (jcmp op_eq (R1 := isI ((isS (opW p) :: rs).length : Int)) ?_ (vlenT v (nm S 0 (mv g1 r1'))) (tw_eq rfl)) fun u G2 H2 g2 r => k u G2 H2 (g1.trans g2) (isB_of (by simp) r)
  refine J.pe (pe_kget hD sE sA) fun G2 H2 g2 Q' k' => (jglob (v := .ref d) (S.gl _ rfl) md rfl) G2 H2 g2 _ fun o G3 H3 g3 ro => ⟨ro, (ja (jixT (nm S 0 (mv g1 r1')) jint h0) (ja (jint (i := 0)) ja0)) G3 H3 (g2.trans g3) _ fun ws G4 H4 g4 pw => ?_⟩
  obtain ⟨a, c, rfl, ra, rc⟩ := PR.two pw
  obtain rfl : a = V.str (opW p) := ra
  exact ⟨opW p, c, rfl, _, ht, .int ((isS (opW p) :: rs).length : Int), ⟨t, rfl⟩, k' _ G4 H4 (g3.trans g4) rfl⟩
end Lp
/-! ## D7 -/
set_option Elab.async false
set_option linter.all false
set_option maxRecDepth 100000
set_option maxHeartbeats 2000000
/-! A hall's state: its data, its methods. -/
namespace Lp
open PySem PySem.Spec PyProof.Rows L2
open SlX (Slt SlO SCls Slot1 slH putS SIsi)
abbrev Lt := Str × Nat × Str
/-- the facts -/
structure Fc where
  ms : List Mn
  o : List Nat
  on : Bool
  lets : List Lt
abbrev Shf := List (Str × Fc)
abbrev Pst := List (Op × Fc × Shf)
/-- a state: its house's names and plates, the facts, the shelf, what was done, what was undone -/
structure Sd where
  ns : List Str
  ps : List Str
  f : Fc
  sh : Shf
  past : Pst
  und : Pst
def ltR (l : Lt) : Rel := tupR [isS l.1, isN l.2.1, isS l.2.2]
section
variable (HC : Addr) (ns ps : List Str)
def fcR (f : Fc) : Rel := tupR [hsR HC ns ps f.ms, ordR f.o, isB f.on, tupR (f.lets.map ltR)]
def shDs (sh : Shf) : List (Str × Rel) := sh.map fun p => (p.1, fcR HC ns ps p.2)
def shR (sh : Shf) : Rel := dctR (shDs HC ns ps sh)
def entR (p : Op × Fc × Shf) : Rel := tupR [opR p.1, fcR HC ns ps p.2.1, shR HC ns ps p.2.2]
def pstR (l : Pst) : Rel := tupR (l.map (entR HC ns ps))
end
def stRs (HC : Addr) (d : Sd) : List Rel := [fcR HC d.ns d.ps d.f, pstR HC d.ns d.ps d.past, shR HC d.ns d.ps d.sh, pstR HC d.ns d.ps d.und]
/-- a mutable instance with slots -/
structure SlAt (C : Addr) (G H : Hp) (s ds : Addr) (us : List V) : Prop where
  ne : ds ≠ s
  at_ : H s = some (SlO s C ds (us.map some))
  dx : H ds = some (.xd [])
  n1 : G s = none
  n2 : G ds = none
/-- a state stands so -/
structure StOk (HC SC : Addr) (G H : Hp) (s ds : Addr) (d : Sd) : Prop where
  ex : ∃ us, SlAt SC G H s ds us ∧ PR G us (stRs HC d)
abbrev two2 (s ds : Addr) : Addr → Prop := fun a => a = s ∨ a = ds
theorem SlAt.up {C : Addr} {G H G' H' : Hp} {s ds : Addr} {us : List V} {m : Addr → Prop} (a : SlAt C G H s ds us) (g : Gr m G H G' H') (h1 : ¬ m s) (h2 : ¬ m ds) : SlAt C G' H' s ds us := ⟨a.ne, g.h _ _ h1 a.at_, g.h _ _ h2 a.dx, g.out a.at_ a.n1, g.out a.dx a.n2⟩
theorem StOk.up {HC SC : Addr} {G H G' H' : Hp} {s ds : Addr} {d : Sd} {m : Addr → Prop} (a : StOk HC SC G H s ds d) (g : Gr m G H G' H') (h1 : ¬ m s) (h2 : ¬ m ds) : StOk HC SC G' H' s ds d := by
  obtain ⟨us, q, pr⟩ := a.ex
  exact ⟨us, q.up g h1 h2, PR.mo g.g pr⟩
theorem putS_set {us : List V} {i : Nat} {v : V} (h : i < us.length) : putS i v (us.map some) = (us.set i v).map some := by
  unfold SlX.putS
  rw [show i + 1 - (us.map some).length = 0 by rw [List.length_map]; omega]
  simp
section
variable {X : Cx} {σ : L2.St} {G H G' H' : Hp} {e value o : Expr} {R R1 : Rel} {Rs : List Rel} {pos pos' : Pos} {rest : List Stmt} {D : Ends} {C pa s ds : Addr} {us : List V} {f : Str} {i : Nat}
theorem SlAt.iso {W : Md} (a : SlAt C G H s ds us) (pr : PR G us Rs) (h1 : ¬ W.m s) (h2 : ¬ W.m ds) : IsO W G H C (isV (.ref s)) Rs := isO_raw a.at_ a.dx h1 h2 pr
/-- o.f = e, a slot that stands already -/
theorem st_wr (cs : SCls X.K C) (t : Slot1 X.K C f pa i) (s0 : Same G H) (a : SlAt C G H s ds us) (hi : i < us.length) (h : J pureM X value σ G H R) (ho : J pureM X o σ G H (isV (.ref s)))
    (q : ∀ v G' H', Gr (two2 s ds) G H G' H' → SlAt C G' H' s ds (us.set i v) → R.p v G' → RunS X rest D σ H') (hsw : swapsWith value (some (.Attribute o f pos')) pos.line X.env = pure false := by rfl) : RunS X (.Assign [.Attribute o f pos'] value pos :: rest) D σ H :=
  st_slot cs t (.pure s0) h ho (fun G1 H1 g1 => .inr ⟨g1.to0.H _ _ a.at_, g1.to0.H _ _ a.dx⟩) (fun v G1 H1 g1 r => by
    have n1 := g1.out a.at_ a.n1
    have n2 := g1.out a.dx a.n2
    rw [putS_set hi]
    exact q v G1 _ (Gr.slH g1.to0.up n1 n2 (.inl rfl) (.inr rfl)) ⟨a.ne, upd_same, by unfold SlX.slH; rw [upd_ne a.ne, upd_same], n1, n2⟩ r) hsw
end
variable {P : Program} {w : World} {K : PySem.W.Frag} {mg : Str → Option Value} {base : Heap} {HC SC LC TC : Addr}
def spSI (HC SC : Addr) : Sp := fun vs H Q _ => ∃ x dx G d vf vh vp vu, vs = [.ref x, vf, vh, vp, vu] ∧ Same G H ∧ H x = some (.ins SC dx []) ∧ H dx = some (.own x) ∧ dx ≠ x ∧ G x = none ∧ G dx = none ∧
  (fcR HC d.ns d.ps d.f).p vf G ∧ (shR HC d.ns d.ps d.sh).p vh G ∧ (pstR HC d.ns d.ps d.past).p vp G ∧ (pstR HC d.ns d.ps d.und).p vu G ∧
  ∀ G' H', Gr (two2 x dx) G H G' H' → StOk HC SC G' H' x dx d → Q .non H'
theorem kn_State_init (T : Txt K mg w HC SC LC TC) : KnI P w K mg base 1 SC (spSI HC SC) := by
  refine kni_body T.sinit sc_State_init lo_State_init (fun vs H Q E ⟨x, dx, G, d, vf, vh, vp, vu, e, _⟩ => by rw [e]; rfl) ?_
  rintro X S rfl rfl rfl rfl rfl hx hr vs H Q E ⟨x, dx, G, d, vf, vh, vp, vu, rfl, s0, hX, hD, ne, nx, nd, rf, rh, rp, ru, q⟩
  obtain ⟨p0, t0⟩ := T.sfacts
  obtain ⟨p1, t1⟩ := T.spast
  obtain ⟨p2, t2⟩ := T.sshelf
  obtain ⟨p3, t3⟩ := T.sundone
  have put : ∀ {G1 H1 H2 : Hp} {vs : List (Option V)}, Gr (two2 x dx) G H G1 H1 → G1 x = none → G1 dx = none → ∀ G2 H2, Gw pureM G1 H1 G2 H2 → ∀ vs, Gr (two2 x dx) G H G2 (slH H2 x SC dx vs) ∧ G2 x = none ∧ G2 dx = none ∧ Slt (slH H2 x SC dx vs) x SC dx vs := fun {G1 H1 _ _} g n1 n2 G2 H2 g2 vs => by
    have hx1 : ∃ o, H1 x = some o := g.t _ _ hX
    have hd1 : ∃ o, H1 dx = some o := g.t _ _ hD
    obtain ⟨o1, e1⟩ := hx1
    obtain ⟨o2, e2⟩ := hd1
    have m1 := g2.out e1 n1
    have m2 := g2.out e2 n2
    exact ⟨Gr.slH (g.to g2.to0) m1 m2 (.inl rfl) (.inr rfl), m1, m2, SlX.slH_slt ne⟩
  have sl : ∀ {H1 : Hp} {vs : List (Option V)}, Slt H1 x SC dx vs → vs ≠ [] → ∀ {G1 G2 H2 : Hp}, Gw pureM G1 H1 G2 H2 → Slt H2 x SC dx vs := fun {H1 vs} h hv {G1 G2 H2} g => by
    rcases h with ⟨h, e⟩ | ⟨h1, h2⟩
    · exact absurd e hv
    · exact .inr ⟨g.to0.H _ _ h1, g.to0.H _ _ h2⟩
  have s := Ok.pure s0
  refine st_slot (C := SC) (s := x) (dx := dx) (vs := []) T.ss t0 s (nm S 1 rf) (nm S 0 rfl) (fun G4 H4 g4 => .inl ⟨g4.to0.H _ _ hX, rfl⟩) fun u1 G1 H1 g1 q1 => ?_
  obtain ⟨a1, b1, c1, d1⟩ := put (H2 := H) (vs := []) (Gr.refl s0) nx nd G1 H1 g1 (putS 0 u1 [])
  refine st_slot (C := SC) (s := x) (dx := dx) T.ss t2 (Ok.pure a1.s) (nm S 2 (mv g1 rh)) (nm S 0 rfl) (fun G4 H4 g4 => sl d1 (by simp [SlX.putS]) g4) fun u2 G2 H2 g2 q2 => ?_
  obtain ⟨a2, b2, c2, d2⟩ := put (H2 := H) (vs := []) a1 b1 c1 G2 H2 g2 (putS 2 u2 (putS 0 u1 []))
  refine st_slot (C := SC) (s := x) (dx := dx) T.ss t1 (Ok.pure a2.s) (nm S 3 (mv g2 (mv g1 rp))) (nm S 0 rfl) (fun G4 H4 g4 => sl d2 (by simp [SlX.putS]) g4) fun u3 G3 H3 g3 q3 => ?_
  obtain ⟨a3, b3, c3, d3⟩ := put (H2 := H) (vs := []) a2 b2 c2 G3 H3 g3 (putS 1 u3 (putS 2 u2 (putS 0 u1 [])))
  refine st_slot (C := SC) (s := x) (dx := dx) T.ss t3 (Ok.pure a3.s) (nm S 4 (mv g3 (mv g2 (mv g1 ru)))) (nm S 0 rfl) (fun G4 H4 g4 => sl d3 (by simp [SlX.putS]) g4) fun u4 G4 H4 g4 q4 => ?_
  obtain ⟨a4, b4, c4, d4⟩ := put (H2 := H) (vs := []) a3 b3 c3 G4 H4 g4 (putS 3 u4 (putS 1 u3 (putS 2 u2 (putS 0 u1 []))))
  exact st0 (q G4 _ a4 ⟨[u1, u3, u2, u4], ⟨ne, upd_same, by unfold SlX.slH; rw [upd_ne ne, upd_same], b4, c4⟩, .cons (Rel.mo _ ((g2.g.trans g3.g).trans g4.g) q1) (.cons (Rel.mo _ g4.g q3) (.cons (Rel.mo _ (g3.g.trans g4.g) q2) (.cons q4 .nil)))⟩)
/-- State(..): a new one, mutable -/
theorem gState {X : Cx} {σ : L2.St} {G H : Hp} {e : Expr} {es : List Expr} {p pos : Pos} {d : Sd} {Q : VK} (T : Txt X.K X.mg X.w HC SC LC TC) (hg : Gl X "State") (hr : Room 2 X.A) (s0 : Same G H)
    (ha : JA pureM X (e :: es) σ G H [fcR HC d.ns d.ps d.f, shR HC d.ns d.ps d.sh, pstR HC d.ns d.ps d.past, pstR HC d.ns d.ps d.und]) (k : ∀ x dx G' H', Gr0 G H G' H' → H x = none → H dx = none → StOk HC SC G' H' x dx d → Q (.ref x) H')
    (he : starEach (e :: es) X.env = (false, eval e X.env) :: starEach es X.env := by rfl) (hpl : (backTo pos (starEach es X.env)).any (·.1) = false := by rfl) : RunE X (.Call (.Name "State" p) (e :: es) [] pos) σ H Q :=
  gmake (kn_State_init T) hr hg T.mState (ha.here (.pure s0) fun vs G2 H2 g2 pr => by
    obtain ⟨vf, vh, vp, vu, rfl, rf, rh, rp, ru⟩ := PR.four pr
    intro x dx hx hdx ne
    have s1 : Same H2 (upd (upd H2 dx (.own x)) x (.ins SC dx [])) := fun c u q => by
      rw [upd_ne (ne_of_none q hx), upd_ne (ne_of_none q hdx)]; exact q
    refine ⟨x, dx, G2, d, vf, vh, vp, vu, rfl, g2.s.trans s1, upd_same, by rw [upd_ne ne, upd_same], ne, g2.s.free hx, g2.s.free hdx, rf, rh, rp, ru, fun G' H' gr h1 => ⟨rfl, ?_⟩⟩
    have g3 : Gr0 G2 H2 G' H' := ⟨gr.g, gr.s, fun a o _ q => gr.h a o (by
        rintro (z | z)
        · rw [z, hx] at q; cases q
        · rw [z, hdx] at q; cases q) (s1 _ _ q), fun a o q => gr.n a o (s1 _ _ q), fun a o q => gr.t a o (s1 _ _ q)⟩
    exact k x dx G' H' (g2.to0.trans g3) (g2.to0.H.free hx) (g2.to0.H.free hdx) h1) (he := he) (hpl := hpl)
/-- self.copied() -/
def spCopy (HC SC : Addr) : Sp := fun vs H Q _ => ∃ s ds G d, vs = [.ref s] ∧ Same G H ∧ StOk HC SC G H s ds d ∧ ∀ x dx G' H', Gr0 G H G' H' → H x = none → H dx = none → StOk HC SC G' H' x dx d → Q (.ref x) H'
theorem kn_State_copied (T : Txt K mg w HC SC LC TC) : KnM P w K mg base 3 SC "copied" (spCopy HC SC) := by
  refine knm_body T.scopied sc_State_copied lo_State_copied (fun vs H Q E ⟨s, ds, G, d, e, _⟩ => by rw [e]; rfl) ?_
  rintro X S rfl rfl rfl rfl rfl hx hr vs H Q E ⟨s, ds, G, d, rfl, s0, a, k⟩
  obtain ⟨p0, t0⟩ := T.sfacts
  obtain ⟨p1, t1⟩ := T.spast
  obtain ⟨p2, t2⟩ := T.sshelf
  obtain ⟨p3, t3⟩ := T.sundone
  obtain ⟨us, q, pr⟩ := a.ex
  have iso : IsO pureM G H SC (isV (.ref s)) (stRs HC d) := q.iso pr (fun h => h) (fun h => h)
  exact st (ps_ret sE) (gState T (S.gl _ rfl) hr s0 (ja (jslot T.ss t0 iso (nm S 0 rfl) rfl) (ja (jslot T.ss t2 iso (nm S 0 rfl) rfl) (ja (jslot T.ss t1 iso (nm S 0 rfl) rfl) (ja (jslot T.ss t3 iso (nm S 0 rfl) rfl) ja0)))) fun x dx G' H' g h1 h2 q => k x dx G' H' g h1 h2 q)
/-- self.go_on(operation, facts, shelf) -/
def spGo (HC SC : Addr) : Sp := fun vs H Q _ => ∃ s ds G d p f sh vo vf vh, vs = [.ref s, vo, vf, vh] ∧ Same G H ∧ StOk HC SC G H s ds d ∧ d.past.length ≤ 5000 ∧ (opR p).p vo G ∧ (fcR HC d.ns d.ps f).p vf G ∧ (shR HC d.ns d.ps sh).p vh G ∧
  ∀ G' H', Gr (two2 s ds) G H G' H' → StOk HC SC G' H' s ds { d with f := f, sh := sh, past := d.past ++ [(p, d.f, d.sh)], und := [] } → Q .non H'
theorem kn_State_go_on (T : Txt K mg w HC SC LC TC) : KnM P w K mg base 1 SC "go_on" (spGo HC SC) := by
  refine knm_body T.sgo_on sc_State_go_on lo_State_go_on (fun vs H Q E ⟨s, ds, G, d, p, f, sh, vo, vf, vh, e, _⟩ => by rw [e]; rfl) ?_
  rintro X S rfl rfl rfl rfl rfl hx hr vs H Q E ⟨s, ds, G, d, p, f, sh, vo, vf, vh, rfl, s0, a, hpl, ro, rf, rh, k⟩
  obtain ⟨p0, t0⟩ := T.sfacts
  obtain ⟨p1, t1⟩ := T.spast
  obtain ⟨p2, t2⟩ := T.sshelf
  obtain ⟨p3, t3⟩ := T.sundone
  obtain ⟨us, q, pr⟩ := a.ex
  have hl : us.length = 4 := pr.len
  have iso : IsO pureM G H SC (isV (.ref s)) (stRs HC d) := q.iso pr (fun h => h) (fun h => h)
  refine st_wr T.ss t1 s0 q (by omega) (jtup (jaStar (jslot T.ss t1 iso (nm S 0 rfl) rfl) (ja (jtup (ja (nm S 1 ro) (ja (jslot T.ss t0 iso (nm S 0 rfl) rfl) (ja (jslot T.ss t2 iso (nm S 0 rfl) rfl) ja0))) (by simp)) ja0)) (by simp; omega)) (nm S 0 rfl) fun u1 G1 H1 g1 q1 r1 => ?_
  refine st_wr T.ss t3 g1.s q1 (by simp; omega) (jtup ja0 (by simp)) (nm S 0 rfl) fun u2 G2 H2 g2 q2 r2 => ?_
  refine st_wr T.ss t0 g2.s q2 (by simp; omega) (nm S 2 (Rel.mo _ (g1.g.trans g2.g) rf)) (nm S 0 rfl) fun u3 G3 H3 g3 q3 r3 => ?_
  refine st_wr T.ss t2 g3.s q3 (by simp; omega) (nm S 3 (Rel.mo _ ((g1.g.trans g2.g).trans g3.g) rh)) (nm S 0 rfl) fun u4 G4 H4 g4 q4 r4 => st0 ?_
  refine k G4 H4 (((g1.trans g2).trans g3).trans g4) ⟨_, q4, ?_⟩
  match us, hl with
  | [a1, a2, a3, a4], _ => exact .cons (Rel.mo _ g4.g r3) (.cons (Rel.mo _ ((g2.g.trans g3.g).trans g4.g) (by unfold pstR; rw [List.map_append]; exact r1)) (.cons r4 (.cons (Rel.mo _ (g3.g.trans g4.g) r2) .nil)))
/-- self.go_back() -/
def spBack (HC SC : Addr) : Sp := fun vs H Q _ => ∃ s ds G d l p f sh, vs = [.ref s] ∧ Same G H ∧ StOk HC SC G H s ds d ∧ d.und.length ≤ 5000 ∧ d.past.length ≤ 5000 ∧ d.past = l ++ [(p, f, sh)] ∧
  ∀ G' H', Gr (two2 s ds) G H G' H' → StOk HC SC G' H' s ds { d with f := f, sh := sh, past := l, und := d.und ++ [(p, d.f, d.sh)] } → Q .non H'
theorem last_ent {HC : Addr} {ns ps : List Str} {l : Pst} {p : Op} {f : Fc} {sh : Shf} : atI ((l ++ [(p, f, sh)]).map (entR HC ns ps)) (-1) = some (tupR [opR p, fcR HC ns ps f, shR HC ns ps sh]) := by
  rw [List.map_append]
  exact atI_last
theorem kn_State_go_back (T : Txt K mg w HC SC LC TC) : KnM P w K mg base 1 SC "go_back" (spBack HC SC) := by
  refine knm_body T.sgo_back sc_State_go_back lo_State_go_back (fun vs H Q E ⟨s, ds, G, d, l, p, f, sh, e, _⟩ => by rw [e]; rfl) ?_
  rintro X S rfl rfl rfl rfl rfl hx hr vs H Q E ⟨s, ds, G, d, l, p, f, sh, rfl, s0, a, hul, hpl, el, k⟩
  obtain ⟨p0, t0⟩ := T.sfacts
  obtain ⟨p1, t1⟩ := T.spast
  obtain ⟨p2, t2⟩ := T.sshelf
  obtain ⟨p3, t3⟩ := T.sundone
  obtain ⟨us, q, pr⟩ := a.ex
  have hl : us.length = 4 := pr.len
  have iso : IsO pureM G H SC (isV (.ref s)) (stRs HC d) := q.iso pr (fun h => h) (fun h => h)
  refine st_unp3 S 1 2 3 (.pure s0) (jixT (jslot T.ss t1 iso (nm S 0 rfl) rfl) (jneg jint) (by rw [el]; exact last_ent)) fun w1 w2 w3 G0 H0 g0 rw1 rw2 rw3 => ?_
  have q0 := q.up g0.gr (fun h => h) (fun h => h)
  have iso0 : IsO pureM G0 H0 SC (isV (.ref s)) (stRs HC d) := q0.iso (PR.mo g0.g pr) (fun h => h) (fun h => h)
  refine st_wr T.ss t3 g0.s q0 (by omega) (jtup (jaStar (jslot T.ss t3 iso0 (nm S 0 rfl) rfl) (ja (jtup (ja (nm S 1 rw1) (ja (jslot T.ss t0 iso0 (nm S 0 rfl) rfl) (ja (jslot T.ss t2 iso0 (nm S 0 rfl) rfl) ja0))) (by simp)) ja0)) (by simp; omega)) (nm S 0 rfl) fun u1 G1 H1 g1 q1 r1 => ?_
  have pr1 : PR G1 (us.set 3 u1) ((stRs HC d).set 3 (pstR HC d.ns d.ps (d.und ++ [(p, d.f, d.sh)]))) := (PR.mo (g0.g.trans g1.g) pr).set (by unfold pstR; rw [List.map_append]; exact r1)
  have iso1 : IsO pureM G1 H1 SC (isV (.ref s)) _ := q1.iso pr1 (fun h => h) (fun h => h)
  refine st_wr T.ss t1 g1.s q1 (by simp; omega) (J.eq (R1 := pstR HC d.ns d.ps l) (jslT (jslot T.ss t1 iso1 (nm S 0 rfl) (show _ = some (pstR HC d.ns d.ps d.past) from rfl)) jo0 (jo1 (jneg jint))) ?_) (nm S 0 rfl) fun u2 G2 H2 g2 q2 r2 => ?_
  · show tupR (cutR (d.past.map (entR HC d.ns d.ps)) none (some (-1))) = tupR (l.map (entR HC d.ns d.ps))
    rw [cutR_but, el, List.map_append]
    simp
  refine st_wr T.ss t0 g2.s q2 (by simp; omega) (nm S 2 (Rel.mo _ (g1.g.trans g2.g) rw2)) (nm S 0 rfl) fun u3 G3 H3 g3 q3 r3 => ?_
  refine st_wr T.ss t2 g3.s q3 (by simp; omega) (nm S 3 (Rel.mo _ ((g1.g.trans g2.g).trans g3.g) rw3)) (nm S 0 rfl) fun u4 G4 H4 g4 q4 r4 => st0 ?_
  refine k G4 H4 ((((g0.gr.up.trans g1).trans g2).trans g3).trans g4) ⟨_, q4, ?_⟩
  match us, hl with
  | [a1, a2, a3, a4], _ => exact .cons (Rel.mo _ g4.g r3) (.cons (Rel.mo _ (g3.g.trans g4.g) r2) (.cons r4 (.cons (Rel.mo _ ((g2.g.trans g3.g).trans g4.g) (by unfold pstR; rw [List.map_append]; exact r1)) .nil)))
/-- self.go_again() -/
def spAgain (HC SC : Addr) : Sp := fun vs H Q _ => ∃ s ds G d l p f sh, vs = [.ref s] ∧ Same G H ∧ StOk HC SC G H s ds d ∧ d.und.length ≤ 5000 ∧ d.past.length ≤ 5000 ∧ d.und = l ++ [(p, f, sh)] ∧
  ∀ G' H', Gr (two2 s ds) G H G' H' → StOk HC SC G' H' s ds { d with f := f, sh := sh, past := d.past ++ [(p, d.f, d.sh)], und := l } → Q .non H'
theorem kn_State_go_again (T : Txt K mg w HC SC LC TC) : KnM P w K mg base 1 SC "go_again" (spAgain HC SC) := by
  refine knm_body T.sgo_again sc_State_go_again lo_State_go_again (fun vs H Q E ⟨s, ds, G, d, l, p, f, sh, e, _⟩ => by rw [e]; rfl) ?_
  rintro X S rfl rfl rfl rfl rfl hx hr vs H Q E ⟨s, ds, G, d, l, p, f, sh, rfl, s0, a, hul, hpl, el, k⟩
  obtain ⟨p0, t0⟩ := T.sfacts
  obtain ⟨p1, t1⟩ := T.spast
  obtain ⟨p2, t2⟩ := T.sshelf
  obtain ⟨p3, t3⟩ := T.sundone
  obtain ⟨us, q, pr⟩ := a.ex
  have hl : us.length = 4 := pr.len
  have iso : IsO pureM G H SC (isV (.ref s)) (stRs HC d) := q.iso pr (fun h => h) (fun h => h)
  refine st_unp3 S 1 2 3 (.pure s0) (jixT (jslot T.ss t3 iso (nm S 0 rfl) rfl) (jneg jint) (by rw [el]; exact last_ent)) fun w1 w2 w3 G0 H0 g0 rw1 rw2 rw3 => ?_
  have q0 := q.up g0.gr (fun h => h) (fun h => h)
  have iso0 : IsO pureM G0 H0 SC (isV (.ref s)) (stRs HC d) := q0.iso (PR.mo g0.g pr) (fun h => h) (fun h => h)
  refine st_wr T.ss t1 g0.s q0 (by omega) (jtup (jaStar (jslot T.ss t1 iso0 (nm S 0 rfl) rfl) (ja (jtup (ja (nm S 1 rw1) (ja (jslot T.ss t0 iso0 (nm S 0 rfl) rfl) (ja (jslot T.ss t2 iso0 (nm S 0 rfl) rfl) ja0))) (by simp)) ja0)) (by simp; omega)) (nm S 0 rfl) fun u1 G1 H1 g1 q1 r1 => ?_
  have pr1 : PR G1 (us.set 1 u1) ((stRs HC d).set 1 (pstR HC d.ns d.ps (d.past ++ [(p, d.f, d.sh)]))) := (PR.mo (g0.g.trans g1.g) pr).set (by unfold pstR; rw [List.map_append]; exact r1)
  have iso1 : IsO pureM G1 H1 SC (isV (.ref s)) _ := q1.iso pr1 (fun h => h) (fun h => h)
  refine st_wr T.ss t3 g1.s q1 (by simp; omega) (J.eq (R1 := pstR HC d.ns d.ps l) (jslT (jslot T.ss t3 iso1 (nm S 0 rfl) (show _ = some (pstR HC d.ns d.ps d.und) from rfl)) jo0 (jo1 (jneg jint))) ?_) (nm S 0 rfl) fun u2 G2 H2 g2 q2 r2 => ?_
  · show tupR (cutR (d.und.map (entR HC d.ns d.ps)) none (some (-1))) = tupR (l.map (entR HC d.ns d.ps))
    rw [cutR_but, el, List.map_append]
    simp
  refine st_wr T.ss t0 g2.s q2 (by simp; omega) (nm S 2 (Rel.mo _ (g1.g.trans g2.g) rw2)) (nm S 0 rfl) fun u3 G3 H3 g3 q3 r3 => ?_
  refine st_wr T.ss t2 g3.s q3 (by simp; omega) (nm S 3 (Rel.mo _ ((g1.g.trans g2.g).trans g3.g) rw3)) (nm S 0 rfl) fun u4 G4 H4 g4 q4 r4 => st0 ?_
  refine k G4 H4 ((((g0.gr.up.trans g1).trans g2).trans g3).trans g4) ⟨_, q4, ?_⟩
  match us, hl with
  | [a1, a2, a3, a4], _ => exact .cons (Rel.mo _ g4.g r3) (.cons (Rel.mo _ ((g2.g.trans g3.g).trans g4.g) (by unfold pstR; rw [List.map_append]; exact r1)) (.cons r4 (.cons (Rel.mo _ (g3.g.trans g4.g) r2) .nil)))
end Lp
/-! ## D8 -/
set_option Elab.async false
set_option linter.all false
set_option maxRecDepth 100000
set_option maxHeartbeats 2000000
/-! Hall: one operation. -/
namespace Lp
open PySem PySem.Spec PyProof.Rows L2
open SlX (Slt SlO SCls Slot1 slH putS SIsi)
/-! ### plain: what an operation does -/
inductive Rs where
  | opt (o : Option Nat)
  | b (b : Bool)
  | n (n : Nat)
def rsR : Rs → Rel
  | .opt o => optR o
  | .b t => isB t
  | .n k => isN k
def putD {α : Type} (sh : List (Str × α)) (z : Str) (f : α) : List (Str × α) := if (sh.any fun p => decide (p.1 = z)) = true then sh.map (fun p => if p.1 = z then (p.1, f) else p) else sh ++ [(z, f)]
def emptyF : Fc := ⟨[], [], false, []⟩
def fetchF (sh : Shf) (z : Str) : Fc := (sh.lookup z).getD emptyF
def stepF (ns ps : List Str) (f : Fc) (sh : Shf) : Op → Fc × Shf
  | .post n b => ({ f with ms := if f.on = true then behindP ns f.ms f.o n (wayP ns f.ms f.o n b) else f.ms, lets := f.lets ++ [(n, b, (wayP ns f.ms f.o n b).2)] }, sh)
  | .swap n m => ({ f with o := swapP f.o (ns.idxOf n) (ns.idxOf m) }, sh)
  | .shift n b => ({ f with o := f.o.set (ns.idxOf n) b }, sh)
  | .teach y => ({ f with on := y }, sh)
  | .keepAs z => (f, putD sh z f)
  | .fetch z => (fetchF sh z, sh)
def resF (ns ps : List Str) (f : Fc) (sh : Shf) : Op → Rs
  | .post n b => .opt (answerP (wayP ns f.ms f.o n b))
  | .swap n m => .b (fitP ns ps (swapP f.o (ns.idxOf n) (ns.idxOf m)))
  | .shift n _ => .n (f.o.getD (ns.idxOf n) 0)
  | .teach _ => .b f.on
  | .keepAs z => .b (sh.lookup z).isSome
  | .fetch z => .n (fetchF sh z).lets.length
def OpOk (ns ps : List Str) (f : Fc) (sh : Shf) : Op → Prop
  | .post n b => n ∈ ns ∧ b < ps.length
  | .swap n m => n ∈ ns ∧ m ∈ ns ∧ n ≠ m
  | .shift n b => n ∈ ns ∧ b < ps.length ∧ ¬ b ∈ f.o
  | .teach _ => True
  | .keepAs z => OkT z LET
  | .fetch z => (sh.lookup z).isSome = true
structure FcOk (N : Nat) (ns ps : List Str) (f : Fc) : Prop where
  ok : OkH ns ps f.ms
  oo : OkO ns.length ps.length f.o
  ll : f.lets.length ≤ N
  lt : ∀ l ∈ f.lets, l.1 ∈ ns ∧ PyData.strOk l.2.2 = true
structure ShOk (N : Nat) (ns ps : List Str) (sh : Shf) : Prop where
  sz : sh.length ≤ N
  nd : (sh.map (·.1)).Nodup
  ky : ∀ p ∈ sh, PyData.strOk p.1 = true
  fc : ∀ p ∈ sh, FcOk N ns ps p.2
structure SdOk (N : Nat) (d : Sd) : Prop where
  f : FcOk N d.ns d.ps d.f
  sh : ShOk N d.ns d.ps d.sh
  pl : d.past.length ≤ N
  ul : d.und.length ≤ N
def nxt (d : Sd) (p : Op) : Sd := { d with f := (stepF d.ns d.ps d.f d.sh p).1, sh := (stepF d.ns d.ps d.f d.sh p).2, past := d.past ++ [(p, d.f, d.sh)], und := [] }
def res (d : Sd) (p : Op) : Rs := resF d.ns d.ps d.f d.sh p
/-! ### a hall stands so -/
structure HlOk (HC SC LC : Addr) (G H : Hp) (h dh s ds : Addr) (d : Sd) : Prop where
  at_ : H h = some (.ins LC dh [("state", .ref s)])
  n : G h = none
  hs : h ≠ s
  hds : h ≠ ds
  st : StOk HC SC G H s ds d
theorem HlOk.up {HC SC LC : Addr} {G H G' H' : Hp} {h dh s ds : Addr} {d : Sd} {m : Addr → Prop} (a : HlOk HC SC LC G H h dh s ds d) (g : Gr m G H G' H') (h0 : ¬ m h) (h1 : ¬ m s) (h2 : ¬ m ds) : HlOk HC SC LC G' H' h dh s ds d :=
  ⟨g.h _ _ h0 a.at_, g.out a.at_ a.n, a.hs, a.hds, a.st.up g h1 h2⟩
theorem HlOk.up0 {HC SC LC : Addr} {G H G' H' : Hp} {h dh s ds : Addr} {d : Sd} (a : HlOk HC SC LC G H h dh s ds d) (g : Gr0 G H G' H') : HlOk HC SC LC G' H' h dh s ds d := a.up g (fun z => z) (fun z => z) (fun z => z)
theorem HlOk.wr {HC SC LC : Addr} {G H G' H' : Hp} {h dh s ds : Addr} {d d' : Sd} (a : HlOk HC SC LC G H h dh s ds d) (g : Gr (two2 s ds) G H G' H') (st : StOk HC SC G' H' s ds d') : HlOk HC SC LC G' H' h dh s ds d' :=
  ⟨g.h _ _ (fun z => z.elim a.hs a.hds) a.at_, g.out a.at_ a.n, a.hs, a.hds, st⟩
section
variable {X : Cx} {σ : L2.St} {G H G' H' : Hp} {e : Expr} {R R1 : Rel} {pos : Pos} {HC SC LC TC h dh s ds : Addr} {d : Sd}
/-- self.state -/
theorem jstate (T : Txt X.K X.mg X.w HC SC LC TC) (a : HlOk HC SC LC G H h dh s ds d) (he : J pureM X e σ G H (isV (.ref h))) (hb : attributeBase e "state" X.env (eval e X.env) = eval e X.env := by rfl) : J pureM X (.Attribute e "state" pos) σ G H (isV (.ref s)) :=
  jfld T.ls T.lstate he a.at_ (fun z => z) (by rfl) hb
theorem jst {f : Str} {pa : Addr} {i : Nat} (T : Txt X.K X.mg X.w HC SC LC TC) (a : StOk HC SC G H s ds d) (t : Slot1 X.K SC f pa i) (he : J pureM X e σ G H (isV (.ref s))) (hi : (stRs HC d)[i]? = some R) (hb : attributeBase e f X.env (eval e X.env) = eval e X.env := by rfl) : J pureM X (.Attribute e f pos) σ G H R := by
  obtain ⟨us, q, pr⟩ := a.ex
  exact jslot T.ss t (q.iso pr (fun h => h) (fun h => h)) he hi hb
end
theorem opRs_len (p : Op) : (opRs p).length ≤ 100000 := by cases p <;> simp [opRs]
variable {P : Program} {w : World} {K : PySem.W.Frag} {mg : Str → Option Value} {base : Heap} {HC SC LC TC : Addr}
def spEnter (HC SC LC : Addr) : Sp := fun vs H Q _ => ∃ h dh s ds G d p f vo vf, vs = [.ref h, vo, vf] ∧ Same G H ∧ HlOk HC SC LC G H h dh s ds d ∧ d.past.length ≤ 5000 ∧ (opR p).p vo G ∧ (fcR HC d.ns d.ps f).p vf G ∧
  ∀ v G' H', Gr (two2 s ds) G H G' H' → HlOk HC SC LC G' H' h dh s ds { d with f := f, past := d.past ++ [(p, d.f, d.sh)], und := [] } → Q v H'
theorem kn_Hall_enter (T : Txt K mg w HC SC LC TC) : KnM P w K mg base 2 LC "enter" (spEnter HC SC LC) := by
  refine knm_body T.lenter sc_Hall_enter lo_Hall_enter (fun vs H Q E ⟨h, dh, s, ds, G, d, p, f, vo, vf, e, _⟩ => by rw [e]; rfl) ?_
  rintro X S rfl rfl rfl rfl rfl hx hr vs H Q E ⟨h, dh, s, ds, G, d, p, f, vo, vf, rfl, s0, a, hpl, ro, rf, k⟩
  obtain ⟨p2, t2⟩ := T.sshelf
  refine st (ps_expr sE (by rfl)) (gmethSl T.ss (kn_State_go_on T) hr ((jstate T a (nm S 0 rfl)).here (.pure s0) fun v G1 H1 g1 r1 => ?_))
  have a1 := a.up0 g1.to0
  obtain ⟨us, q, pr⟩ := a1.st.ex
  obtain rfl : v = V.ref s := r1
  refine ⟨s, ds, us.map some, rfl, .inr ⟨q.at_, q.dx⟩, (ja (nm S 1 (mv g1 ro)) (ja (nm S 2 (mv g1 rf)) (ja (jst T a1.st t2 (jstate T a1 (nm S 0 rfl)) rfl) ja0))).here g1.ok fun ws G2 H2 g2 pw => ?_⟩
  obtain ⟨w1, w2, w3, rfl, q1, q2, q3⟩ := PR.three pw
  have a2 := a1.up0 g2.to0
  refine ⟨s, ds, G2, d, p, f, d.sh, w1, w2, w3, rfl, g2.s, a2.st, hpl, q1, q2, q3, fun G3 H3 g3 st3 => st0 (k .non G3 H3 ((g1.gr.up.trans g2.gr.up).trans g3) (a2.wr g3 st3))⟩
/-- a method's promise: its operation's -/
def spL (HC SC LC : Addr) (args : Op → List Rel → Prop) : Sp := fun vs H Q _ => ∃ h dh s ds G d p rest Rs, vs = .ref h :: rest ∧ args p Rs ∧ Same G H ∧ HlOk HC SC LC G H h dh s ds d ∧ SdOk 5000 d ∧ OpOk d.ns d.ps d.f d.sh p ∧ PR G rest Rs ∧
  ∀ v G' H', Gr (two2 s ds) G H G' H' → HlOk HC SC LC G' H' h dh s ds (nxt d p) → (rsR (res d p)).p v G' → Q v H'
/-- self.enter(e1, e2) as a statement -/
theorem st_enter {X : Cx} {σ : L2.St} {G H : Hp} {h dh s ds : Addr} {d : Sd} {p : Op} {f : Fc} {o e1 e2 : Expr} {apos cpos pos : Pos} {rest : List Stmt} {D : Ends} {pl : Sem Bool} (T : Txt X.K X.mg X.w HC SC LC TC) (hr : Room 2 X.A) (s0 : Same G H) (a : HlOk HC SC LC G H h dh s ds d) (hpl : d.past.length ≤ 5000)
    (ho : J pureM X o σ G H (isV (.ref h))) (h1 : J pureM X e1 σ G H (opR p)) (h2 : J pureM X e2 σ G H (fcR HC d.ns d.ps f))
    (k : ∀ G' H', Gr (two2 s ds) G H G' H' → HlOk HC SC LC G' H' h dh s ds { d with f := f, past := d.past ++ [(p, d.f, d.sh)], und := [] } → RunS X rest D σ H')
    (hst : starEach [e1, e2] X.env = (false, eval e1 X.env) :: starEach [e2] X.env := by rfl) (hst2 : starEach [e2] X.env = (false, eval e2 X.env) :: starEach [] X.env := by rfl) (hpl2 : (backTo cpos (starEach [e2] X.env)).any (·.1) = false := by rfl)
    (ht : eval (.Call (.Attribute o "enter" apos) [e1, e2] [] cpos) X.env = (do
      let ov ← eval o X.env
      standAt apos.atName
      let (f, first) ← holding [ov] (getMethod ov "enter" pl)
      callWith cpos f first (backTo cpos (starEach [e1, e2] X.env)) (backToKw cpos (keywordEach [] X.env))) := by rfl)
    (hsw : swapsWith (.Call (.Attribute o "enter" apos) [e1, e2] [] cpos) none pos.line X.env = pure false := by rfl) : RunS X (.Expr (.Call (.Attribute o "enter" apos) [e1, e2] [] cpos) pos :: rest) D σ H :=
  st (ps_expr sE hsw) (gmeth T.ls (kn_Hall_enter T) hr (ho.here (.pure s0) fun v G1 H1 g1 r1 => by
    have a1 := a.up0 g1.to0
    obtain rfl : v = V.ref h := r1
    refine ⟨h, dh, _, rfl, a1.at_, by rfl, (ja (h1.mono g1) (ja (h2.mono g1) ja0 hst2) hst).here g1.ok fun ws G2 H2 g2 pw => ?_⟩
    obtain ⟨w1, w2, rfl, q1, q2⟩ := PR.two pw
    exact ⟨h, dh, s, ds, G2, d, p, f, w1, w2, rfl, g2.s, a1.up0 g2.to0, hpl, q1, q2, fun v G3 H3 g3 a3 => k G3 H3 ((g1.gr.up.trans g2.gr.up).trans g3) a3⟩) hst hpl2 ht)
theorem kn_Hall_teach (T : Txt K mg w HC SC LC TC) : KnM P w K mg base 3 LC "teach" (spL HC SC LC fun p Rs => ∃ y, p = .teach y ∧ Rs = [isB y]) := by
  refine knm_body T.lteach sc_Hall_teach lo_Hall_teach (fun vs H Q E ⟨h, dh, s, ds, G, d, p, rest, Rs, e, ⟨y, _, eR⟩, _, _, _, _, pr, _⟩ => by rw [e, List.length_cons, pr.len, eR]; rfl) ?_
  rintro X S rfl rfl rfl rfl rfl hx hr vs H Q E ⟨h, dh, s, ds, G, d, p, rest, Rs, rfl, ⟨y, rfl, rfl⟩, s0, a, ok, op, pr, k⟩
  obtain ⟨v1, rfl, r1⟩ := PR.one pr
  obtain ⟨p0, t0⟩ := T.sfacts
  refine st_unp4 S 2 3 4 5 (.pure s0) (jst T a.st t0 (jstate T a (nm S 0 rfl)) rfl) fun w1 w2 w3 w4 G1 H1 g1 q1 q2 q3 q4 => ?_
  refine st_enter (p := .teach y) (f := { d.f with on := y }) T hr g1.s (a.up0 g1.to0) ok.pl (nm S 0 rfl) (jtup (ja jstr (ja (nm S 1 (mv g1 r1)) ja0)) (opRs_len _)) (jtup (ja (nm S 2 q1) (ja (nm S 3 q2) (ja (nm S 1 (mv g1 r1)) (ja (nm S 5 q4) ja0)))) (by simp)) fun G2 H2 g2 a2 => ?_
  exact st_ret (.pure g2.s) (nm S 4 (Rel.mo _ g2.g q3)) fun u G3 H3 g3 r => k u G3 H3 ((g1.gr.up.trans g2).to g3.to0) (a2.up0 g3.to0) r
end Lp
/-! ## D9 -/
set_option Elab.async false
set_option linter.all false
set_option maxRecDepth 100000
set_option maxHeartbeats 2000000
/-! Hall: post, swap, shift, keep_as, fetch. -/
namespace Lp
open PySem PySem.Spec PyProof.Rows L2
open SlX (Slt SlO SCls Slot1 slH putS SIsi)
section
variable {W : Md} {G H : Hp}
/-- a key put in a dict -/
theorem PD.putG {G : Hp} {z : Str} {v : V} {R : Rel} (hv : R.p v G) : ∀ {kvs : List (Key × V)} {ds : List (Str × Rel)}, PD G kvs ds → PD G (kvs.map fun kv => if kv.1 = Sum.inr z then (kv.1, v) else kv) (ds.map fun p => if p.1 = z then (p.1, R) else p)
  | _, _, .nil => .nil
  | kv :: kvs, d :: ds, .cons r t => by
    refine .cons ?_ (PD.putG hv t)
    have ek : kv.1 = Sum.inr d.1 := r.1
    dsimp only
    by_cases h : d.1 = z
    · rw [if_pos (by rw [ek, h]), if_pos h]
      exact ⟨ek, hv⟩
    · rw [if_neg (by rw [ek]; exact fun q => h (Sum.inr.inj q)), if_neg h]
      exact r
theorem PD.appD {G : Hp} : ∀ {k1 k2 : List (Key × V)} {d1 d2 : List (Str × Rel)}, PD G k1 d1 → PD G k2 d2 → PD G (k1 ++ k2) (d1 ++ d2)
  | _, _, _, _, .nil, q => q
  | _, _, _, _, .cons r t, q => .cons r (PD.appD t q)
theorem PD.any {G : Hp} {z : Str} : ∀ {kvs : List (Key × V)} {ds : List (Str × Rel)}, PD G kvs ds → (kvs.any fun kv => decide (kv.1 = Sum.inr z)) = (ds.any fun p => decide (p.1 = z))
  | _, _, .nil => rfl
  | kv :: kvs, d :: ds, .cons r t => by
    have ek : kv.1 = Sum.inr d.1 := r.1
    rw [List.any_cons, List.any_cons, PD.any t, ek]
    have : decide ((Sum.inr d.1 : Key) = Sum.inr z) = decide (d.1 = z) := by
      by_cases h : d.1 = z
      · rw [h]; simp
      · rw [decide_eq_false h, decide_eq_false (fun q => h (Sum.inr.inj q))]
    rw [this]
theorem putK_D {G : Hp} {z : Str} {v : V} {R : Rel} {kvs : List (Key × V)} {ds : List (Str × Rel)} (pd : PD G kvs ds) (hv : R.p v G) : PD G (putK kvs (Sum.inr z) v) (putD ds z R) := by
  unfold putK putD
  rw [pd.any]
  split
  · exact PD.putG hv pd
  · exact PD.appD pd (.cons ⟨rfl, hv⟩ .nil)
theorem tw_or1g {ds : List (Str × Rel)} {z : Str} {R : Rel} (hz : ds.length ≤ 10000) : Tw W rOr1 G H (dctR ds) (dctR [(z, R)]) (dctR (putD ds z R)) := fun x y G1 H1 g ⟨a, kvs, e, h, pd⟩ ⟨b, kvs2, e2, h2, pd2⟩ Q k => by
  cases pd2 with
  | cons r t =>
    cases t
    rename_i kv
    obtain ⟨k1, v1⟩ := kv
    obtain ⟨ek, rv⟩ := r
    obtain rfl : k1 = Sum.inr z := ek
    refine ⟨a, b, kvs, _, v1, e, e2, g.s _ _ h, g.s _ _ h2, ?_, fun p hp => ?_⟩
    · rw [pd.len]; omega
    · refine k _ _ _ (g.nw hp) ⟨p, _, rfl, upd_same, PD.mo (Gr.new (m := no) g.s hp).g (putK_D pd rv)⟩
theorem putD_map {α : Type} {sh : List (Str × α)} {z : Str} {f : α} {g : α → Rel} : (putD sh z f).map (fun p => (p.1, g p.2)) = putD (sh.map fun p => (p.1, g p.2)) z (g f) := by
  unfold putD
  have : ((sh.map fun p => (p.1, g p.2)).any fun p => decide (p.1 = z)) = (sh.any fun p => decide (p.1 = z)) := by rw [List.any_map]; rfl
  rw [this]
  split
  · rw [List.map_map, List.map_map]
    refine List.map_congr_left fun p _ => ?_
    show (((if p.1 = z then (p.1, f) else p).1, g (if p.1 = z then (p.1, f) else p).2) : Str × Rel) = if p.1 = z then (p.1, g f) else (p.1, g p.2)
    split <;> rfl
  · rw [List.map_append]; rfl
theorem shDs_lookup {HC : Addr} {ns ps : List Str} {z : Str} : ∀ (sh : Shf), (shDs HC ns ps sh).lookup z = (sh.lookup z).map (fcR HC ns ps)
  | [] => rfl
  | (y, f) :: sh => by
    show ((y, fcR HC ns ps f) :: shDs HC ns ps sh).lookup z = _
    rw [List.lookup_cons, List.lookup_cons, shDs_lookup sh]
    cases z == y <;> rfl
end
variable {P : Program} {w : World} {K : PySem.W.Frag} {mg : Str → Option Value} {base : Heap} {HC SC LC TC : Addr}
theorem kn_Hall_post (T : Txt K mg w HC SC LC TC) : KnM P w K mg base 10 LC "post" (spL HC SC LC fun p Rs => ∃ n b, p = .post n b ∧ Rs = [isS n, isN b]) := by
  refine knm_body T.lpost sc_Hall_post lo_Hall_post (fun vs H Q E ⟨h, dh, s, ds, G, d, p, rest, Rs, e, ⟨n, b, _, eR⟩, _, _, _, _, pr, _⟩ => by rw [e, List.length_cons, pr.len, eR]; rfl) ?_
  rintro X S rfl rfl rfl rfl rfl hx hr vs H Q E ⟨h, dh, s, ds, G, d, p, rest, Rs, rfl, ⟨n, b, rfl, rfl⟩, s0, a, ok, ⟨hn, hb⟩, pr, k⟩
  obtain ⟨v1, v2, rfl, r1, r2⟩ := PR.two pr
  obtain ⟨p0, t0⟩ := T.sfacts
  have okh := ok.f.ok
  have oko := ok.f.oo
  have ll := ok.f.ll
  refine st_unp4 S 3 4 5 6 (.pure s0) (jst T a.st t0 (jstate T a (nm S 0 rfl)) rfl) fun w1 w2 w3 w4 G1 H1 g1 q1 q2 q3 q4 => ?_
  refine st_expr g1.ok (jcall (kn_check_name T) (S.gl _ rfl) (hr.mono (by decide)) ((d.ns, d.ps, d.f.ms), n) hn (ja (nm S 3 q1) (ja (nm S 1 (mv g1 r1)) ja0))) fun _ G2 H2 g2 _ => ?_
  refine st_expr g2.ok (jcall (kn_check_box T) (S.gl _ rfl) (hr.mono (by decide)) ((d.ns, d.ps, d.f.ms), b) hb (ja (nm S 3 (mv g2 q1)) (ja (nm S 2 (mv (g1.trans g2) r2)) ja0))) fun _ G3 H3 g3 _ => ?_
  have g13 := g2.trans g3
  have g03 := g1.trans g13
  refine st_unp2 S 7 8 g3.ok (jcall (kn_way_of T) (S.gl _ rfl) (hr.mono (by decide)) ((d.ns, d.ps, d.f.ms), d.f.o, n, b) ⟨okh, oko, hn, hb⟩ (ja (nm S 3 (mv g13 q1)) (ja (nm S 4 (mv g13 q2)) (ja (nm S 1 (mv g03 r1)) (ja (nm S 2 (mv g03 r2)) ja0))))) fun w5 w6 G4 H4 g4 q5 q6 => ?_
  have g14 := g13.trans g4
  have g04 := g1.trans g14
  refine st_set S 9 g4.ok (R := hsR HC d.ns d.ps (if d.f.on = true then behindP d.ns d.f.ms d.f.o n (wayP d.ns d.f.ms d.f.o n b) else d.f.ms)) (jif (jtval (nm S 5 (mv g14 q3))) (fun t => (jixT (jcall (kn_behind_letter T) (S.gl _ rfl) (hr.mono (by decide)) ((d.ns, d.ps, d.f.ms), d.f.o, n, b) ⟨okh, oko, hn, hb⟩ (ja (nm S 3 (mv g14 q1)) (ja (nm S 4 (mv g14 q2)) (ja (nm S 1 (mv g04 r1)) (ja (nm S 2 (mv g04 r2)) ja0))))) jint (show atI _ ((0 : Nat) : Int) = some (hsR HC d.ns d.ps (behindP d.ns d.f.ms d.f.o n (wayP d.ns d.f.ms d.f.o n b))) by rw [atI_nat]; rfl)).eq (by rw [if_pos t])) fun t => (nm S 3 (mv g14 q1)).eq (by rw [if_neg (by rw [t]; decide)])) fun w7 G5 H5 g5 q7 => ?_
  have g15 := g14.trans g5
  have g05 := g1.trans g15
  refine st_enter (p := .post n b) (f := (stepF d.ns d.ps d.f d.sh (.post n b)).1) T (hr.mono (by decide)) g5.s (a.up0 g05.to0) ok.pl (nm S 0 rfl) (jtup (ja jstr (ja (nm S 1 (mv g05 r1)) (ja (nm S 2 (mv g05 r2)) ja0))) (opRs_len _))
    (jtup (ja (nm S 9 q7) (ja (nm S 4 (mv g15 q2)) (ja (nm S 5 (mv g15 q3)) (ja (J.eq (R1 := tupR ((d.f.lets ++ [(n, b, (wayP d.ns d.f.ms d.f.o n b).2)]).map ltR)) (jtup (jaStar (nm S 6 (mv g15 q4)) (ja (jtup (ja (nm S 1 (mv g05 r1)) (ja (nm S 2 (mv g05 r2)) (ja (nm S 8 (mv g5 q6)) ja0))) (by simp)) ja0)) (by simp; omega)) (by rw [List.map_append]; rfl)) ja0)))) (by simp)) fun G6 H6 g6 a6 => ?_
  have gg : Same G1 G6 := g15.g.trans g6.g
  exact st_ret (.pure g6.s) (jcall (kn_answer_of T) (S.gl _ rfl) (hr.mono (by decide)) ((d.ns, d.ps, d.f.ms), d.f.o, n, b) ⟨okh, oko, hn, hb⟩ (ja (nm S 3 (Rel.mo _ gg q1)) (ja (nm S 4 (Rel.mo _ gg q2)) (ja (nm S 1 (Rel.mo _ (g1.g.trans gg) r1)) (ja (nm S 2 (Rel.mo _ (g1.g.trans gg) r2)) ja0))))) fun u G7 H7 g7 r => k u G7 H7 ((g05.gr.up.trans g6).to g7.to0) (a6.up0 g7.to0) r
theorem swapP_len {o : List Nat} {i j : Nat} : (swapP o i j).length = o.length := by unfold swapP; simp
theorem kn_Hall_swap (T : Txt K mg w HC SC LC TC) (hsw : ∀ (ns ps : List Str) (o : List Nat) (i j : Nat), OkO ns.length ps.length o → i < o.length → j < o.length → OkO ns.length ps.length (swapP o i j)) : KnM P w K mg base 10 LC "swap" (spL HC SC LC fun p Rs => ∃ n m, p = .swap n m ∧ Rs = [isS n, isS m]) := by
  refine knm_body T.lswap sc_Hall_swap lo_Hall_swap (fun vs H Q E ⟨h, dh, s, ds, G, d, p, rest, Rs, e, ⟨n, m, _, eR⟩, _, _, _, _, pr, _⟩ => by rw [e, List.length_cons, pr.len, eR]; rfl) ?_
  rintro X S rfl rfl rfl rfl rfl hx hr vs H Q E ⟨h, dh, s, ds, G, d, p, rest, Rs, rfl, ⟨n, m, rfl, rfl⟩, s0, a, ok, ⟨hn, hm, hne⟩, pr, k⟩
  obtain ⟨v1, v2, rfl, r1, r2⟩ := PR.two pr
  obtain ⟨p0, t0⟩ := T.sfacts
  have okh := ok.f.ok
  have oko := ok.f.oo
  have ol := oko.len
  have i1 := List.idxOf_lt_length_of_mem hn
  have i2 := List.idxOf_lt_length_of_mem hm
  refine st_unp4 S 3 4 5 6 (.pure s0) (jst T a.st t0 (jstate T a (nm S 0 rfl)) rfl) fun w1 w2 w3 w4 G1 H1 g1 q1 q2 q3 q4 => ?_
  refine st_expr g1.ok (jcall (kn_check_name T) (S.gl _ rfl) (hr.mono (by decide)) ((d.ns, d.ps, d.f.ms), n) hn (ja (nm S 3 q1) (ja (nm S 1 (mv g1 r1)) ja0))) fun _ G2 H2 g2 _ => ?_
  refine st_expr g2.ok (jcall (kn_check_name T) (S.gl _ rfl) (hr.mono (by decide)) ((d.ns, d.ps, d.f.ms), m) hm (ja (nm S 3 (mv g2 q1)) (ja (nm S 2 (mv (g1.trans g2) r2)) ja0))) fun _ G3 H3 g3 _ => ?_
  have g13 := g2.trans g3
  have g03 := g1.trans g13
  refine st_ifn g3.ok (JT.eq (jtcmp op_eq (nm S 1 (mv g03 r1)) (nm S 2 (mv g03 r2)) (tw_eq rfl)) (decide_eq_false fun q => hne (V.str.inj q))) fun G4 H4 g4 => ?_
  have g14 := g13.trans g4
  have g04 := g1.trans g14
  refine st_set S 7 g4.ok (jcall (kn_exchanged T) (S.gl _ rfl) (hr.mono (by decide)) (d.f.o, d.ns.idxOf n, d.ns.idxOf m) ⟨show d.ns.idxOf n < d.f.o.length by omega, show d.ns.idxOf m < d.f.o.length by omega⟩ (ja (nm S 4 (mv g14 q2)) (ja (vtixS hn (jpropSl T.hs (kn_House_names T) (hr.mono (by decide)) (d.ns, d.ps, d.f.ms) trivial (nm S 3 (mv g14 q1)) rfl) (nm S 1 (mv g04 r1))) (ja (vtixS hm (jpropSl T.hs (kn_House_names T) (hr.mono (by decide)) (d.ns, d.ps, d.f.ms) trivial (nm S 3 (mv g14 q1)) rfl) (nm S 2 (mv g04 r2))) ja0)))) fun w5 G5 H5 g5 q5 => ?_
  have g15 := g14.trans g5
  have g05 := g1.trans g15
  refine st_enter (p := .swap n m) (f := (stepF d.ns d.ps d.f d.sh (.swap n m)).1) T (hr.mono (by decide)) g5.s (a.up0 g05.to0) ok.pl (nm S 0 rfl) (jtup (ja jstr (ja (nm S 1 (mv g05 r1)) (ja (nm S 2 (mv g05 r2)) ja0))) (opRs_len _))
    (jtup (ja (nm S 3 (mv g15 q1)) (ja (nm S 7 q5) (ja (nm S 5 (mv g15 q3)) (ja (nm S 6 (mv g15 q4)) ja0)))) (by simp)) fun G6 H6 g6 a6 => ?_
  have gg : Same G1 G6 := g15.g.trans g6.g
  exact st_ret (.pure g6.s) (jcall (kn_does_fit T) (S.gl _ rfl) (hr.mono (by decide)) ((d.ns, d.ps, d.f.ms), swapP d.f.o (d.ns.idxOf n) (d.ns.idxOf m)) ⟨okh, hsw d.ns d.ps d.f.o _ _ oko (by omega) (by omega)⟩ (ja (nm S 3 (Rel.mo _ gg q1)) (ja (nm S 7 (Rel.mo _ g6.g q5)) ja0))) fun u G7 H7 g7 r => k u G7 H7 ((g05.gr.up.trans g6).to g7.to0) (a6.up0 g7.to0) r
theorem kn_Hall_shift (T : Txt K mg w HC SC LC TC) : KnM P w K mg base 10 LC "shift" (spL HC SC LC fun p Rs => ∃ n b, p = .shift n b ∧ Rs = [isS n, isN b]) := by
  refine knm_body T.lshift sc_Hall_shift lo_Hall_shift (fun vs H Q E ⟨h, dh, s, ds, G, d, p, rest, Rs, e, ⟨n, m, _, eR⟩, _, _, _, _, pr, _⟩ => by rw [e, List.length_cons, pr.len, eR]; rfl) ?_
  rintro X S rfl rfl rfl rfl rfl hx hr vs H Q E ⟨h, dh, s, ds, G, d, p, rest, Rs, rfl, ⟨n, b, rfl, rfl⟩, s0, a, ok, ⟨hn, hb, hno⟩, pr, k⟩
  obtain ⟨v1, v2, rfl, r1, r2⟩ := PR.two pr
  obtain ⟨p0, t0⟩ := T.sfacts
  have oko := ok.f.oo
  have ol := oko.len
  have h6 := ok.f.ok.n.l6
  have i1 := List.idxOf_lt_length_of_mem hn
  refine st_unp4 S 3 4 5 6 (.pure s0) (jst T a.st t0 (jstate T a (nm S 0 rfl)) rfl) fun w1 w2 w3 w4 G1 H1 g1 q1 q2 q3 q4 => ?_
  refine st_expr g1.ok (jcall (kn_check_name T) (S.gl _ rfl) (hr.mono (by decide)) ((d.ns, d.ps, d.f.ms), n) hn (ja (nm S 3 q1) (ja (nm S 1 (mv g1 r1)) ja0))) fun _ G2 H2 g2 _ => ?_
  refine st_expr g2.ok (jcall (kn_check_box T) (S.gl _ rfl) (hr.mono (by decide)) ((d.ns, d.ps, d.f.ms), b) hb (ja (nm S 3 (mv g2 q1)) (ja (nm S 2 (mv (g1.trans g2) r2)) ja0))) fun _ G3 H3 g3 _ => ?_
  have g13 := g2.trans g3
  have g03 := g1.trans g13
  refine st_ifn g3.ok (JT.eq (jtcmp op_in_seq (nm S 2 (mv g03 r2)) (nm S 4 (mv g13 q2)) tw_inN) (decide_eq_false hno)) fun G4 H4 g4 => ?_
  have g14 := g13.trans g4
  have g04 := g1.trans g14
  refine st_set S 7 g4.ok (vtixS hn (jpropSl T.hs (kn_House_names T) (hr.mono (by decide)) (d.ns, d.ps, d.f.ms) trivial (nm S 3 (mv g14 q1)) rfl) (nm S 1 (mv g04 r1))) fun w5 G5 H5 g5 q5 => ?_
  have g15 := g14.trans g5
  have g05 := g1.trans g15
  have q5' : (isN (d.ns.idxOf n)).p w5 G5 := q5
  have eo : (cutR (d.f.o.map isN) none (some ((d.ns.idxOf n : Nat) : Int)) ++ [isN b]) ++ cutR (d.f.o.map isN) (some (((d.ns.idxOf n + 1 : Nat) : Int))) none = (d.f.o.set (d.ns.idxOf n) b).map isN := by
    rw [cutR_to, cutR_from, ← set_cut (by omega)]
    simp [List.map_take, List.map_drop]
  have e1 : (((d.ns.idxOf n : Nat) : Int) + 1) = ((d.ns.idxOf n + 1 : Nat) : Int) := by omega
  refine st_enter (p := .shift n b) (f := (stepF d.ns d.ps d.f d.sh (.shift n b)).1) T (hr.mono (by decide)) g5.s (a.up0 g05.to0) ok.pl (nm S 0 rfl) (jtup (ja jstr (ja (nm S 1 (mv g05 r1)) (ja (nm S 2 (mv g05 r2)) ja0))) (opRs_len _))
    (jtup (ja (nm S 3 (mv g15 q1)) (ja (J.eq (R1 := ordR (d.f.o.set (d.ns.idxOf n) b)) (jcatT (jcatT (jslT (nm S 4 (mv g15 q2)) jo0 (jo1 (nm S 7 q5'))) (jtup (ja (nm S 2 (mv g05 r2)) ja0) (by simp)) ?_) (jslT (nm S 4 (mv g15 q2)) (jo1 (jadd (nm S 7 q5') jint)) jo0) ?_) ?_) (ja (nm S 5 (mv g15 q3)) (ja (nm S 6 (mv g15 q4)) ja0)))) (by simp)) fun G6 H6 g6 a6 => ?_
  · rw [cutR_to]; simp; omega
  · rw [cutR_to, e1, cutR_from]; simp; omega
  · rw [e1]
    exact congrArg tupR eo
  · have gg : Same G1 G6 := g15.g.trans g6.g
    refine st_ret (.pure g6.s) (jixN (x := d.f.o.getD (d.ns.idxOf n) 0) (nm S 4 (Rel.mo _ gg q2)) (nm S 7 (Rel.mo _ g6.g q5')) ?_) fun u G7 H7 g7 r => k u G7 H7 ((g05.gr.up.trans g6).to g7.to0) (a6.up0 g7.to0) r
    rw [List.getD_eq_getElem?_getD, List.getElem?_eq_getElem (by omega)]
    rfl
end Lp
/-! ## D10 -/
set_option Elab.async false
set_option linter.all false
set_option maxRecDepth 100000
set_option maxHeartbeats 2000000
/-! Hall: keep_as, fetch, undo, redo, execute. -/
namespace Lp
open PySem PySem.Spec PyProof.Rows L2
open SlX (Slt SlO SCls Slot1 slH putS SIsi)
theorem okO_swap {k n : Nat} {o : List Nat} {i j : Nat} (h : OkO k n o) (hi : i < o.length) (hj : j < o.length) : OkO k n (swapP o i j) := by
  have ei : o.getD i 0 = o[i] := by rw [List.getD_eq_getElem?_getD, List.getElem?_eq_getElem hi]; rfl
  have ej : o.getD j 0 = o[j] := by rw [List.getD_eq_getElem?_getD, List.getElem?_eq_getElem hj]; rfl
  refine ⟨by rw [swapP_len]; exact h.len, ?_, fun b hb => ?_⟩
  · unfold swapP
    rw [ei, ej]
    refine List.pairwise_iff_getElem.mpr fun a b ha hb hab => ?_
    have inj : ∀ {x y : Nat} (hx : x < o.length) (hy : y < o.length), o[x] = o[y] → x = y := fun hx hy e => (List.getElem_inj h.nd).mp e
    simp only [List.length_set] at ha hb
    have gl : ∀ (x : Nat) (hx : x < ((o.set i o[j]).set j o[i]).length), ((o.set i o[j]).set j o[i])[x] = o[if j = x then i else if i = x then j else x]'(by split <;> (try split) <;> simp at hx <;> omega) := fun x hx => by
      rw [List.getElem_set]
      split
      · rename_i q
        simp only [q, if_true]
      · rename_i q
        rw [List.getElem_set]
        split
        · rename_i q2
          simp only [q, q2, if_true, if_false]
        · rename_i q2
          simp only [q, q2, if_false]
    rw [gl, gl]
    intro e
    have e2 := inj _ _ e
    clear gl e
    repeat' split at e2
    all_goals omega
  · unfold swapP at hb
    rcases List.mem_or_eq_of_mem_set hb with q | q
    · rcases List.mem_or_eq_of_mem_set q with q | q
      · exact h.lt b q
      · rw [q, ej]; exact h.lt _ (List.getElem_mem hj)
    · rw [q, ei]; exact h.lt _ (List.getElem_mem hi)
variable {P : Program} {w : World} {K : PySem.W.Frag} {mg : Str → Option Value} {base : Heap} {HC SC LC TC : Addr}
theorem kn_Hall_keep_as (T : Txt K mg w HC SC LC TC) : KnM P w K mg base 10 LC "keep_as" (spL HC SC LC fun p Rs => ∃ z, p = .keepAs z ∧ Rs = [isS z]) := by
  refine knm_body T.lkeep_as sc_Hall_keep_as lo_Hall_keep_as (fun vs H Q E ⟨h, dh, s, ds, G, d, p, rest, Rs, e, ⟨n, _, eR⟩, _, _, _, _, pr, _⟩ => by rw [e, List.length_cons, pr.len, eR]; rfl) ?_
  rintro X S rfl rfl rfl rfl rfl hx hr vs H Q E ⟨h, dh, s, ds, G, d, p, rest, Rs, rfl, ⟨z, rfl, rfl⟩, s0, a, ok, hz, pr, k⟩
  obtain ⟨v1, rfl, r1⟩ := PR.one pr
  obtain ⟨p0, t0⟩ := T.sfacts
  obtain ⟨p2, t2⟩ := T.sshelf
  have v := S.vw T.b hr
  refine st_ifn (.pure s0) (jtnot (jtval (jcall (kn_is_text T) (S.gl _ rfl) (hr.mono (by decide)) (z, LET) hz (ja (nm S 1 r1) (ja (vgS v T.letters) ja0))))) fun G1 H1 g1 => ?_
  have a1 := a.up0 g1.to0
  refine st_set S 2 g1.ok (jstate T a1 (nm S 0 rfl)) fun u1 G2 H2 g2 q1 => ?_
  have a2 := a1.up0 g2.to0
  obtain rfl : u1 = V.ref s := q1
  refine st_set S 3 g2.ok (vinD v (nm S 1 (mv (g1.trans g2) r1)) (jst T a2.st t2 (nm S 2 rfl) rfl)) fun u2 G3 H3 g3 q2 => ?_
  have a3 := a2.up0 g3.to0
  have g03 := (g1.trans g2).trans g3
  have hl : (shDs HC d.ns d.ps d.sh).length ≤ 10000 := by unfold shDs; rw [List.length_map]; have := ok.sh.sz; omega
  refine st (ps_expr sE (by rfl)) (gmethSl T.ss (kn_State_go_on T) (hr.mono (by decide)) ((nm S 2 rfl).here (R := isV (.ref s)) g3.ok fun x G4 H4 g4 rx => ?_))
  obtain rfl : x = V.ref s := rx
  have a4 := a3.up0 g4.to0
  have g04 := g03.trans g4
  obtain ⟨us, q, prs⟩ := a4.st.ex
  refine ⟨s, ds, us.map some, rfl, .inr ⟨q.at_, q.dx⟩, (ja (R := opR (.keepAs z)) (jtup (ja jstr (ja (nm S 1 (mv g04 r1)) ja0)) (opRs_len _)) (ja (jst T a4.st t0 (nm S 2 rfl) rfl) (ja (jop (op_or1 (by have := v.un; omega)) (jst T a4.st t2 (nm S 2 rfl) rfl) (jd1 (nm S 1 (mv g04 r1)) (jst T a4.st t0 (nm S 2 rfl) rfl)) (tw_or1g hl)) ja0))).here g4.ok fun ws G5 H5 g5 pw => ?_⟩
  obtain ⟨w1, w2, w3, rfl, e1, e2, e3⟩ := PR.three pw
  have a5 := a4.up0 g5.to0
  refine ⟨s, ds, G5, d, .keepAs z, d.f, putD d.sh z d.f, w1, w2, w3, rfl, g5.s, a5.st, ok.pl, e1, e2, ?_, fun G6 H6 g6 st6 => ?_⟩
  · show (dctR (shDs HC d.ns d.ps (putD d.sh z d.f))).p w3 G5
    unfold shDs
    rw [putD_map]
    exact e3
  · have a6 := a5.wr g6 st6
    refine st_ret (.pure g6.s) (nm S 3 (R := isB (d.sh.lookup z).isSome) ?_) fun u G7 H7 g7 r => k u G7 H7 ((g04.gr.up.trans (g5.gr.up.trans g6)).to g7.to0) (a6.up0 g7.to0) r
    have q2' := Rel.mo _ ((g4.g.trans g5.g).trans g6.g) q2
    rw [shDs_lookup, Option.isSome_map] at q2'
    exact q2'
theorem kn_Hall_fetch (T : Txt K mg w HC SC LC TC) : KnM P w K mg base 10 LC "fetch" (spL HC SC LC fun p Rs => ∃ z, p = .fetch z ∧ Rs = [isS z]) := by
  refine knm_body T.lfetch sc_Hall_fetch lo_Hall_fetch (fun vs H Q E ⟨h, dh, s, ds, G, d, p, rest, Rs, e, ⟨n, _, eR⟩, _, _, _, _, pr, _⟩ => by rw [e, List.length_cons, pr.len, eR]; rfl) ?_
  rintro X S rfl rfl rfl rfl rfl hx hr vs H Q E ⟨h, dh, s, ds, G, d, p, rest, Rs, rfl, ⟨z, rfl, rfl⟩, s0, a, ok, hz, pr, k⟩
  obtain ⟨v1, rfl, r1⟩ := PR.one pr
  obtain ⟨p0, t0⟩ := T.sfacts
  obtain ⟨p2, t2⟩ := T.sshelf
  have v := S.vw T.b hr
  have hz' : (d.sh.lookup z).isSome = true := hz
  obtain ⟨f, hf⟩ := Option.isSome_iff_exists.mp hz'
  have ef : fetchF d.sh z = f := by unfold fetchF; rw [hf]; rfl
  have hl : (shDs HC d.ns d.ps d.sh).lookup z = some (fcR HC d.ns d.ps f) := by rw [shDs_lookup, hf]; rfl
  refine st_set S 2 (.pure s0) (jstate T a (nm S 0 rfl)) fun u1 G1 H1 g1 q1 => ?_
  have a1 := a.up0 g1.to0
  obtain rfl : u1 = V.ref s := q1
  refine st_ifn g1.ok (JT.eq (t := !true || !((shDs HC d.ns d.ps d.sh).lookup z).isSome) (jtw (jwo (jtnot (jtval (visi v (nm S 1 (mv g1 r1)) (fun _ _ _ => ty_str) (n := "str") (by decide +kernel) T.b.str (by decide +kernel)))) fun _ => jw1o (vtninD v (nm S 1 (mv g1 r1)) (jst T a1.st t2 (nm S 2 rfl) rfl)))) (by rw [hl]; rfl)) fun G2 H2 g2 => ?_
  have a2 := a1.up0 g2.to0
  have g02 := g1.trans g2
  refine st (ps_expr sE (by rfl)) (gmethSl T.ss (kn_State_go_on T) (hr.mono (by decide)) ((nm S 2 rfl).here (R := isV (.ref s)) g2.ok fun x G4 H4 g4 rx => ?_))
  obtain rfl : x = V.ref s := rx
  have a4 := a2.up0 g4.to0
  have g04 := g02.trans g4
  obtain ⟨us, q, prs⟩ := a4.st.ex
  refine ⟨s, ds, us.map some, rfl, .inr ⟨q.at_, q.dx⟩, (ja (R := opR (.fetch z)) (jtup (ja jstr (ja (nm S 1 (mv g04 r1)) ja0)) (opRs_len _)) (ja (vixD v (jst T a4.st t2 (nm S 2 rfl) rfl) (nm S 1 (mv g04 r1)) hl) (ja (jst T a4.st t2 (nm S 2 rfl) rfl) ja0))).here g4.ok fun ws G5 H5 g5 pw => ?_⟩
  obtain ⟨w1, w2, w3, rfl, e1, e2, e3⟩ := PR.three pw
  have a5 := a4.up0 g5.to0
  refine ⟨s, ds, G5, d, .fetch z, f, d.sh, w1, w2, w3, rfl, g5.s, a5.st, ok.pl, e1, e2, e3, fun G6 H6 g6 st6 => ?_⟩
  have a6 := a5.wr g6 st6
  have en : ({ d with f := f, past := d.past ++ [(Op.fetch z, d.f, d.sh)], und := [] } : Sd) = nxt d (.fetch z) := by
    unfold nxt
    show _ = ({ d with f := fetchF d.sh z, sh := d.sh, past := d.past ++ [(Op.fetch z, d.f, d.sh)], und := [] } : Sd)
    rw [ef]
  have a6' : HlOk HC SC LC G6 H6 h dh s ds (nxt d (.fetch z)) := en ▸ a6
  refine st_ret (.pure g6.s) (R := isN f.lets.length) ((vlenT v (jixT (jst T a6.st t0 (nm S 2 rfl) rfl) (jint (i := 3)) (show atI _ ((3 : Nat) : Int) = some (tupR (f.lets.map ltR)) by rw [atI_nat]; rfl))).eq (by rw [List.length_map])) fun u G7 H7 g7 r => k u G7 H7 ((g04.gr.up.trans (g5.gr.up.trans g6)).to g7.to0) (a6'.up0 g7.to0) ?_
  show (isN (fetchF d.sh z).lets.length).p u G7
  rw [ef]
  exact r
/-! ### undo, redo -/
def backD (d : Sd) : Sd := match d.past.getLast? with
  | none => d
  | some (p, f, sh) => { d with f := f, sh := sh, past := d.past.dropLast, und := d.und ++ [(p, d.f, d.sh)] }
def againD (d : Sd) : Sd := match d.und.getLast? with
  | none => d
  | some (p, f, sh) => { d with f := f, sh := sh, past := d.past ++ [(p, d.f, d.sh)], und := d.und.dropLast }
def spUn (HC SC LC : Addr) (nx : Sd → Sd) (rs : Sd → Bool) : Sp := fun vs H Q _ => ∃ h dh s ds G d, vs = [.ref h] ∧ Same G H ∧ HlOk HC SC LC G H h dh s ds d ∧ d.past.length ≤ 5000 ∧ d.und.length ≤ 5000 ∧
  ∀ G' H', Gr (two2 s ds) G H G' H' → HlOk HC SC LC G' H' h dh s ds (nx d) → Q (.bl (rs d)) H'
theorem last_split {α : Type} {l : List α} (h : l.isEmpty = false) : ∃ l' x, l = l' ++ [x] ∧ l.getLast? = some x ∧ l.dropLast = l' := by
  have hne : l ≠ [] := by intro z; rw [z] at h; cases h
  refine ⟨l.dropLast, l.getLast hne, (List.dropLast_concat_getLast hne).symm, List.getLast?_eq_some_getLast hne, rfl⟩
theorem kn_Hall_undo (T : Txt K mg w HC SC LC TC) : KnM P w K mg base 2 LC "undo" (spUn HC SC LC backD fun d => !d.past.isEmpty) := by
  refine knm_body T.lundo sc_Hall_undo lo_Hall_undo (fun vs H Q E ⟨h, dh, s, ds, G, d, e, _⟩ => by rw [e]; rfl) ?_
  rintro X S rfl rfl rfl rfl rfl hx hr vs H Q E ⟨h, dh, s, ds, G, d, rfl, s0, a, hpl, hul, k⟩
  obtain ⟨p1, t1⟩ := T.spast
  have emp : (d.past.map (entR HC d.ns d.ps)).isEmpty = d.past.isEmpty := by cases d.past <;> rfl
  refine st_ifr (.pure s0) (t := d.past.isEmpty) (R := isB false) (JT.eq (jtcmp (op_eqT0 (by have := hr.un; omega)) (jst T a.st t1 (jstate T a (nm S 0 rfl)) (show _ = some (tupR (d.past.map (entR HC d.ns d.ps))) from rfl)) (jtup ja0 (by simp)) tw_eqT0) emp) (fun _ => jbl) (fun t u G1 H1 g1 r => ?_) fun t G1 H1 g1 => ?_
  · have e1 : backD d = d := by unfold backD; cases hp : d.past with | nil => rfl | cons x y => rw [hp] at t; cases t
    have r' : u = V.bl (!d.past.isEmpty) := by rw [t]; exact r
    rw [r']
    exact k G1 H1 g1.gr.up (by rw [e1]; exact a.up0 g1.to0)
  · obtain ⟨l, ⟨p, f, sh⟩, e1, e2, e3⟩ := last_split t
    refine st (ps_expr sE (by rfl)) (gmethSl0 T.ss (kn_State_go_back T) hr ((jstate T (a.up0 g1.to0) (nm S 0 rfl)).here g1.ok fun x G2 H2 g2 rx => ?_))
    obtain rfl : x = V.ref s := rx
    have a2 := (a.up0 g1.to0).up0 g2.to0
    obtain ⟨us, q, prs⟩ := a2.st.ex
    refine ⟨s, ds, us.map some, rfl, .inr ⟨q.at_, q.dx⟩, s, ds, G2, d, l, p, f, sh, rfl, g2.s, a2.st, hul, hpl, e1, fun G3 H3 g3 st3 => ?_⟩
    have a3 := a2.wr g3 st3
    refine st_ret (.pure g3.s) jbl fun u G4 H4 g4 r => ?_
    have r' : u = V.bl (!d.past.isEmpty) := by rw [t]; exact r
    rw [r']
    refine k G4 H4 (((g1.gr.up.trans g2.gr.up).trans g3).to g4.to0) ?_
    have e4 : backD d = { d with f := f, sh := sh, past := l, und := d.und ++ [(p, d.f, d.sh)] } := by unfold backD; rw [e2, e3]
    rw [e4]
    exact a3.up0 g4.to0
theorem kn_Hall_redo (T : Txt K mg w HC SC LC TC) : KnM P w K mg base 2 LC "redo" (spUn HC SC LC againD fun d => !d.und.isEmpty) := by
  refine knm_body T.lredo sc_Hall_redo lo_Hall_redo (fun vs H Q E ⟨h, dh, s, ds, G, d, e, _⟩ => by rw [e]; rfl) ?_
  rintro X S rfl rfl rfl rfl rfl hx hr vs H Q E ⟨h, dh, s, ds, G, d, rfl, s0, a, hpl, hul, k⟩
  obtain ⟨p1, t1⟩ := T.sundone
  have emp : (d.und.map (entR HC d.ns d.ps)).isEmpty = d.und.isEmpty := by cases d.und <;> rfl
  refine st_ifr (.pure s0) (t := d.und.isEmpty) (R := isB false) (JT.eq (jtcmp (op_eqT0 (by have := hr.un; omega)) (jst T a.st t1 (jstate T a (nm S 0 rfl)) (show _ = some (tupR (d.und.map (entR HC d.ns d.ps))) from rfl)) (jtup ja0 (by simp)) tw_eqT0) emp) (fun _ => jbl) (fun t u G1 H1 g1 r => ?_) fun t G1 H1 g1 => ?_
  · have e1 : againD d = d := by unfold againD; cases hp : d.und with | nil => rfl | cons x y => rw [hp] at t; cases t
    have r' : u = V.bl (!d.und.isEmpty) := by rw [t]; exact r
    rw [r']
    exact k G1 H1 g1.gr.up (by rw [e1]; exact a.up0 g1.to0)
  · obtain ⟨l, ⟨p, f, sh⟩, e1, e2, e3⟩ := last_split t
    refine st (ps_expr sE (by rfl)) (gmethSl0 T.ss (kn_State_go_again T) hr ((jstate T (a.up0 g1.to0) (nm S 0 rfl)).here g1.ok fun x G2 H2 g2 rx => ?_))
    obtain rfl : x = V.ref s := rx
    have a2 := (a.up0 g1.to0).up0 g2.to0
    obtain ⟨us, q, prs⟩ := a2.st.ex
    refine ⟨s, ds, us.map some, rfl, .inr ⟨q.at_, q.dx⟩, s, ds, G2, d, l, p, f, sh, rfl, g2.s, a2.st, hul, hpl, e1, fun G3 H3 g3 st3 => ?_⟩
    have a3 := a2.wr g3 st3
    refine st_ret (.pure g3.s) jbl fun u G4 H4 g4 r => ?_
    have r' : u = V.bl (!d.und.isEmpty) := by rw [t]; exact r
    rw [r']
    refine k G4 H4 (((g1.gr.up.trans g2.gr.up).trans g3).to g4.to0) ?_
    have e4 : againD d = { d with f := f, sh := sh, past := d.past ++ [(p, d.f, d.sh)], und := l } := by unfold againD; rw [e2, e3]
    rw [e4]
    exact a3.up0 g4.to0
end Lp
/-! ## D11 -/
set_option Elab.async false
set_option linter.all false
set_option maxRecDepth 100000
set_option maxHeartbeats 2000000
/-! Hall.execute; Trial; Hall.__init__. -/
namespace Lp
open PySem PySem.Spec PyProof.Rows L2
open SlX (Slt SlO SCls Slot1 slH putS SIsi)
variable {P : Program} {w : World} {K : PySem.W.Frag} {mg : Str → Option Value} {base : Heap} {HC SC LC TC : Addr}
/-- return o.m(..) of a hall's operation -/
theorem st_op {X : Cx} {σ : L2.St} {G H : Hp} {h dh s ds : Addr} {d : Sd} {p : Op} {args : Op → List Rel → Prop} {k : Nat} {m : Str} {o e : Expr} {es : List Expr} {Rs : List Rel} {apos cpos pos : Pos} {rest : List Stmt} {D : Ends} {pl : Sem Bool} (T : Txt X.K X.mg X.w HC SC LC TC) (K1 : KnM X.prog X.w X.K X.mg X.base k LC m (spL HC SC LC args)) (hr : Room k X.A) (s0 : Same G H) (a : HlOk HC SC LC G H h dh s ds d)
    (ok : SdOk 5000 d) (op : OpOk d.ns d.ps d.f d.sh p) (ho : J pureM X o σ G H (isV (.ref h))) (ha : JA pureM X (e :: es) σ G H Rs) (hargs : args p Rs)
    (q : ∀ v G' H', Gr (two2 s ds) G H G' H' → HlOk HC SC LC G' H' h dh s ds (nxt d p) → (rsR (res d p)).p v G' → D.rt v H') (hm : ([("state", V.ref s)] : List (Str × V)).lookup m = none := by rfl)
    (hst : starEach (e :: es) X.env = (false, eval e X.env) :: starEach es X.env := by rfl) (hpl : (backTo cpos (starEach es X.env)).any (·.1) = false := by rfl)
    (ht : eval (.Call (.Attribute o m apos) (e :: es) [] cpos) X.env = (do
      let ov ← eval o X.env
      standAt apos.atName
      let (f, first) ← holding [ov] (getMethod ov m pl)
      callWith cpos f first (backTo cpos (starEach (e :: es) X.env)) (backToKw cpos (keywordEach [] X.env))) := by rfl) : RunS X (.Return (some (.Call (.Attribute o m apos) (e :: es) [] cpos)) pos :: rest) D σ H :=
  st (ps_ret sE) (gmeth T.ls K1 hr (ho.here (.pure s0) fun v G1 H1 g1 r1 => by
    have a1 := a.up0 g1.to0
    obtain rfl : v = V.ref h := r1
    exact ⟨h, dh, _, rfl, a1.at_, hm, (ha.mono g1).here g1.ok fun ws G2 H2 g2 pw => ⟨h, dh, s, ds, G2, d, p, ws, Rs, rfl, hargs, g2.s, a1.up0 g2.to0, ok, op, pw, fun v G3 H3 g3 a3 r3 => q v G3 H3 ((g1.gr.up.trans g2.gr.up).trans g3) a3 r3⟩⟩) hst hpl ht)
theorem str_ne {a b : Str} (h : (a == b) = false) : decide (V.str a = V.str b) = false := decide_eq_false fun q => by
  have := V.str.inj q
  subst this
  simp at h
theorem kn_Hall_execute (T : Txt K mg w HC SC LC TC) : KnM P w K mg base 11 LC "execute" (spL HC SC LC fun p Rs => Rs = [opR p]) := by
  refine knm_body T.lexecute sc_Hall_execute lo_Hall_execute (fun vs H Q E ⟨h, dh, s, ds, G, d, p, rest, Rs, e, eR, _, _, _, _, pr, _⟩ => by rw [e, List.length_cons, pr.len, eR]; rfl) ?_
  rintro X S rfl rfl rfl rfl rfl hx hr vs H Q E ⟨h, dh, s, ds, G, d, p, rest, Rs, rfl, rfl, s0, a, ok, op, pr, k⟩
  obtain ⟨v1, rfl, r1⟩ := PR.one pr
  obtain ⟨rs, ers⟩ := opRs0 p
  have r1' : (tupR (isS (opW p) :: rs)).p v1 G := by rw [← ers]; exact r1
  have h0 : atI (isS (opW p) :: rs) 0 = some (isS (opW p)) := by
    have := atI_nat (xs := isS (opW p) :: rs) (i := 0)
    exact this
  have hc : cutR (isS (opW p) :: rs) (some ((1 : Nat) : Int)) none = rs := by rw [cutR_from]; rfl
  refine st_par S 2 3 (.pure s0) (ja (jixT (nm S 1 r1') jint h0) (ja ((jslT (nm S 1 r1') (jo1 jint) jo0).eq (congrArg tupR hc)) ja0)) fun w1 w2 G1 H1 g1 q1 q2 => ?_
  have a1 := a.up0 g1.to0
  have kk : ∀ {G2 H2 : Hp}, Gw pureM G1 H1 G2 H2 → ∀ v G' H', Gr (two2 s ds) G2 H2 G' H' → HlOk HC SC LC G' H' h dh s ds (nxt d p) → (rsR (res d p)).p v G' → Q v H' := fun g2 v G' H' g' a' r' => k v G' H' ((g1.trans g2).gr.up.trans g') a' r'
  cases p with
  | post n b =>
    cases ers
    refine st_ify g1.ok (JT.eq (jtcmp op_eq (nm S 2 q1) jstr (tw_eq rfl)) (decide_eq_true rfl)) fun G2 H2 g2 => ?_
    exact st_op (p := .post n b) T (kn_Hall_post T) hr g2.s (a1.up0 g2.to0) ok op (nm S 0 rfl) (ja (jixT (nm S 3 (mv g2 q2)) (jint (i := 0)) (show atI _ ((0 : Nat) : Int) = some (isS n) by rw [atI_nat]; rfl)) (ja (jixT (nm S 3 (mv g2 q2)) (jint (i := 1)) (show atI _ ((1 : Nat) : Int) = some (isN b) by rw [atI_nat]; rfl)) ja0)) ⟨n, b, rfl, rfl⟩ (kk g2)
  | swap n m =>
    cases ers
    refine st_ifn g1.ok (JT.eq (jtcmp op_eq (nm S 2 q1) jstr (tw_eq rfl)) (str_ne rfl)) fun G2 H2 g2 => ?_
    refine st_ify g2.ok (JT.eq (jtcmp op_eq (nm S 2 (mv g2 q1)) jstr (tw_eq rfl)) (decide_eq_true rfl)) fun G3 H3 g3 => ?_
    have g23 := g2.trans g3
    exact st_op (p := .swap n m) T (kn_Hall_swap T fun ns ps o i j h hi hj => okO_swap h hi hj) hr g3.s (a1.up0 g23.to0) ok op (nm S 0 rfl) (ja (jixT (nm S 3 (mv g23 q2)) (jint (i := 0)) (show atI _ ((0 : Nat) : Int) = some (isS n) by rw [atI_nat]; rfl)) (ja (jixT (nm S 3 (mv g23 q2)) (jint (i := 1)) (show atI _ ((1 : Nat) : Int) = some (isS m) by rw [atI_nat]; rfl)) ja0)) ⟨n, m, rfl, rfl⟩ (kk g23)
  | shift n b =>
    cases ers
    refine st_ifn g1.ok (JT.eq (jtcmp op_eq (nm S 2 q1) jstr (tw_eq rfl)) (str_ne rfl)) fun G2 H2 g2 => ?_
    refine st_ifn g2.ok (JT.eq (jtcmp op_eq (nm S 2 (mv g2 q1)) jstr (tw_eq rfl)) (str_ne rfl)) fun G3 H3 g3 => ?_
    have g23 := g2.trans g3
    refine st_ify g3.ok (JT.eq (jtcmp op_eq (nm S 2 (mv g23 q1)) jstr (tw_eq rfl)) (decide_eq_true rfl)) fun G4 H4 g4 => ?_
    have g24 := g23.trans g4
    exact st_op (p := .shift n b) T (kn_Hall_shift T) hr g4.s (a1.up0 g24.to0) ok op (nm S 0 rfl) (ja (jixT (nm S 3 (mv g24 q2)) (jint (i := 0)) (show atI _ ((0 : Nat) : Int) = some (isS n) by rw [atI_nat]; rfl)) (ja (jixT (nm S 3 (mv g24 q2)) (jint (i := 1)) (show atI _ ((1 : Nat) : Int) = some (isN b) by rw [atI_nat]; rfl)) ja0)) ⟨n, b, rfl, rfl⟩ (kk g24)
  | teach y =>
    cases ers
    refine st_ifn g1.ok (JT.eq (jtcmp op_eq (nm S 2 q1) jstr (tw_eq rfl)) (str_ne rfl)) fun G2 H2 g2 => ?_
    refine st_ifn g2.ok (JT.eq (jtcmp op_eq (nm S 2 (mv g2 q1)) jstr (tw_eq rfl)) (str_ne rfl)) fun G3 H3 g3 => ?_
    have g23 := g2.trans g3
    refine st_ifn g3.ok (JT.eq (jtcmp op_eq (nm S 2 (mv g23 q1)) jstr (tw_eq rfl)) (str_ne rfl)) fun G4 H4 g4 => ?_
    have g24 := g23.trans g4
    refine st_ify g4.ok (JT.eq (jtcmp op_eq (nm S 2 (mv g24 q1)) jstr (tw_eq rfl)) (decide_eq_true rfl)) fun G5 H5 g5 => ?_
    have g25 := g24.trans g5
    exact st_op (p := .teach y) T (kn_Hall_teach T) (hr.mono (by decide)) g5.s (a1.up0 g25.to0) ok op (nm S 0 rfl) (ja (jixT (nm S 3 (mv g25 q2)) (jint (i := 0)) (show atI _ ((0 : Nat) : Int) = some (isB y) by rw [atI_nat]; rfl)) ja0) ⟨y, rfl, rfl⟩ (kk g25)
  | keepAs z =>
    cases ers
    refine st_ifn g1.ok (JT.eq (jtcmp op_eq (nm S 2 q1) jstr (tw_eq rfl)) (str_ne rfl)) fun G2 H2 g2 => ?_
    refine st_ifn g2.ok (JT.eq (jtcmp op_eq (nm S 2 (mv g2 q1)) jstr (tw_eq rfl)) (str_ne rfl)) fun G3 H3 g3 => ?_
    have g23 := g2.trans g3
    refine st_ifn g3.ok (JT.eq (jtcmp op_eq (nm S 2 (mv g23 q1)) jstr (tw_eq rfl)) (str_ne rfl)) fun G4 H4 g4 => ?_
    have g24 := g23.trans g4
    refine st_ifn g4.ok (JT.eq (jtcmp op_eq (nm S 2 (mv g24 q1)) jstr (tw_eq rfl)) (str_ne rfl)) fun G5 H5 g5 => ?_
    have g25 := g24.trans g5
    refine st_ify g5.ok (JT.eq (jtcmp op_eq (nm S 2 (mv g25 q1)) jstr (tw_eq rfl)) (decide_eq_true rfl)) fun G6 H6 g6 => ?_
    have g26 := g25.trans g6
    exact st_op (p := .keepAs z) T (kn_Hall_keep_as T) hr g6.s (a1.up0 g26.to0) ok op (nm S 0 rfl) (ja (jixT (nm S 3 (mv g26 q2)) (jint (i := 0)) (show atI _ ((0 : Nat) : Int) = some (isS z) by rw [atI_nat]; rfl)) ja0) ⟨z, rfl, rfl⟩ (kk g26)
  | fetch z =>
    cases ers
    refine st_ifn g1.ok (JT.eq (jtcmp op_eq (nm S 2 q1) jstr (tw_eq rfl)) (str_ne rfl)) fun G2 H2 g2 => ?_
    refine st_ifn g2.ok (JT.eq (jtcmp op_eq (nm S 2 (mv g2 q1)) jstr (tw_eq rfl)) (str_ne rfl)) fun G3 H3 g3 => ?_
    have g23 := g2.trans g3
    refine st_ifn g3.ok (JT.eq (jtcmp op_eq (nm S 2 (mv g23 q1)) jstr (tw_eq rfl)) (str_ne rfl)) fun G4 H4 g4 => ?_
    have g24 := g23.trans g4
    refine st_ifn g4.ok (JT.eq (jtcmp op_eq (nm S 2 (mv g24 q1)) jstr (tw_eq rfl)) (str_ne rfl)) fun G5 H5 g5 => ?_
    have g25 := g24.trans g5
    refine st_ifn g5.ok (JT.eq (jtcmp op_eq (nm S 2 (mv g25 q1)) jstr (tw_eq rfl)) (str_ne rfl)) fun G6 H6 g6 => ?_
    have g26 := g25.trans g6
    refine st_ify g6.ok (JT.eq (jtcmp op_eq (nm S 2 (mv g26 q1)) jstr (tw_eq rfl)) (decide_eq_true rfl)) fun G7 H7 g7 => ?_
    have g27 := g26.trans g7
    exact st_op (p := .fetch z) T (kn_Hall_fetch T) hr g7.s (a1.up0 g27.to0) ok op (nm S 0 rfl) (ja (jixT (nm S 3 (mv g27 q2)) (jint (i := 0)) (show atI _ ((0 : Nat) : Int) = some (isS z) by rw [atI_nat]; rfl)) ja0) ⟨z, rfl, rfl⟩ (kk g27)
end Lp
/-! ## D12 -/
set_option Elab.async false
set_option linter.all false
set_option maxRecDepth 100000
set_option maxHeartbeats 2000000
/-! Trial. -/
namespace Lp
open PySem PySem.Spec PyProof.Rows L2
open SlX (Slt SlO SCls Slot1 slH putS SIsi)
variable {P : Program} {w : World} {K : PySem.W.Frag} {mg : Str → Option Value} {base : Heap} {HC SC LC TC : Addr}
def trF (h o f c : Addr) : List (Str × V) := [("tested_hall", .ref h), ("origin", .ref o), ("fresh", .ref f), ("chosen", .ref c)]
theorem trF_len {h o f c : Addr} : (trF h o f c).length < 1000 := by simp [trF]
/-- o.f = e, an attribute of a regular mutable instance -/
theorem st_tf {X : Cx} {σ : L2.St} {G H : Hp} {t dt C : Addr} {fs : List (Str × V)} {f : Str} {o value : Expr} {R : Rel} {pos pos' : Pos} {rest : List Stmt} {D : Ends} (c : Cls X.K C) (n : NoAttr X.K C f) (s0 : Same G H) (ht : H t = some (.ins C dt fs)) (gt : G t = none) (hv : J pureM X value σ G H R) (ho : J pureM X o σ G H (isV (.ref t))) (hl : fs.length < 1000)
    (q : ∀ v G' H', Gr (· = t) G H G' H' → H' t = some (.ins C dt (putF f v fs)) → G' t = none → R.p v G' → RunS X rest D σ H') (hsw : swapsWith value (some (.Attribute o f pos')) pos.line X.env = pure false := by rfl) : RunS X (.Assign [.Attribute o f pos'] value pos :: rest) D σ H :=
  st_fld c n (.pure s0) hv ho ht (fun z => z) hl (fun v G1 H1 g1 r => by
    have n1 := g1.out ht gt
    exact q v G1 _ (g1.gr.up.trans (Gr.set g1.s n1 rfl)) upd_same n1 r) hsw
def spTI (HC SC LC TC : Addr) : Sp := fun vs H Q _ => ∃ t dt h dh s ds G d, vs = [.ref t, .ref h] ∧ Same G H ∧ H t = some (.ins TC dt []) ∧ G t = none ∧ HlOk HC SC LC G H h dh s ds d ∧ h ≠ t ∧
  ∀ G' H', Gr (· = t) G H G' H' → H' t = some (.ins TC dt (trF h s s s)) → G' t = none → Q .non H'
theorem kn_Trial_init (T : Txt K mg w HC SC LC TC) : KnI P w K mg base 1 TC (spTI HC SC LC TC) := by
  refine kni_body T.tinit sc_Trial_init lo_Trial_init (fun vs H Q E ⟨t, dt, h, dh, s, ds, G, d, e, _⟩ => by rw [e]; rfl) ?_
  rintro X S rfl rfl rfl rfl rfl hx hr vs H Q E ⟨t, dt, h, dh, s, ds, G, d, rfl, s0, ht, gt, a, hne, k⟩
  have sta : ∀ {G1 H1 : Hp}, Gr (· = t) G H G1 H1 → ∃ ok : Same G1 H1, H1 h = some (.ins LC dh [("state", .ref s)]) := fun g => ⟨g.s, g.h _ _ hne a.at_⟩
  refine st_tf T.ts T.ttested s0 ht gt (nm S 1 (R := isV (.ref h)) rfl) (nm S 0 rfl) (by simp) fun v1 G1 H1 g1 h1 n1 r1 => ?_
  obtain ⟨_, b1⟩ := sta g1
  obtain rfl : v1 = V.ref h := r1
  have h1' : H1 t = some (.ins TC dt [("tested_hall", .ref h)]) := h1
  refine st_tf T.ts T.torigin g1.s h1' n1 (jfld (v := .ref s) T.ls T.lstate (nm S 1 rfl) b1 (fun z => z) rfl) (nm S 0 rfl) (by simp) fun v2 G2 H2 g2 h2 n2 r2 => ?_
  obtain ⟨_, b2⟩ := sta (g1.trans g2)
  obtain rfl : v2 = V.ref s := r2
  have h2' : H2 t = some (.ins TC dt [("tested_hall", .ref h), ("origin", .ref s)]) := h2
  refine st_tf T.ts T.tfresh g2.s h2' n2 (jfld (v := .ref s) T.ls T.lstate (nm S 1 rfl) b2 (fun z => z) rfl) (nm S 0 rfl) (by simp) fun v3 G3 H3 g3 h3 n3 r3 => ?_
  obtain ⟨_, b3⟩ := sta ((g1.trans g2).trans g3)
  obtain rfl : v3 = V.ref s := r3
  have h3' : H3 t = some (.ins TC dt [("tested_hall", .ref h), ("origin", .ref s), ("fresh", .ref s)]) := h3
  refine st_tf T.ts T.tchosen g3.s h3' n3 (jfld (v := .ref s) T.ls T.lstate (nm S 1 rfl) b3 (fun z => z) rfl) (nm S 0 rfl) (by simp) fun v4 G4 H4 g4 h4 n4 r4 => ?_
  obtain rfl : v4 = V.ref s := r4
  exact st0 (k G4 H4 (((g1.trans g2).trans g3).trans g4) h4 n4)
def spHold (TC : Addr) : Sp := fun vs H Q _ => ∃ t dt h o f c G, vs = [.ref t] ∧ Same G H ∧ H t = some (.ins TC dt (trF h o f c)) ∧ G t = none ∧
  ∀ G' H', Gr (· = t) G H G' H' → H' t = some (.ins TC dt (trF h o f f)) → G' t = none → Q .non H'
theorem kn_Trial_hold (T : Txt K mg w HC SC LC TC) : KnM P w K mg base 1 TC "hold" (spHold TC) := by
  refine knm_body T.thold sc_Trial_hold lo_Trial_hold (fun vs H Q E ⟨t, dt, h, o, f, c, G, e, _⟩ => by rw [e]; rfl) ?_
  rintro X S rfl rfl rfl rfl rfl hx hr vs H Q E ⟨t, dt, h, o, f, c, G, rfl, s0, ht, gt, k⟩
  refine st_tf T.ts T.tchosen s0 ht gt (jfld (v := .ref f) T.ts T.tfresh (nm S 0 rfl) ht (fun z => z) rfl) (nm S 0 rfl) trF_len fun v1 G1 H1 g1 h1 n1 r1 => ?_
  obtain rfl : v1 = V.ref f := r1
  exact st0 (k G1 H1 g1 h1 n1)
/-- o.f = x.copied() -/
theorem st_copy {X : Cx} {σ : L2.St} {G H : Hp} {t dt s ds : Addr} {fs : List (Str × V)} {f : Str} {o x : Expr} {d : Sd} {pos pos' apos cpos : Pos} {rest : List Stmt} {D : Ends} {pl : Sem Bool} (T : Txt X.K X.mg X.w HC SC LC TC) (hr : Room 3 X.A) (n : NoAttr X.K TC f) (s0 : Same G H) (ht : H t = some (.ins TC dt fs)) (gt : G t = none) (hx : J pureM X x σ G H (isV (.ref s))) (a : StOk HC SC G H s ds d) (ho : ∀ G1 H1, Gr0 G H G1 H1 → J pureM X o σ G1 H1 (isV (.ref t))) (hl : fs.length < 1000)
    (q : ∀ s1 ds1 G' H', Gr (· = t) G H G' H' → H' t = some (.ins TC dt (putF f (.ref s1) fs)) → G' t = none → H s1 = none → H ds1 = none → StOk HC SC G' H' s1 ds1 d → RunS X rest D σ H')
    (ht2 : eval (.Call (.Attribute x "copied" apos) [] [] cpos) X.env = (do
      let ov ← eval x X.env
      standAt apos.atName
      let (f, first) ← holding [ov] (getMethod ov "copied" pl)
      callWith cpos f first (backTo cpos (starEach [] X.env)) (backToKw cpos (keywordEach [] X.env))) := by rfl)
    (hsw : swapsWith (.Call (.Attribute x "copied" apos) [] [] cpos) (some (.Attribute o f pos')) pos.line X.env = pure false := by rfl) : RunS X (.Assign [.Attribute o f pos'] (.Call (.Attribute x "copied" apos) [] [] cpos) pos :: rest) D σ H :=
  st (ps_fld sE sE hsw) (gmethSl0 T.ss (kn_State_copied T) hr (hx.here (.pure s0) fun v G1 H1 g1 r1 => by
    obtain rfl : v = V.ref s := r1
    have a1 := a.up g1.gr (fun z => z) (fun z => z)
    obtain ⟨us, qq, prs⟩ := a1.ex
    refine ⟨s, ds, us.map some, rfl, .inr ⟨qq.at_, qq.dx⟩, s, ds, G1, d, rfl, g1.s, a1, fun x dx G2 H2 g2 e1 e2 st2 => ?_⟩
    refine (ho G2 H2 (g1.to0.trans g2)).here (.pure g2.s) fun v G3 H3 g3 r3 => ?_
    obtain rfl : v = V.ref t := r3
    have gg := (g1.to0.trans g2).trans g3.to0
    have h3 := gg.H _ _ ht
    have n3 := gg.out ht gt
    have st3 := st2.up g3.gr (fun z => z) (fun z => z)
    have ne1 : ¬ x = t := fun z => by rw [z, g1.to0.H _ _ ht] at e1; cases e1
    have ne2 : ¬ dx = t := fun z => by rw [z, g1.to0.H _ _ ht] at e2; cases e2
    have gs : Gr (· = t) G3 H3 G3 (upd H3 t (.ins TC dt (putF f (.ref x) fs))) := Gr.set g3.s n3 rfl
    exact ⟨t, TC, dt, fs, rfl, h3, T.ts, n, hl, q x dx G3 _ (gg.up.trans gs) upd_same n3 (g1.to0.H.free e1) (g1.to0.H.free e2) (st3.up gs ne1 ne2)⟩) ht2)
def spTE (HC SC LC TC : Addr) : Sp := fun vs H Q _ => ∃ t dt h dh s ds G d, vs = [.ref t] ∧ Same G H ∧ H t = some (.ins TC dt (trF h s s s)) ∧ G t = none ∧ HlOk HC SC LC G H h dh s ds d ∧ h ≠ t ∧ s ≠ t ∧ ds ≠ t ∧
  ∀ s1 ds1 s2 ds2 G' H', Gr (two2 t h) G H G' H' → H' t = some (.ins TC dt (trF h s s2 s1)) → G' t = none → H s1 = none → H ds1 = none → H s2 = none → H ds2 = none → s1 ≠ s2 → s1 ≠ ds2 → ds1 ≠ s2 → ds1 ≠ ds2 → StOk HC SC G' H' s ds d → StOk HC SC G' H' s1 ds1 d → HlOk HC SC LC G' H' h dh s2 ds2 d → Q (.ref t) H'
theorem kn_Trial_enter (T : Txt K mg w HC SC LC TC) : KnM P w K mg base 4 TC "__enter__" (spTE HC SC LC TC) := by
  refine knm_body T.tenter sc_Trial_enter lo_Trial_enter (fun vs H Q E ⟨t, dt, h, dh, s, ds, G, d, e, _⟩ => by rw [e]; rfl) ?_
  rintro X S rfl rfl rfl rfl rfl hx hr vs H Q E ⟨t, dt, h, dh, s, ds, G, d, rfl, s0, ht, gt, a, hne, sne, dne, k⟩
  refine st_tf T.ts T.torigin s0 ht gt (jfld (v := .ref s) T.ls T.lstate (jfld (v := .ref h) T.ts T.ttested (nm S 0 rfl) ht (fun z => z) rfl) a.at_ (fun z => z) rfl) (nm S 0 rfl) trF_len fun v1 G1 H1 g1 h1 n1 r1 => ?_
  obtain rfl : v1 = V.ref s := r1
  have h1' : H1 t = some (.ins TC dt (trF h s s s)) := h1
  have a1 := a.up g1 hne sne dne
  refine st_copy T hr T.tchosen g1.s h1' n1 (jfld (v := .ref s) T.ts T.torigin (nm S 0 rfl) h1' (fun z => z) rfl) a1.st (fun G2 H2 g2 => nm S 0 rfl) trF_len fun s1 ds1 G2 H2 g2 h2 n2 e1 e2 st2 => ?_
  have h2' : H2 t = some (.ins TC dt (trF h s s s1)) := h2
  have a2 := a1.up g2 hne sne dne
  refine st_copy T hr T.tfresh g2.s h2' n2 (jfld (v := .ref s) T.ts T.torigin (nm S 0 rfl) h2' (fun z => z) rfl) a2.st (fun G3 H3 g3 => nm S 0 rfl) trF_len fun s2 ds2 G3 H3 g3 h3 n3 e3 e4 st3 => ?_
  have h3' : H3 t = some (.ins TC dt (trF h s s2 s1)) := h3
  have a3 := a2.up g3 hne sne dne
  obtain ⟨us, q2, pr2⟩ := st2.ex
  have ht1 : ∀ {x : Addr}, H1 x = none → x ≠ t := fun e z => by rw [z, h1] at e; cases e
  have st2' := st2.up g3 (ht1 e1) (ht1 e2)
  have fr : ∀ {x : Addr}, H1 x = none → H x = none := fun {x} e => by
    cases hh : H x with
    | none => rfl
    | some o =>
      exfalso
      obtain ⟨o', e'⟩ := g1.t _ _ hh
      rw [e] at e'; cases e'
  have fr2 : ∀ {x : Addr}, H2 x = none → H1 x = none := fun {x} e => by
    cases hh : H1 x with
    | none => rfl
    | some o =>
      exfalso
      obtain ⟨o', e'⟩ := g2.t _ _ hh
      rw [e] at e'; cases e'
  have d1 : s1 ≠ s2 := fun z => by rw [← z, q2.at_] at e3; cases e3
  have d2 : s1 ≠ ds2 := fun z => by rw [← z, q2.at_] at e4; cases e4
  have d3 : ds1 ≠ s2 := fun z => by rw [← z, q2.dx] at e3; cases e3
  have d4 : ds1 ≠ ds2 := fun z => by rw [← z, q2.dx] at e4; cases e4
  have nh : ∀ {x : Addr}, H x = none → x ≠ h := fun e z => by rw [z, a.at_] at e; cases e
  have hf1 := fr e1
  have hf2 := fr e2
  have hf3 := fr (fr2 e3)
  have hf4 := fr (fr2 e4)
  refine st_fld T.ls T.lstate (.pure g3.s) (jfld (v := .ref s2) T.ts T.tfresh (nm S 0 rfl) h3' (fun z => z) rfl) (jfld (v := .ref h) T.ts T.ttested (nm S 0 rfl) h3' (fun z => z) rfl) a3.at_ (fun z => z) (by simp) fun v4 G4 H4 g4 r4 => ?_
  obtain rfl : v4 = V.ref s2 := r4
  have a4 := a3.up0 g4.to0
  have gs : Gr (· = h) G4 H4 G4 (upd H4 h (.ins LC dh (putF "state" (.ref s2) [("state", .ref s)]))) := Gr.set g4.s a4.n rfl
  have h4 : upd H4 h (.ins LC dh (putF "state" (.ref s2) [("state", .ref s)])) t = some (.ins TC dt (trF h s s2 s1)) := by
    rw [upd_ne (Ne.symm hne)]; exact g4.to0.H _ _ h3'
  have n4 : G4 t = none := g4.out h3' n3
  refine st_ret (.pure gs.s) (nm S 0 (R := isV (.ref t)) rfl) fun v5 G5 H5 g5 r5 => ?_
  obtain rfl : v5 = V.ref t := r5
  have gA : Gr (two2 t h) G H G5 H5 := ((((g1.mono fun _ z => .inl z).trans (g2.mono fun _ z => .inl z)).trans (g3.mono fun _ z => .inl z)).to g4.to0).trans ((gs.mono fun _ z => .inr z).to g5.to0)
  have st3' := st3.up g4.gr (fun z => z) (fun z => z)
  have st2'' := st2'.up g4.gr (fun z => z) (fun z => z)
  exact k s1 ds1 s2 ds2 G5 H5 gA (g5.to0.H _ _ h4) (g5.out h4 n4) hf1 hf2 hf3 hf4 d1 d2 d3 d4 ((a4.st.up gs (Ne.symm a.hs) (Ne.symm a.hds)).up g5.gr (fun z => z) (fun z => z)) ((st2''.up gs (nh hf1) (nh hf2)).up g5.gr (fun z => z) (fun z => z))
    ⟨g5.to0.H _ _ upd_same, g5.out upd_same a4.n, Ne.symm (nh hf3), Ne.symm (nh hf4), (st3'.up gs (nh hf3) (nh hf4)).up g5.gr (fun z => z) (fun z => z)⟩
def spTX (HC SC LC TC : Addr) : Sp := fun vs H Q _ => ∃ t dt h dh s ds s2 ds2 G d d', vs = [.ref t, .non, .non, .non] ∧ Same G H ∧ H t = some (.ins TC dt (trF h s s2 s2)) ∧ G t = none ∧ HlOk HC SC LC G H h dh s2 ds2 d' ∧ StOk HC SC G H s ds d ∧ d.ns = d'.ns ∧ d.ps = d'.ps ∧
  h ≠ t ∧ s ≠ t ∧ ds ≠ t ∧ h ≠ s ∧ h ≠ ds ∧ s ≠ s2 ∧ s ≠ ds2 ∧ ds ≠ s2 ∧ ds ≠ ds2 ∧ ∀ v G' H', Gr (fun a => a = h ∨ a = s ∨ a = ds) G H G' H' → HlOk HC SC LC G' H' h dh s ds d' → Q v H'
theorem kn_Trial_exit (T : Txt K mg w HC SC LC TC) : KnM P w K mg base 1 TC "__exit__" (spTX HC SC LC TC) := by
  refine knm_body T.texit sc_Trial_exit lo_Trial_exit (fun vs H Q E ⟨t, dt, h, dh, s, ds, s2, ds2, G, d, d', e, _⟩ => by rw [e]; rfl) ?_
  rintro X S rfl rfl rfl rfl rfl hx hr vs H Q E ⟨t, dt, h, dh, s, ds, s2, ds2, G, d, d', rfl, s0, ht, gt, a, st, en, ep, n1, n2, n3, n4, n5, n6, n7, n8, n9, k⟩
  obtain ⟨p0, t0⟩ := T.sfacts
  obtain ⟨p1, t1⟩ := T.spast
  obtain ⟨p2, t2⟩ := T.sshelf
  obtain ⟨p3, t3⟩ := T.sundone
  obtain ⟨us, q, pr⟩ := st.ex
  have hl : us.length = 4 := pr.len
  have hup : ∀ {G1 H1 : Hp}, Gr (two2 s ds) G H G1 H1 → H1 t = some (.ins TC dt (trF h s s2 s2)) ∧ HlOk HC SC LC G1 H1 h dh s2 ds2 d' := fun g => ⟨g.h _ _ (fun z => z.elim (fun e => n2 e.symm) (fun e => n3 e.symm)) ht, a.up g (fun z => z.elim n4 n5) (fun z => z.elim (fun e => n6 e.symm) (fun e => n8 e.symm)) (fun z => z.elim (fun e => n7 e.symm) (fun e => n9 e.symm))⟩
  refine st_wr T.ss t0 s0 q (by omega) (R := fcR HC d'.ns d'.ps d'.f) (jst T a.st t0 (jfld (v := .ref s2) T.ts T.tchosen (nm S 0 rfl) ht (fun z => z) rfl) rfl) (jfld (v := .ref s) T.ts T.torigin (nm S 0 rfl) ht (fun z => z) rfl) fun u1 G1 H1 g1 q1 r1 => ?_
  obtain ⟨ht1, a1⟩ := hup g1
  refine st_wr T.ss t2 g1.s q1 (by simp; omega) (R := shR HC d'.ns d'.ps d'.sh) (jst T a1.st t2 (jfld (v := .ref s2) T.ts T.tchosen (nm S 0 rfl) ht1 (fun z => z) rfl) rfl) (jfld (v := .ref s) T.ts T.torigin (nm S 0 rfl) ht1 (fun z => z) rfl) fun u2 G2 H2 g2 q2 r2 => ?_
  obtain ⟨ht2, a2⟩ := hup (g1.trans g2)
  refine st_wr T.ss t1 g2.s q2 (by simp; omega) (R := pstR HC d'.ns d'.ps d'.past) (jst T a2.st t1 (jfld (v := .ref s2) T.ts T.tchosen (nm S 0 rfl) ht2 (fun z => z) rfl) rfl) (jfld (v := .ref s) T.ts T.torigin (nm S 0 rfl) ht2 (fun z => z) rfl) fun u3 G3 H3 g3 q3 r3 => ?_
  obtain ⟨ht3, a3⟩ := hup ((g1.trans g2).trans g3)
  refine st_wr T.ss t3 g3.s q3 (by simp; omega) (R := pstR HC d'.ns d'.ps d'.und) (jst T a3.st t3 (jfld (v := .ref s2) T.ts T.tchosen (nm S 0 rfl) ht3 (fun z => z) rfl) rfl) (jfld (v := .ref s) T.ts T.torigin (nm S 0 rfl) ht3 (fun z => z) rfl) fun u4 G4 H4 g4 q4 r4 => ?_
  have g14 := ((g1.trans g2).trans g3).trans g4
  obtain ⟨ht4, a4⟩ := hup g14
  refine st_fld T.ls T.lstate (.pure g4.s) (jfld (v := .ref s) T.ts T.torigin (nm S 0 rfl) ht4 (fun z => z) rfl) (jfld (v := .ref h) T.ts T.ttested (nm S 0 rfl) ht4 (fun z => z) rfl) a4.at_ (fun z => z) (by simp) fun v5 G5 H5 g5 r5 => st0 ?_
  obtain rfl : v5 = V.ref s := r5
  have nh5 := g5.out a4.at_ a4.n
  have gs : Gr (· = h) G5 H5 G5 (upd H5 h (.ins LC dh (putF "state" (.ref s) [("state", .ref s2)]))) := Gr.set g5.s nh5 rfl
  have q5 := (q4.up g5.gr (fun z => z) (fun z => z)).up gs (Ne.symm n4) (Ne.symm n5)
  refine k .non G5 _ ((((g14.mono fun _ z => .inr z).to g5.to0)).trans (gs.mono fun _ z => .inl z)) ⟨upd_same, nh5, n4, n5, ⟨_, q5, ?_⟩⟩
  have m45 : Same G4 G5 := g5.g
  match us, hl with
  | [b1, b2, b3, b4], _ => exact .cons (Rel.mo _ (((g2.g.trans g3.g).trans g4.g).trans m45) r1) (.cons (Rel.mo _ (g4.g.trans m45) r3) (.cons (Rel.mo _ ((g3.g.trans g4.g).trans m45) r2) (.cons (Rel.mo _ m45 r4) .nil)))
end Lp
/-! ## D13 -/
set_option Elab.async false
set_option linter.all false
set_option maxRecDepth 100000
set_option maxHeartbeats 2000000
/-! Hall.apply_all. -/
namespace Lp
open PySem PySem.Spec PyProof.Rows L2
open SlX (Slt SlO SCls Slot1 slH putS SIsi)
theorem pe_methR0 {X : Cx} {CX : CXT} {k : Nat} {C f : Addr} {m : Str} {sp : Sp} {E : XK} {o : Expr} {ta : TE} {apos pos : Pos} {pl : Sem Bool} (he : PE X o ta) (c : Cls X.K C) (hm : Meth X.K C m f)
    (F : FnR X.prog X.w X.K X.mg X.base CX k f sp) (hr : Room k X.A) (hx : Passes CX X E)
    (ht : eval (.Call (.Attribute o m apos) [] [] pos) X.env = (do
      let ov ← eval o X.env
      standAt apos.atName
      let (f, first) ← holding [ov] (getMethod ov m pl)
      callWith pos f first (backTo pos (starEach [] X.env)) (backToKw pos (keywordEach [] X.env))) := by rfl) :
    PE X (.Call (.Attribute o m apos) [] [] pos) (tMethR C m sp E ta tNil) := by
  refine ⟨fun pins s σ H Q I h => ?_⟩
  refine PySem.W.methodCall_KW (pl := pl) (thn (he.run pins s σ H _ I h) fun u s1 ⟨x, H1, I1, rx, a, dx, fs, ex, ea, l, q⟩ => ?_) ht
  subst ex
  obtain rfl : u = Value.ref a := rx
  refine getmeth_ok I1 ea c hm l ?_
  exact PySem.W.callWith_K0 (first := [.ref a]) I1.kIn hm.kp (wpAny_call (run_fnR (us := [.ref a]) (vs := [.ref a]) F hr hx I1 (.cons rfl .nil) q))
theorem gmeth0 {X : Cx} {σ : L2.St} {H : Hp} {o : Expr} {C : Addr} {m : Str} {k : Nat} {sp : Sp} {apos pos : Pos} {Q : VK} {pl : Sem Bool} (c : Cls X.K C) (K1 : KnM X.prog X.w X.K X.mg X.base k C m sp) (hr : Room k X.A) (q : RunE X o σ H fun v H1 => ∃ a dx fs, v = .ref a ∧ H1 a = some (.ins C dx fs) ∧ fs.lookup m = none ∧ sp [v] H1 Q E0)
    (ht : eval (.Call (.Attribute o m apos) [] [] pos) X.env = (do
      let ov ← eval o X.env
      standAt apos.atName
      let (f, first) ← holding [ov] (getMethod ov m pl)
      callWith pos f first (backTo pos (starEach [] X.env)) (backToKw pos (keywordEach [] X.env))) := by rfl) : RunE X (.Call (.Attribute o m apos) [] [] pos) σ H Q := by
  obtain ⟨f, M, F⟩ := K1
  exact gE (pe_methR0 (C := C) (E := E0) (pl := pl) sE c M F hr pass0 ht) q
theorem Gr.drop {m m' : Addr → Prop} {G H G' H' : Hp} (x : Gr m' G H G' H') (h : ∀ a o, H a = some o → m' a → m a) : Gr m G H G' H' := ⟨x.g, x.s, fun a o hm e => x.h a o (fun z => hm (h a o e z)) e, x.n, x.t⟩
theorem Gr.free {m : Addr → Prop} {G H G' H' : Hp} (x : Gr m G H G' H') {a : Addr} (e : H' a = none) : H a = none := by
  cases hh : H a with
  | none => rfl
  | some o =>
    obtain ⟨o', e'⟩ := x.t _ _ hh
    rw [e] at e'
    cases e'
/-- only D is touched -/
structure GD (D : Addr) (G H G' H' : Hp) : Prop where
  g : Same G G'
  s : Same G' H'
  k : ∀ a o, a ≠ D → H a = some o → H' a = some o ∧ G' a = G a
theorem GD.of {D : Addr} {G H G' H' : Hp} (x : Gr (· = D) G H G' H') : GD D G H G' H' := ⟨x.g, x.s, fun a o ha e => ⟨x.h a o ha e, x.n a o e⟩⟩
theorem GD.fin {D : Addr} {G H : Hp} {o : HO} (s : Same G H) (e : H D = some o) (n : G D = none) : GD D G H (upd G D o) H where
  g := fun c u q => by rw [upd_ne (ne_of_none q n)]; exact q
  s := fun c u q => by
    by_cases hc : c = D
    · subst hc; rw [upd_same] at q; rw [e]; exact q
    · rw [upd_ne hc] at q; exact s _ _ q
  k := fun a o ha q => ⟨q, upd_ne ha⟩
theorem HlOk.upD {HC SC LC D : Addr} {G H G' H' : Hp} {h dh s ds : Addr} {d : Sd} (a : HlOk HC SC LC G H h dh s ds d) (x : GD D G H G' H') (h0 : h ≠ D) (h1 : s ≠ D) (h2 : ds ≠ D) : HlOk HC SC LC G' H' h dh s ds d := by
  obtain ⟨us, q, pr⟩ := a.st.ex
  exact ⟨(x.k _ _ h0 a.at_).1, (x.k _ _ h0 a.at_).2.trans a.n, a.hs, a.hds, ⟨us, ⟨q.ne, (x.k _ _ h1 q.at_).1, (x.k _ _ h2 q.dx).1, (x.k _ _ h1 q.at_).2.trans q.n1, (x.k _ _ h2 q.dx).2.trans q.n2⟩, PR.mo x.g pr⟩⟩
section
variable {X : Cx} {σ : L2.St} {G H : Hp} {e elt iter : Expr} {Rs : List Rel} {p pos tp tpos : Pos} {sc scope : Scope} {N C : List Str} {x : Str}
theorem jiEnumL {W : Md} {es' : List Expr} {kk : Nat} (v : Vw X sc) (h : J W X e σ G H (lstR Rs)) (hg : sc.names.lookup ("enumerate" : Str) = some .globalImplicit := by rfl) (hs : starEach [e] X.env = [(false, eval e X.env)] := by rfl) :
    JI W X (.Tuple es' kk tpos) (.Call (.Name "enumerate" p) [e] [] pos) σ G H ((List.range Rs.length).map fun i => pairT (isN i) (Rs.getD i isO)) := fun G1 H1 g R' k =>
  gI (pi_enum (v.gl _ hg) v.b.enum sA hs) (ja h ja0 hs G1 H1 g _ fun vs G2 H2 g2 pr => by
    obtain ⟨x, rfl, l, xs, rfl, hl, q⟩ := PR.one pr
    refine ⟨l, xs, rfl, sqL g2 hl, k _ (fun H3 => SqL X.K H3 l xs) (YPair (fun i => some (.int (i : Nat))) fun i => xs[i]?) G2 H2 g2 ?_ (fun H3 s => SqL.of (s _ _ hl)) (gives_pair rfl (fun i x _ e => ?_) (fun i x _ e => pr_getD q i x e))⟩
    · rw [List.length_map, List.length_range, ← q.len]
      exact walk_enum
    · cases e
      rfl)
theorem swaps_eq {v : Expr} {t : Option Expr} {n : Nat} {env : Env} {sc : Scope} (h : env.scope = sc) : swapsWith v t n env = swapsWith v t n { env with scope := sc } := by
  subst h
  rfl
/-- y = [elt for x in ..], y a plain local name -/
theorem st_lcA {y : Str} {i : Nat} {py spos : Pos} {tg : Expr} {ifs : List Expr} {g : TG} {tt : TT} {own : List (Str × Nat)} {rest : List Stmt} {D : Ends} (S : Sees X N C sc) (ok : BlkOk (N ++ C) sc scope own)
    (hg : ∀ (s : Shared) (H : Hp) (Ca : Addr) (cl : List (Str × Addr)) (fp : List Addr), PG (X.blk s H scope (compEnvC scope cl Ca X.env) fp) tg g) (ht : ∀ (s : Shared) (H : Hp) (Ca : Addr) (cl : List (Str × Addr)) (fp : List Addr), PTs (X.blk s H scope (compEnvC scope cl Ca X.env) fp) ifs tt)
    (core : tLc (RunI X tg iter) g tt (bE X scope elt) (own.map (·.2)) σ H (fun v H' => RunS X rest D (σ.set i (some v)) H')) (hN : N[i]? = some y := by rfl) (hyl : sc.names.lookup y = some .local := by rfl)
    (hsw : swapsWith (.ListComp elt [⟨tg, iter, ifs, 0⟩] scope pos) (some (.Name y py)) spos.line { X.env with scope := sc } = pure true := by rfl) (hf : ∀ x, foldedSetIterable iter X.env x = pure x := by intro _; rfl) :
    RunS X (.Assign [.Name y py] (.ListComp elt [⟨tg, iter, ifs, 0⟩] scope pos) spos :: rest) D σ H :=
  st (ps_setLc (i := i) S.calm S.nd (by rw [S.hN]; exact app_ix hN) (S.lo _ hyl) ((swaps_eq S.sce).trans hsw) sI (S.blkOk ok) hg ht sbE hf) core
theorem st_slc {W : Md} {α : Type} {y : Str} {py spos : Pos} {rest : List Stmt} {D : Ends} (S : Sees X N C sc) (i : Nat) (j : Nat) (xs : List α) (Ri Ro : α → Rel) (s : Ok W G H) (hi : JI W X (.Name x tp) iter σ G H (xs.map Ri)) (hn : xs.length ≤ 100000)
    (he : ∀ y v G1 H1, y ∈ xs → Gw W G H G1 H1 → (Ri y).p v G1 → ∀ X', BX X X' (N ++ C) scope → J W X' elt ((wipe σ [j]).set j (some v)) G1 H1 (Ro y))
    (k : ∀ v G' H', Gw W G H G' H' → (lstR (xs.map Ro)).p v G' → RunS X rest D (σ.set i (some v)) H')
    (hok : BlkOk (N ++ C) sc scope [(x, j)] := by exact ⟨rfl, by decide +kernel, by decide +kernel, by decide +kernel, by decide +kernel⟩) (hj : (N ++ C)[j]? = some x := by rfl) (hl : Own scope x := by first | exact Or.inl rfl | exact Or.inr rfl)
    (hN : N[i]? = some y := by rfl) (hyl : sc.names.lookup y = some .local := by rfl)
    (hsw : swapsWith (.ListComp elt [⟨.Name x tp, iter, [], 0⟩] scope pos) (some (.Name y py)) spos.line { X.env with scope := sc } = pure true := by rfl) (hf : ∀ x, foldedSetIterable iter X.env x = pure x := by intro _; rfl) :
    RunS X (.Assign [.Name y py] (.ListComp elt [⟨.Name x tp, iter, [], 0⟩] scope pos) spos :: rest) D σ H := by
  refine st_lcA (own := [(x, j)]) (g := gName j) (tt := tYes) S hok (S.pgb hj hl) (fun _ _ _ _ _ => pts_nil) ?_ hN hyl hsw hf
  have h := jc_core (X := X) (ws := [j]) (tt := tYes) (g := gName j) (te := bE X scope elt) xs Ri (fun _ => true) Ro hi hn fun y v G1 H1 hy g1 r K1 K0 k1 _ => ⟨wipe_one, fun s0 H0 Ca cl fp => (he y v G1 H1 hy g1 r _ (S.bx s0 H0 scope cl Ca fp)).here g1.ok (k1 rfl)⟩
  rw [List.filter_eq_self.mpr (fun _ _ => rfl)] at h
  exact h G H s.rf _ fun v G' H' g' r' => k v G' H' g' r'
theorem st_slci {W : Md} {α : Type} {y : Str} {c : Expr} {py spos : Pos} {rest : List Stmt} {D : Ends} (S : Sees X N C sc) (i : Nat) (j : Nat) (xs : List α) (Ri : α → Rel) (keep : α → Bool) (Ro : α → Rel) (s : Ok W G H) (hi : JI W X (.Name x tp) iter σ G H (xs.map Ri)) (hn : xs.length ≤ 100000)
    (ht : ∀ y v G1 H1, y ∈ xs → Gw W G H G1 H1 → (Ri y).p v G1 → ∀ X', BX X X' (N ++ C) scope → JT W X' c ((wipe σ [j]).set j (some v)) G1 H1 (keep y))
    (he : ∀ y v G1 H1, y ∈ xs → keep y = true → Gw W G H G1 H1 → (Ri y).p v G1 → ∀ X', BX X X' (N ++ C) scope → J W X' elt ((wipe σ [j]).set j (some v)) G1 H1 (Ro y))
    (k : ∀ v G' H', Gw W G H G' H' → (lstR ((xs.filter keep).map Ro)).p v G' → RunS X rest D (σ.set i (some v)) H')
    (hok : BlkOk (N ++ C) sc scope [(x, j)] := by exact ⟨rfl, by decide +kernel, by decide +kernel, by decide +kernel, by decide +kernel⟩) (hj : (N ++ C)[j]? = some x := by rfl) (hl : Own scope x := by first | exact Or.inl rfl | exact Or.inr rfl)
    (hN : N[i]? = some y := by rfl) (hyl : sc.names.lookup y = some .local := by rfl)
    (hsw : swapsWith (.ListComp elt [⟨.Name x tp, iter, [c], 0⟩] scope pos) (some (.Name y py)) spos.line { X.env with scope := sc } = pure true := by rfl) (hf : ∀ x, foldedSetIterable iter X.env x = pure x := by intro _; rfl) :
    RunS X (.Assign [.Name y py] (.ListComp elt [⟨.Name x tp, iter, [c], 0⟩] scope pos) spos :: rest) D σ H := by
  refine st_lcA (own := [(x, j)]) (g := gName j) (tt := bT X scope c) S hok (S.pgb hj hl) (fun s H Ca cl fp => pts_one (sbT s H Ca cl fp)) ?_ hN hyl hsw hf
  refine (jc_core (X := X) (ws := [j]) (tt := bT X scope c) (g := gName j) (te := bE X scope elt) xs Ri keep Ro hi hn fun y v G1 H1 hy g1 r K1 K0 k1 k0 => ⟨wipe_one, fun s0 H0 Ca cl fp => (ht y v G1 H1 hy g1 r _ (S.bx s0 H0 scope cl Ca fp)).here g1.ok fun G2 H2 g2 => ?_⟩) G H s.rf _ fun v G' H' g' r' => k v G' H' g' r'
  cases hk : keep y with
  | true =>
    show bE X scope elt _ H2 K1
    exact fun s0 H0 Ca cl fp => (he y v G2 H2 hy hk (g1.trans g2) ((Ri y).mo g2.g r) _ (S.bx s0 H0 scope cl Ca fp)).here g2.ok fun y' G3 H3 g3 r3 => k1 hk y' G3 H3 (g2.trans g3) r3
  | false =>
    show K0 H2
    exact k0 hk G2 H2 g2
/-- [elt for x in ..] whose element writes -/
theorem glc {m : Addr → Prop} {Q : VK} (S : Sees X N C sc) (j : Nat) (Ro : Nat → Rel) (Iv : Nat → Hp → Hp → Prop) (s0 : Same G H) (hm : ∀ a, m a → ∃ o, H a = some o) (hi : JI pureM X (.Name x tp) iter σ G H Rs) (hn : Rs.length ≤ 100000)
    (h0 : ∀ G1 H1, Gr0 G H G1 H1 → Iv 0 G1 H1) (hup : ∀ i G1 H1 G2 H2 D, Iv i G1 H1 → H D = none → GD D G1 H1 G2 H2 → Iv i G2 H2) (hup0 : ∀ i G1 H1 G2 H2, Iv i G1 H1 → Gr0 G1 H1 G2 H2 → Iv i G2 H2)
    (hs : ∀ i R v G1 H1, Rs[i]? = some R → Gr m G H G1 H1 → Iv i G1 H1 → R.p v G1 → ∀ X', BX X X' (N ++ C) scope → ∀ K : VK, (∀ y G2 H2, Gr m G1 H1 G2 H2 → Iv (i + 1) G2 H2 → (Ro i).p y G2 → K y H2) → RunE X' elt ((wipe σ [j]).set j (some v)) H1 K)
    (k : ∀ v G' H', Gr m G H G' H' → Iv Rs.length G' H' → (lstR ((List.range Rs.length).map Ro)).p v G' → Q v H') :
    tLc (RunI X (.Name x tp) iter) (gName j) tYes (bE X scope elt) [j] σ H Q := by
  refine hi G H (Ok.pure s0).rf _ fun Jt Gc Y G2 H2 g2 w hG gv D hD => ?_
  have hD0 : H D = none := g2.to0.H.free hD
  have nm : ¬ m D := fun z => by obtain ⟨o, e⟩ := hm D z; rw [hD0] at e; cases e
  have g2m : Gr m G H G2 H2 := g2.to0.up
  have n2 : G2 D = none := sub_none g2.s hD
  have gr1 : Gr (· = D) G2 H2 G2 (upd H2 D (.lst [])) := Gr.raw g2.s hD
  refine lc_it w (fun i H' => ∃ G' acc, Gr m G H G' H' ∧ Same G2 G' ∧ H' D = some (.lst acc) ∧ G' D = none ∧ acc.length ≤ i ∧ Iv i G' H' ∧ PR G' acc ((List.range i).map Ro)) ⟨G2, [], g2m.trans (Gr.raw g2.s hD), Same.refl _, upd_same, n2, Nat.le_refl _, hup 0 G2 H2 _ _ D (h0 G2 H2 g2.to0) hD0 (.of gr1), .nil⟩ (fun i H' _ ⟨G', acc, g3, sg, _⟩ => hG H' (sg.trans g3.s)) ?_ ?_
  · rintro i v H' H'' hix ⟨G', acc, g3, sg, hacc, gD, hal, iv, pa⟩ yv
    have ex : Rs[i]? = some Rs[i] := List.getElem?_eq_getElem hix
    obtain ⟨Gv, gv0, rv⟩ := gv i Rs[i] G' H' v H'' ex sg g3.s yv
    have hacc2 := gv0.H _ _ hacc
    have gD2 := gv0.out hacc gD
    have g3' := g3.trans gv0.up
    refine ⟨wipe_one, ?_⟩
    show bE X scope elt _ H'' _
    intro s1 Hb Ca cl fp
    refine hs i Rs[i] v Gv H'' ex g3' (hup0 i _ _ _ _ iv gv0) rv _ (S.bx s1 Hb scope cl Ca fp) _ fun y G4 H4 g4 iv4 ry => ?_
    have h4 := g4.h _ _ nm hacc2
    have d4 := g4.out hacc2 gD2
    have gs : Gr (· = D) G4 H4 G4 (upd H4 D (.lst (acc ++ [y]))) := Gr.set g4.s d4 rfl
    refine ⟨acc, h4, by rw [sizeLine_eq]; omega, G4, acc ++ [y], Gr.set' (g3'.trans g4) d4 hD0, (sg.trans gv0.g).trans g4.g, upd_same, d4, by rw [List.length_append]; simp; omega, hup (i + 1) _ _ _ _ D iv4 hD0 (.of gs), ?_⟩
    rw [List.range_succ, List.map_append]
    exact (PR.mo (gv0.g.trans g4.g) pa).app (.cons ry .nil)
  · rintro H' ⟨G', acc, g3, sg, hacc, gD, _, iv, pa⟩
    obtain ⟨g4, s4⟩ := Gr.fin g3 hacc gD hD0
    refine k _ _ H' g4 (hup _ _ _ _ _ D iv hD0 (GD.fin g3.s hacc gD)) ⟨D, acc, rfl, upd_same, PR.mo s4 pa⟩
end
variable {P : Program} {w : World} {K : PySem.W.Frag} {mg : Str → Option Value} {base : Heap} {HC SC LC TC : Addr}
def runD (d : Sd) (L : List Op) : Sd := L.foldl nxt d
/-- the states on the way -/
def resD (d : Sd) (L : List Op) (i : Nat) : Rs := match L[i]? with
  | some p => res (runD d (L.take i)) p
  | none => .b false
theorem runD_succ {d : Sd} {L : List Op} {i : Nat} (h : i < L.length) : runD d (L.take (i + 1)) = nxt (runD d (L.take i)) L[i] := by
  unfold runD
  rw [List.take_succ, List.getElem?_eq_getElem h]
  show List.foldl nxt d (L.take i ++ [L[i]]) = _
  rw [List.foldl_append]
  rfl
theorem nxt_ns (d : Sd) (p : Op) : (nxt d p).ns = d.ns ∧ (nxt d p).ps = d.ps := ⟨rfl, rfl⟩
theorem runD_ns : ∀ (L : List Op) (d : Sd), (runD d L).ns = d.ns ∧ (runD d L).ps = d.ps
  | [], d => ⟨rfl, rfl⟩
  | p :: L, d => runD_ns L (nxt d p)
def spAll (HC SC LC : Addr) : Sp := fun vs H Q _ => ∃ h dh s ds G d L vl, vs = [.ref h, vl] ∧ Same G H ∧ HlOk HC SC LC G H h dh s ds d ∧ L.length ≤ 1000 ∧ (lstR (L.map opR)).p vl G ∧ (∀ i (hi : i < L.length), SdOk 5000 (runD d (L.take i)) ∧ OpOk d.ns d.ps (runD d (L.take i)).f (runD d (L.take i)).sh L[i]) ∧
  ∀ v G' H', Gr (fun a => a = h ∨ a = s ∨ a = ds) G H G' H' → HlOk HC SC LC G' H' h dh s ds (runD d L) → (lstR ((List.range L.length).map fun i => rsR (resD d L i))).p v G' → Q v H'
theorem kn_Hall_apply_all (T : Txt K mg w HC SC LC TC) : KnM P w K mg base 12 LC "apply_all" (spAll HC SC LC) := by
  refine knm_body T.lapply_all sc_Hall_apply_all lo_Hall_apply_all (fun vs H Q E ⟨h, dh, s, ds, G, d, L, vl, e, _⟩ => by rw [e]; rfl) ?_
  rintro X S rfl rfl rfl rfl rfl hx hr vs H Q E ⟨h, dh, s, ds, G, d, L, vl, rfl, s0, a, hL, rl, hok, k⟩
  have v := S.vw T.b hr
  obtain ⟨fe, Me, Fe⟩ := kn_Trial_enter (P := X.prog) (w := X.w) (base := X.base) T
  obtain ⟨fx, Mx, Fx⟩ := kn_Trial_exit (P := X.prog) (w := X.w) (base := X.base) T
  have lp : (List.range (L.map opR).length).map (fun i => pairT (isN i) ((L.map opR).getD i isO)) = (List.range L.length).map (fun i => pairT (isN i) (opR (L.getD i (.teach true)))) := by
    rw [List.length_map]
    exact map_range_congr fun i hi => by rw [getD_map (a := Op.teach true) hi]
  refine st_for _ (.pure s0) S.calm hx ((jiEnumL v (nm S 1 rl)).eq lp) (pg_tup S.calm (pgs_cons (S.pg 2) (pgs_cons (S.pg 3) pgs_nil))) fun G2 H2 g2 => ?_
  refine ⟨fun i σ' G' H' => Gw pureM G2 H2 G' H' ∧ ∃ x y, σ' = [some (.ref h), some vl, x, y, none, none], ⟨g2.rf, _, _, rfl⟩, fun i σ' G' H' q => ⟨q.1.g, q.1.s⟩, ?_, ?_⟩
  · rintro i R u σ' G' H' G3 H3 hR ⟨g', x, y, rfl⟩ gr3 r
    have hi : i < L.length := by
      rcases Nat.lt_or_ge i L.length with q | q
      · exact q
      · rw [List.getElem?_eq_none (by simpa using q)] at hR; cases hR
    rw [List.getElem?_map, List.getElem?_range hi] at hR
    obtain rfl : pairT (isN i) (opR (L.getD i (.teach true))) = R := by simpa using hR
    have g23 := g'.trans (Gw.up0 g'.ok gr3)
    refine pairT_tup g23.s r fun w1 w2 q1 q2 => ?_
    show RunS X _ _ [some (.ref h), some vl, some w1, some w2, none, none] H3
    exact st_ifn g23.ok (jtnot (jtval (jcall (kn_is_operation T) (S.gl _ rfl) (hr.mono (by decide)) (L.getD i (.teach true)) trivial (ja (nm S 3 q2) ja0)))) fun G4 H4 g4 => st0 ⟨G4, g23.trans g4, _, _, rfl⟩
  · rintro σ' G' H' ⟨g', x, y, rfl⟩
    have g1 := g2.trans g'
    have a1 := a.up0 g1.to0
    refine st (ps_withN (C := TC) (i := 4) (y := "trial") sE Me.at_ Me.fn Mx.at_ Mx.fn Fe Fx (hr.mono (by decide)) (hr.mono (by decide)) S.nd (by rw [S.hN]; rfl) (S.loc _ (by simp)) (S.fn _) sS hx) ?_
    refine gmake (kn_Trial_init T) (hr.mono (by decide)) (S.gl _ rfl) T.mTrial ((ja (nm S 0 (R := isV (.ref h)) rfl) ja0).here g1.ok fun ws G3 H3 g3 pw => ?_)
    obtain ⟨w1, rfl, rw1⟩ := PR.one pw
    obtain rfl : w1 = V.ref h := rw1
    intro t dt ht hdt tne
    have sH : Same H3 (upd (upd H3 dt (.own t)) t (.ins TC dt [])) := fun c u q => by
      rw [upd_ne (ne_of_none q ht), upd_ne (ne_of_none q hdt)]; exact q
    have gH : Gr0 G3 H3 G3 (upd (upd H3 dt (.own t)) t (.ins TC dt [])) := ⟨Same.refl _, g3.s.trans sH, fun a o _ q => sH _ _ q, fun _ _ _ => rfl, fun a o q => ⟨o, sH _ _ q⟩⟩
    have gt3 : G3 t = none := g3.s.free ht
    have a3 := (a1.up0 g3.to0).up0 gH
    obtain ⟨us, q3, _⟩ := (a1.up0 g3.to0).st.ex
    have hne : h ≠ t := fun z => by rw [← z, (a1.up0 g3.to0).at_] at ht; cases ht
    have sne : s ≠ t := fun z => by rw [← z, q3.at_] at ht; cases ht
    have dne : ds ≠ t := fun z => by rw [← z, q3.dx] at ht; cases ht
    refine ⟨t, dt, h, dh, s, ds, G3, d, rfl, gH.s, upd_same, gt3, a3, hne, fun G4 H4 g4 h4 n4 => ⟨rfl, t, dt, trF h s s s, rfl, h4, ?_⟩⟩
    have a4 := a3.up g4 hne sne dne
    refine ⟨t, dt, h, dh, s, ds, G4, d, rfl, g4.s, h4, n4, a4, hne, sne, dne, fun s1 ds1 s2 ds2 G5 H5 g5 h5 n5 f1 f2 f3 f4 d1 d2 d3 d4 st5 st51 a5 => ?_⟩
    show RunS X _ _ [some (.ref h), some vl, x, y, some (.ref t), none] H5
    -- what lives on apart from the fresh state
    have ex4 : ∀ {z : Addr} {o : HO}, H4 z = some o → z ≠ s2 ∧ z ≠ ds2 := fun {z o} e => by
      constructor
      · intro w
        rw [w, f3] at e
        cases e
      · intro w
        rw [w, f4] at e
        cases e
    obtain ⟨us4, q4, _⟩ := a4.st.ex
    have hh2 := ex4 a4.at_
    have hs2 := ex4 q4.at_
    have hd2 := ex4 q4.dx
    have ht2 := ex4 h4
    obtain ⟨us5, q5, _⟩ := a5.st.ex
    have gG : Same G' G5 := (g3.g.trans g4.g).trans g5.g
    have rl5 : (lstR (L.map opR)).p vl G5 := Rel.mo _ (g1.g.trans gG) rl
    have hRl : (L.map opR).length = L.length := List.length_map ..
    refine st_lcA (i := 5) (own := [("operation", 3)]) (g := gName 3) (tt := tYes) S (by exact ⟨rfl, by decide +kernel, by decide +kernel, by decide +kernel, by decide +kernel⟩) (S.pgb (by rfl) (.inl rfl)) (fun _ _ _ _ _ => pts_nil) (glc (m := two2 s2 ds2) S 3 (fun i => rsR (resD d L i)) (fun i G' H' => HlOk HC SC LC G' H' h dh s2 ds2 (runD d (L.take i))) g5.s (fun a ha => ?_) (jiL (nm S 1 rl5)) (by rw [hRl]; omega) (fun G6 H6 g6 => a5.up0 g6) (fun i G6 H6 G7 H7 D iv hD gd => iv.upD gd (fun z => ?_) (fun z => ?_) (fun z => ?_)) (fun i G6 H6 G7 H7 iv g7 => iv.up0 g7) (fun i R u G6 H6 hR g6 iv r X' B K hK => ?_) fun found G6 H6 g6 iv6 rf => ?_)
    · rcases ha with e | e
      · rw [e]; exact ⟨_, q5.at_⟩
      · rw [e]; exact ⟨_, q5.dx⟩
    · rw [← z, a5.at_] at hD; cases hD
    · rw [← z, q5.at_] at hD; cases hD
    · rw [← z, q5.dx] at hD; cases hD
    · have hi : i < L.length := by
        rcases Nat.lt_or_ge i L.length with q | q
        · exact q
        · rw [List.getElem?_eq_none (by rw [hRl]; exact q)] at hR; cases hR
      rw [List.getElem?_map, List.getElem?_eq_getElem hi] at hR
      obtain rfl : opR L[i] = R := by simpa using hR
      obtain ⟨ok1, ok2⟩ := hok i hi
      have eres : resD d L i = res (runD d (L.take i)) L[i] := by unfold resD; rw [List.getElem?_eq_getElem hi]
      have ens := runD_ns (L.take i) d
      refine gmeth (B.txt T).ls (kn_Hall_execute (B.txt T)) (B.room (hr.mono (by decide))) ((nb B.S 0 (R := isV (.ref h)) rfl).here (.pure g6.s) fun v7 G7 H7 g7 r7 => ?_)
      obtain rfl : v7 = V.ref h := r7
      have a7 := iv.up0 g7.to0
      refine ⟨h, dh, _, rfl, a7.at_, by rfl, (ja (nb B.S 3 (mv g7 r)) ja0).here g7.ok fun ws8 G8 H8 g8 pw8 => ?_⟩
      refine ⟨h, dh, s2, ds2, G8, runD d (L.take i), L[i], ws8, [opR L[i]], rfl, rfl, g8.s, a7.up0 g8.to0, ok1, by rw [ens.1, ens.2]; exact ok2, pw8, fun v9 G9 H9 g9 a9 r9 => hK v9 G9 H9 ((g7.gr.up.trans g8.gr.up).trans g9) ?_ ?_⟩
      · rw [runD_succ hi]
        exact a9
      · rw [eres]
        exact r9
    · rw [hRl] at iv6 rf
      rw [List.take_length] at iv6
      have hT6 := g6.h t _ (fun z => z.elim ht2.1 ht2.2) h5
      have nT6 := g6.out h5 n5
      have st6 := st5.up g6 (fun z => z.elim hs2.1 hs2.2) (fun z => z.elim hd2.1 hd2.2)
      refine st1 (ps_expr sE (by rfl)) (gmeth0 T.ts (kn_Trial_hold T) (hr.mono (by decide)) ((nm S 4 (R := isV (.ref t)) rfl).here (.pure g6.s) fun v7 G7 H7 g7 r7 => ?_))
      obtain rfl : v7 = V.ref t := r7
      have h7 := g7.to0.H _ _ hT6
      have n7 := g7.out hT6 nT6
      have a7 := iv6.up0 g7.to0
      have st7 := st6.up g7.gr (fun z => z) (fun z => z)
      refine ⟨t, dt, trF h s s2 s1, rfl, h7, by rfl, t, dt, h, s, s2, s1, G7, rfl, g7.s, h7, n7, fun G8 H8 g8 h8 n8 => ?_⟩
      have nt : ∀ {z : Addr}, z ≠ t → ¬ z = t := fun h => h
      have a8 := a7.up g8 hne (Ne.symm ht2.1) (Ne.symm ht2.2)
      have st8 := st7.up g8 sne dne
      refine ⟨t, dt, h, dh, s, ds, s2, ds2, G8, d, runD d L, rfl, g8.s, h8, n8, a8, st8, (runD_ns L d).1.symm, (runD_ns L d).2.symm, hne, sne, dne, a4.hs, a4.hds, hs2.1, hs2.2, hd2.1, hd2.2, fun v9 G9 H9 g9 a9 => ?_⟩
      have fin : Gr (fun a => a = h ∨ a = s ∨ a = ds) G H G9 H9 := by
        have c1 : Gr no G H G3 (upd (upd H3 dt (.own t)) t (.ins TC dt [])) := (g1.to0.trans g3.to0).trans gH
        have fa : ∀ {a : Addr}, H4 a = none → H a = none := fun e => c1.free (g4.free e)
        have ft : H t = none := (g1.to0.trans g3.to0).free ht
        have all : Gr (fun a => (a = h ∨ a = s ∨ a = ds) ∨ a = t ∨ a = s2 ∨ a = ds2) G H G9 H9 :=
          ((((((c1.up).trans (g4.mono fun _ z => .inr (.inl z))).trans (g5.mono fun _ z => z.elim (fun z => .inr (.inl z)) (fun z => .inl (.inl z)))).trans (g6.mono fun _ z => z.elim (fun z => .inr (.inr (.inl z))) (fun z => .inr (.inr (.inr z))))).to g7.to0).trans (g8.mono fun _ z => .inr (.inl z))).trans (g9.mono fun _ z => .inl z)
        refine all.drop fun a o e z => ?_
        rcases z with z | z | z | z
        · exact z
        · rw [z, ft] at e; cases e
        · rw [z, fa f3] at e; cases e
        · rw [z, fa f4] at e; cases e
      have rf9 : (lstR ((List.range L.length).map fun i => rsR (resD d L i))).p found G9 := Rel.mo _ ((g7.g.trans g8.g).trans g9.g) rf
      exact st_ret (.pure g9.s) (nm S 5 rf9) fun v10 G10 H10 g10 r10 => k v10 G10 H10 (fin.to g10.to0) (a9.up0 g10.to0) r10
end Lp
/-! ## D14 -/
set_option Elab.async false
set_option linter.all false
set_option maxRecDepth 100000
set_option maxHeartbeats 2000000
/-! Hall: made, done again, what it shows. -/
namespace Lp
open PySem PySem.Spec PyProof.Rows L2
open SlX (Slt SlO SCls Slot1 slH putS SIsi)
open ClX (CRead CMet)
variable {P : Program} {w : World} {K : PySem.W.Frag} {mg : Str → Option Value} {base : Heap} {HC SC LC TC : Addr}
def initD (ns ps : List Str) (ms : List Mn) (o : List Nat) : Sd := ⟨ns, ps, ⟨ms, o, false, []⟩, [], [], []⟩
def spLI (HC SC LC : Addr) : Sp := fun vs H Q _ => ∃ h dh G ns ps ms o vh vo, vs = [.ref h, vh, vo] ∧ Same G H ∧ H h = some (.ins LC dh []) ∧ G h = none ∧ OkH ns ps ms ∧ OkO ns.length ps.length o ∧ (hsR HC ns ps ms).p vh G ∧ (ordR o).p vo G ∧
  ∀ s ds G' H', Gr (· = h) G H G' H' → H s = none → H ds = none → HlOk HC SC LC G' H' h dh s ds (initD ns ps ms o) → Q .non H'
theorem kn_Hall_init (T : Txt K mg w HC SC LC TC) : KnI P w K mg base 4 LC (spLI HC SC LC) := by
  refine kni_body T.linit sc_Hall_init lo_Hall_init (fun vs H Q E ⟨h, dh, G, ns, ps, ms, o, vh, vo, e, _⟩ => by rw [e]; rfl) ?_
  rintro X S rfl rfl rfl rfl rfl hx hr vs H Q E ⟨h, dh, G, ns, ps, ms, o, vh, vo, rfl, s0, hh, gh, ok, oo, rh, ro, k⟩
  refine st_expr (.pure s0) (jcall (kn_check_order T) (S.gl _ rfl) hr ((ns, ps, ms), o) ⟨ok, oo⟩ (ja (nm S 1 rh) (ja (nm S 2 ro) ja0))) fun _ G1 H1 g1 _ => ?_
  refine st (ps_fld sE sE (by rfl)) (gState (d := initD ns ps ms o) T (S.gl _ rfl) (hr.mono (by decide)) g1.s (ja (R := fcR HC ns ps ⟨ms, o, false, []⟩) (jtup (ja (nm S 1 (mv g1 rh)) (ja (nm S 2 (mv g1 ro)) (ja jbl (ja (jtup ja0 (by simp)) ja0)))) (by simp)) (ja jd0 (ja (jtup ja0 (Nat.zero_le _)) (ja (jtup ja0 (Nat.zero_le _)) ja0)))) fun s ds G2 H2 g2 e1 e2 st2 => ?_)
  refine (nm S 0 (R := isV (.ref h)) rfl).here (.pure g2.s) fun v G3 H3 g3 r3 => ?_
  obtain rfl : v = V.ref h := r3
  have g03 := (g1.to0.trans g2).trans g3.to0
  have h3 := g03.H _ _ hh
  have n3 := g03.out hh gh
  have st3 := st2.up g3.gr (fun z => z) (fun z => z)
  have sne : ¬ s = h := fun z => by rw [z, g1.to0.H _ _ hh] at e1; cases e1
  have dne : ¬ ds = h := fun z => by rw [z, g1.to0.H _ _ hh] at e2; cases e2
  have gs : Gr (· = h) G3 H3 G3 (upd H3 h (.ins LC dh (putF "state" (.ref s) []))) := Gr.set g3.s n3 rfl
  exact ⟨h, LC, dh, [], rfl, h3, T.ls, T.lstate, by simp, st0 (k s ds G3 _ (g03.up.trans gs) (g1.to0.H.free e1) (g1.to0.H.free e2) ⟨upd_same, n3, Ne.symm sne, Ne.symm dne, st3.up gs sne dne⟩)⟩
/-- behind a class's call -/
theorem make_hall {X : Cx} {vs : List V} {G H : Hp} {ns ps : List Str} {ms : List Mn} {o : List Nat} {Q : VK} (s0 : Same G H) (ok : OkH ns ps ms) (oo : OkO ns.length ps.length o) (pr : PR G vs [hsR HC ns ps ms, ordR o])
    (k : ∀ h dh s ds G' H', Gr0 G H G' H' → H h = none → H s = none → H ds = none → HlOk HC SC LC G' H' h dh s ds (initD ns ps ms o) → Q (.ref h) H') :
    ∀ x dx, H x = none → H dx = none → dx ≠ x → spLI HC SC LC (.ref x :: vs) (upd (upd H dx (.own x)) x (.ins LC dx [])) (fun v H2 => v = .non ∧ Q (.ref x) H2) E0 := by
  obtain ⟨vh, vo, rfl, rh, ro⟩ := PR.two pr
  intro x dx hx hdx ne
  have s1 : Same H (upd (upd H dx (.own x)) x (.ins LC dx [])) := fun c u q => by
    rw [upd_ne (ne_of_none q hx), upd_ne (ne_of_none q hdx)]; exact q
  have gH : Gr0 G H G (upd (upd H dx (.own x)) x (.ins LC dx [])) := ⟨Same.refl _, s0.trans s1, fun a o _ q => s1 _ _ q, fun _ _ _ => rfl, fun a o q => ⟨o, s1 _ _ q⟩⟩
  refine ⟨x, dx, G, ns, ps, ms, o, vh, vo, rfl, gH.s, upd_same, s0.free hx, ok, oo, rh, ro, fun s ds G' H' gr e1 e2 hl => ⟨rfl, ?_⟩⟩
  have g3 : Gr0 G H G' H' := (gH.up.trans gr).drop fun a o q z => by rw [z, hx] at q; cases q
  exact k x dx s ds G' H' g3 hx (gH.free e1) (gH.free e2) hl
/-- Hall(house, order) -/
theorem gHall {X : Cx} {σ : L2.St} {G H : Hp} {e : Expr} {es : List Expr} {p pos : Pos} {ns ps : List Str} {ms : List Mn} {o : List Nat} {Q : VK} (T : Txt X.K X.mg X.w HC SC LC TC) (hg : Gl X "Hall") (hr : Room 5 X.A) (s0 : Same G H) (ok : OkH ns ps ms) (oo : OkO ns.length ps.length o)
    (ha : JA pureM X (e :: es) σ G H [hsR HC ns ps ms, ordR o]) (k : ∀ h dh s ds G' H', Gr0 G H G' H' → H h = none → H s = none → H ds = none → HlOk HC SC LC G' H' h dh s ds (initD ns ps ms o) → Q (.ref h) H')
    (he : starEach (e :: es) X.env = (false, eval e X.env) :: starEach es X.env := by rfl) (hpl : (backTo pos (starEach es X.env)).any (·.1) = false := by rfl) : RunE X (.Call (.Name "Hall" p) (e :: es) [] pos) σ H Q :=
  gmake (kn_Hall_init T) hr hg T.mHall (ha.here (.pure s0) fun vs G2 H2 g2 pr => make_hall (X := X) g2.s ok oo pr fun h dh s ds G' H' g e1 e2 e3 hl => k h dh s ds G' H' (g2.to0.trans g) (g2.to0.H.free e1) (g2.to0.H.free e2) (g2.to0.H.free e3) hl) (he := he) (hpl := hpl)
/-- x(e, ..), x a local name that holds a class -/
theorem gmakeL {X : Cx} {σ : L2.St} {H : Hp} {e : Expr} {es : List Expr} {p pos : Pos} {x : Str} {i k : Nat} {C : Addr} {sp : Sp} {Q : VK} (K1 : KnI X.prog X.w X.K X.mg X.base k C sp) (hr : Room (k + 1) X.A) (hN : X.N[i]? = some x) (hv : Vis X.env.scope x) (hσ : σ[i]? = some (some (.ref C)))
    (q : RunA X (e :: es) σ H fun vs H1 => ∀ x dx, H1 x = none → H1 dx = none → dx ≠ x → sp (.ref x :: vs) (upd (upd H1 dx (.own x)) x (.ins C dx [])) (fun v H2 => v = .non ∧ Q (.ref x) H2) E0)
    (hdb : (x == ("__debug__" : Str)) = false := by decide) (hcd : (x == ("__classdict__" : Str)) = false := by decide)
    (he : starEach (e :: es) X.env = (false, eval e X.env) :: starEach es X.env := by rfl) (hpl : (backTo pos (starEach es X.env)).any (·.1) = false := by rfl) : RunE X (.Call (.Name x p) (e :: es) [] pos) σ H Q := by
  obtain ⟨f, fd, ps, hb, M, F⟩ := K1
  intro pins s I
  refine wpAny_Call_Name_kw (thn ((pe_var (pos := p) hN hv hdb hcd).run pins s σ H (fun v H1 => v = .ref C ∧ H1 = H) I ⟨.ref C, hσ, rfl, rfl⟩) fun u s1 ⟨v, H1, I1, r1, q1⟩ => ?_)
  obtain ⟨rfl, rfl⟩ := q1
  cases r1
  refine PySem.W.callWith_K (h₀ := X.base) I.ok.mod.kin M.kp (thn ((sA (X := X) (es := e :: es)).run pos pins s1 σ _ _ I1 q) fun us s2 ⟨vs, H2, I2, r, q2⟩ => ⟨I2.kIn, ?_⟩) he hpl
  refine run_make (E := E0) (dvs := []) (ds := []) M F hr hb .nil pass0 I2 r ?_
  intro x dx h1 h2 h3
  rw [List.append_nil]
  exact q2 x dx h1 h2 h3
def spReplay (HC SC LC : Addr) : Sp := fun vs H Q _ => ∃ G ns ps ms o L vh vo vl, vs = [.ref LC, vh, vo, vl] ∧ Same G H ∧ OkH ns ps ms ∧ OkO ns.length ps.length o ∧ L.length ≤ 1000 ∧ (hsR HC ns ps ms).p vh G ∧ (ordR o).p vo G ∧ (lstR (L.map opR)).p vl G ∧
  (∀ i (hi : i < L.length), SdOk 5000 (runD (initD ns ps ms o) (L.take i)) ∧ OpOk ns ps (runD (initD ns ps ms o) (L.take i)).f (runD (initD ns ps ms o) (L.take i)).sh L[i]) ∧
  ∀ h dh s ds G' H', Gr0 G H G' H' → HlOk HC SC LC G' H' h dh s ds (runD (initD ns ps ms o) L) → Q (.ref h) H'
theorem kn_Hall_replay (T : Txt K mg w HC SC LC TC) : ∃ (mc : Value) (p g : Addr), CRead K LC mc ∧ CMet K LC mc "replay" p g ∧ FnR P w K mg base CX0 13 g (spReplay HC SC LC) := by
  obtain ⟨mc, p, g, fd, F, hb, cr, cm⟩ := T.lreplay
  refine ⟨mc, p, g, cr, cm, fn_r0 (fn_body F sc_Hall_replay lo_Hall_replay (fun vs H Q E ⟨G, ns, ps, ms, o, L, vh, vo, vl, e, _⟩ => by rw [e]; rfl) ?_) hb⟩
  rintro X S rfl rfl rfl rfl rfl hx hr vs H Q E ⟨G, ns, ps, ms, o, L, vh, vo, vl, rfl, s0, ok, oo, hL, rh, ro, rl, hok, k⟩
  refine st (ps_set (i := 4) S.nd (by rw [S.hN]; rfl) (S.loc _ (by simp)) sE (by rfl) (.inl (S.fn _))) (gmakeL (i := 0) (kn_Hall_init T) (hr.mono (by decide)) (by rw [S.hN]; rfl) (.inl (S.lo _ rfl)) rfl ((ja (nm S 1 rh) (ja (nm S 2 ro) ja0)).here (.pure s0) fun vs G2 H2 g2 pr => make_hall (X := X) (Q := fun v H2 => gName 4 v (L2.start (L_Hall_replay ++ C_Hall_replay) [V.ref LC, vh, vo, vl]) H2 _) g2.s ok oo pr fun h dh s ds G3 H3 g3 e1 e2 e3 a3 => ?_))
  have rl3 : (lstR (L.map opR)).p vl G3 := Rel.mo _ (g2.g.trans g3.g) rl
  refine st (ps_expr sE (by rfl)) (gmeth T.ls (kn_Hall_apply_all T) hr ((nm S 4 (R := isV (.ref h)) rfl).here (.pure g3.s) fun v G4 H4 g4 r4 => ?_))
  obtain rfl : v = V.ref h := r4
  have a4 := a3.up0 g4.to0
  refine ⟨h, dh, _, rfl, a4.at_, by rfl, (ja (nm S 3 (mv g4 rl3)) ja0).here g4.ok fun ws G5 H5 g5 pw => ?_⟩
  obtain ⟨w1, rfl, r1⟩ := PR.one pw
  have a5 := a4.up0 g5.to0
  refine ⟨h, dh, s, ds, G5, initD ns ps ms o, L, w1, rfl, g5.s, a5, hL, r1, hok, fun v G6 H6 g6 a6 r6 => ?_⟩
  have gg : Gr0 G H G6 H6 := ((((g2.to0.trans g3).trans g4.to0).trans g5.to0).up.trans g6).drop fun a o q z => by
    have e1' := g2.to0.H.free e1
    have e2' := g2.to0.H.free e2
    have e3' := g2.to0.H.free e3
    rcases z with z | z | z
    · rw [z, e1'] at q; cases q
    · rw [z, e2'] at q; cases q
    · rw [z, e3'] at q; cases q
  exact st_ret (.pure g6.s) (nm S 4 (R := isV (.ref h)) rfl) fun v7 G7 H7 g7 r7 => by
    obtain rfl : v7 = V.ref h := r7
    exact k h dh s ds G7 H7 (gg.trans g7.to0) (a6.up0 g7.to0)
/-! ### what a hall shows -/
def spPr (HC SC LC : Addr) (c : Sd → Prop) (f : Sd → Rel) : Sp := fun vs H Q _ => ∃ h dh s ds G d, vs = [.ref h] ∧ Same G H ∧ HlOk HC SC LC G H h dh s ds d ∧ c d ∧ ∀ v G' H', Gr0 G H G' H' → (f d).p v G' → Q v H'
theorem kn_Hall_house_now (T : Txt K mg w HC SC LC TC) : KnP P w K mg base 1 LC "house_now" (spPr HC SC LC (fun _ => True) fun d => hsR HC d.ns d.ps d.f.ms) := by
  refine knp_body T.lhouse_now sc_Hall_house_now lo_Hall_house_now (fun vs H Q E ⟨h, dh, s, ds, G, d, e, _⟩ => by rw [e]; rfl) ?_
  rintro X S rfl rfl rfl rfl rfl hx hr vs H Q E ⟨h, dh, s, ds, G, d, rfl, s0, a, _, k⟩
  obtain ⟨p0, t0⟩ := T.sfacts
  exact st_ret (.pure s0) (jixT (jst T a.st t0 (jstate T a (nm S 0 rfl)) rfl) (jint (i := 0)) (show atI _ ((0 : Nat) : Int) = some (hsR HC d.ns d.ps d.f.ms) by rw [atI_nat]; rfl)) fun u G1 H1 g1 r => k u G1 H1 g1.to0 r
theorem kn_Hall_living (T : Txt K mg w HC SC LC TC) : KnP P w K mg base 1 LC "living" (spPr HC SC LC (fun _ => True) fun d => ordR d.f.o) := by
  refine knp_body T.lliving sc_Hall_living lo_Hall_living (fun vs H Q E ⟨h, dh, s, ds, G, d, e, _⟩ => by rw [e]; rfl) ?_
  rintro X S rfl rfl rfl rfl rfl hx hr vs H Q E ⟨h, dh, s, ds, G, d, rfl, s0, a, _, k⟩
  obtain ⟨p0, t0⟩ := T.sfacts
  exact st_ret (.pure s0) (jixT (jst T a.st t0 (jstate T a (nm S 0 rfl)) rfl) (jint (i := 1)) (show atI _ ((1 : Nat) : Int) = some (ordR d.f.o) by rw [atI_nat]; rfl)) fun u G1 H1 g1 r => k u G1 H1 g1.to0 r
theorem kn_Hall_teaches (T : Txt K mg w HC SC LC TC) : KnP P w K mg base 1 LC "teaches" (spPr HC SC LC (fun _ => True) fun d => isB d.f.on) := by
  refine knp_body T.lteaches sc_Hall_teaches lo_Hall_teaches (fun vs H Q E ⟨h, dh, s, ds, G, d, e, _⟩ => by rw [e]; rfl) ?_
  rintro X S rfl rfl rfl rfl rfl hx hr vs H Q E ⟨h, dh, s, ds, G, d, rfl, s0, a, _, k⟩
  obtain ⟨p0, t0⟩ := T.sfacts
  exact st_ret (.pure s0) (jixT (jst T a.st t0 (jstate T a (nm S 0 rfl)) rfl) (jint (i := 2)) (show atI _ ((2 : Nat) : Int) = some (isB d.f.on) by rw [atI_nat]; rfl)) fun u G1 H1 g1 r => k u G1 H1 g1.to0 r
theorem kn_Hall_posted (T : Txt K mg w HC SC LC TC) : KnP P w K mg base 1 LC "posted" (spPr HC SC LC (fun _ => True) fun d => lstR (d.f.lets.map ltR)) := by
  refine knp_body T.lposted sc_Hall_posted lo_Hall_posted (fun vs H Q E ⟨h, dh, s, ds, G, d, e, _⟩ => by rw [e]; rfl) ?_
  rintro X S rfl rfl rfl rfl rfl hx hr vs H Q E ⟨h, dh, s, ds, G, d, rfl, s0, a, _, k⟩
  obtain ⟨p0, t0⟩ := T.sfacts
  exact st_ret (.pure s0) (vlistT (S.vw T.b hr) (jixT (jst T a.st t0 (jstate T a (nm S 0 rfl)) rfl) (jint (i := 3)) (show atI _ ((3 : Nat) : Int) = some (tupR (d.f.lets.map ltR)) by rw [atI_nat]; rfl))) fun u G1 H1 g1 r => k u G1 H1 g1.to0 r
/-- the texts of a row, sorted -/
def srtR (ks : List Str) : Rel := ⟨fun v G => ∃ ys, ys.Perm ks ∧ sortedS ys = true ∧ (lstR (ys.map isS)).p v G, fun {v G G'} s h => by
  obtain ⟨ys, h1, h2, h3⟩ := h
  exact ⟨ys, h1, h2, Rel.mo _ s h3⟩⟩
theorem kn_Hall_kept_under (T : Txt K mg w HC SC LC TC) : KnP P w K mg base 1 LC "kept_under" (spPr HC SC LC (fun d => d.sh.length < 64) fun d => srtR (d.sh.map (·.1))) := by
  refine knp_body T.lkept_under sc_Hall_kept_under lo_Hall_kept_under (fun vs H Q E ⟨h, dh, s, ds, G, d, e, _⟩ => by rw [e]; rfl) ?_
  rintro X S rfl rfl rfl rfl rfl hx hr vs H Q E ⟨h, dh, s, ds, G, d, rfl, s0, a, hc, k⟩
  obtain ⟨p2, t2⟩ := T.sshelf
  have ek : (shDs HC d.ns d.ps d.sh).map (·.1) = d.sh.map (·.1) := by unfold shDs; rw [List.map_map]; rfl
  exact st_ret (.pure s0) (vsortedD (S.vw T.b hr) (jst T a.st t2 (jstate T a (nm S 0 rfl)) rfl) (R' := srtR (d.sh.map (·.1))) (by unfold shDs; rw [List.length_map]; exact hc) fun ys hp hs v G1 q => ⟨ys, by rw [ek] at hp; exact hp, hs, q⟩) fun u G1 H1 g1 r => k u G1 H1 g1.to0 r
theorem kn_Hall_history (T : Txt K mg w HC SC LC TC) : KnP P w K mg base 1 LC "history" (spPr HC SC LC (fun d => d.past.length ≤ 5000) fun d => lstR (d.past.map fun q => opR q.1)) := by
  refine knp_body T.lhistory sc_Hall_history lo_Hall_history (fun vs H Q E ⟨h, dh, s, ds, G, d, e, _⟩ => by rw [e]; rfl) ?_
  rintro X S rfl rfl rfl rfl rfl hx hr vs H Q E ⟨h, dh, s, ds, G, d, rfl, s0, a, hc, k⟩
  obtain ⟨p1, t1⟩ := T.spast
  exact st_ret (.pure s0) (slc3 S 1 2 3 d.past (fun q => opR q.1) (fun q => fcR HC d.ns d.ps q.2.1) (fun q => shR HC d.ns d.ps q.2.2) (fun q => opR q.1) (jiT (jst T a.st t1 (jstate T a (nm S 0 rfl)) rfl)) (by omega) fun q v1 v2 v3 G1 H1 hq g1 r1 r2 r3 X' B => nb B.S 1 r1) fun u G1 H1 g1 r => k u G1 H1 g1.to0 r
end Lp
/-! ## D15 -/
set_option Elab.async false
set_option linter.all false
set_option maxRecDepth 100000
set_option maxHeartbeats 2000000
/-! The law's draws. -/
namespace Lp
open PySem PySem.Spec PyProof.Rows L2
theorem SqL.same {K : PySem.W.Frag} {G H : Hp} {a : Addr} {xs : List V} (h : SqL K G a xs) (s : Same G H) : SqL K H a xs := by
  rcases h with h | h
  · rcases h with h | ⟨o, h⟩
    · exact .inl (.inl (s _ _ h))
    · exact .inl (.inr ⟨o, s _ _ h⟩)
  · exact .inr h
/-- the script -/
def ScR (K : PySem.W.Frag) (ns : List Int) : Rel := ⟨fun v G => ∃ a, v = .ref a ∧ SqL K G a (ns.map V.int), fun {v G G'} s h => by
  obtain ⟨a, e, q⟩ := h
  exact ⟨a, e, SqL.same q s⟩⟩
def rowRs (K : PySem.W.Frag) (ns : List Int) (a b c : Int) : List Rel := [ScR K ns, isI a, isI b, isI c]
/-- the row of draws stands -/
structure RowAt (K : PySem.W.Frag) (ns : List Int) (r : Addr) (G H : Hp) : Prop where
  n : G r = none
  ex : ∃ vs a b c, H r = some (.lst vs) ∧ PR G vs (rowRs K ns a b c) ∧ 0 ≤ a
def RowM (K : PySem.W.Frag) (ns : List Int) (r : Addr) : Md where
  m := fun a => a = r
  I := fun G H => RowAt K ns r G H
  dom := fun {G H a} i h => by
    obtain ⟨vs, _, _, _, e, _⟩ := i.ex
    exact ⟨_, by rw [h]; exact e⟩
  mo := fun {G H G' H'} i s h => by
    obtain ⟨vs, a, b, c, e, p, q⟩ := i.ex
    exact ⟨(h r rfl).2.trans i.n, vs, a, b, c, (h r rfl).1.trans e, PR.mo s p, q⟩
section
variable {X : Cx} {σ : L2.St} {G H : Hp} {e a b : Expr} {R1 : Rel} {pos p : Pos} {sc : Scope} {ns : List Int}
theorem slen (v : Vw X sc) (h : J pureM X e σ G H (ScR X.K ns)) (hg : sc.names.lookup ("len" : Str) = some .globalImplicit := by rfl) (hs : starEach [e] X.env = [(false, eval e X.env)] := by rfl) : J pureM X (.Call (.Name "len" p) [e] [] pos) σ G H (isN ns.length) :=
  jcallB call_len_seq (v.gl _ hg) v.b.len PySem.boot_len (ja h ja0 hs) (fun vs G1 H1 g pr Q k => by
    obtain ⟨x, rfl, a, rfl, h⟩ := PR.one pr
    exact ⟨a, _, rfl, .inl (SqL.same h g.s), by rw [List.length_map]; exact k _ G1 H1 g.rf rfl⟩) (he := hs)
theorem six {i : Int} {x : Int} (ha : J pureM X a σ G H (ScR X.K ns)) (hb : J pureM X b σ G H (isI i)) (e : atI ns i = some x) (hs : PlainIx b := by intro _ _; rfl) : J pureM X (.Subscript a b pos) σ G H (isI x) :=
  jix ix_list ha hb (fun x' y G1 H1 g ⟨q, e1, h⟩ hy Q k => ⟨q, ns.map V.int, i, .int x, e1, hy, SqL.same h g.s, atI_map e, k _ G1 H1 g.rf rfl⟩) hs
theorem jrow {N C : List Str} {x : Str} {r : Addr} {us : List V} {Rs : List Rel} {R : Rel} {kk : Nat} {p1 p2 : Pos} (S : Sees X N C sc) (j : Nat) (i : Nat) (h : H r = some (.lst us)) (pr : PR G us Rs) (e : Rs[i]? = some R := by rfl) (hσ : σ[j]? = some (some (.ref r)) := by rfl) (hN : N[j]? = some x := by rfl) (hd : (x == ("__debug__" : Str)) = false := by decide)
    (hcd : (x == ("__classdict__" : Str)) = false := by decide) : J pureM X (.Subscript (.Name x p1) (.Constant (.int (i : Int)) kk p2) pos) σ G H R :=
  rixL (isL_raw h (fun z => z) pr) (nm S j (R := isV (.ref r)) rfl hσ hN hd hcd) jint (by rw [atI_nat]; exact e)
end
variable {P : Program} {w : World} {K : PySem.W.Frag} {mg : Str → Option Value} {base : Heap} {HC SC LC TC : Addr}
abbrev ltN (m : Nat) : Rel := exR fun n : Fin m => isN n.val
theorem mod_ltN {x : Int} {m : Nat} (hm : 0 < m) {v : V} {G : Hp} (h : (isI (x % (m : Int))).p v G) : (ltN m).p v G := by
  have h1 : 0 ≤ x % (m : Int) := Int.emod_nonneg _ (by omega)
  have h2 : x % (m : Int) < m := Int.emod_lt_of_pos _ (by omega)
  refine ⟨⟨(x % (m : Int)).toNat, by omega⟩, ?_⟩
  have e : (((x % (m : Int)).toNat : Nat) : Int) = x % (m : Int) := by omega
  show v = V.int _
  rw [e]
  exact h
theorem kn_taken (T : Txt K mg w HC SC LC TC) : Kn P w K mg base 1 "_law_taken" (spM (fun i : Addr × List Int × Nat => RowM K i.2.1 i.1) (fun i => 0 < i.2.2 ∧ i.2.2 ≤ 1000000) (fun i => [isV (.ref i.1), isN i.2.2]) (fun i => ltN i.2.2)) := by
  refine kn_body T.taken sc_law_taken lo_law_taken (fun _ => rfl) ?_
  rintro X S rfl rfl rfl rfl rfl hx hr vs G H Q ⟨r, ns, m⟩ s ⟨hm, hm2⟩ pr k
  obtain ⟨v1, v2, rfl, r1, r2⟩ := PR.two pr
  obtain rfl : v1 = V.ref r := r1
  have v := S.vw T.b hr
  have hm' : 0 < m := hm
  have hm2' : m ≤ 1000000 := hm2
  obtain ⟨gr0, us, a, b, c, hus, pu, ha⟩ := (show RowAt X.K ns r G H from s.i)
  have hul : us.length = 4 := pu.len
  have s0 : Same G H := s.s
  -- the row's cells written: what holds behind
  have wr : ∀ {G1 H1 : Hp} {us : List V} {Rs : List Rel} {n : Nat} {R : Rel} {u : V}, Gr (· = r) G H G1 H1 → G1 r = none → PR G1 us Rs → R.p u G1 → Gr (· = r) G H G1 (upd H1 r (.lst (us.set n u))) ∧ PR G1 (us.set n u) (Rs.set n R) ∧ upd H1 r (.lst (us.set n u)) r = some (.lst (us.set n u)) :=
    fun g n1 p1 ru => ⟨g.trans (Gr.set g.s n1 rfl), p1.set ru, upd_same⟩
  refine st_if (.pure s0) (t := decide ((0 : Int) < c)) (jtcmp op_gt (jrow S 0 3 hus pu) jint tw_gt) (fun t G1 H1 g1 => ?_) fun t G1 H1 g1 => st0 ?_
  · have h1 := g1.to0.H _ _ hus
    have n1 := g1.out hus gr0
    have p1 := PR.mo g1.g pu
    refine st_set S 2 g1.ok (R := ltN m) (J.imp' (jmod (vint v (jrow S 0 3 h1 p1)) (nm S 1 (mv g1 r2)) (by omega)) fun _ _ _ _ => mod_ltN hm') fun u2 G2 H2 g2 q2 => ?_
    have g12 := g1.trans g2
    have h2 := g2.to0.H _ _ h1
    have n2 := g2.out h1 n1
    have p2 := PR.mo g2.g p1
    refine st_lset g2.ok (jdiv (jrow S 0 3 h2 p2) (nm S 1 (mv g12 r2)) ⟨by omega, by omega⟩) (nm S 0 (R := isV (.ref r)) rfl) jint h2 (fun z => z) (n := 3) (by rw [hul]; rfl) fun u3 G3 H3 g3 q3 h3 => ?_
    have n3 := g3.out h2 n2
    obtain ⟨gw, pw, hw⟩ := wr (n := 3) (g12.trans g3).gr.up n3 (PR.mo g3.g p2) q3
    refine st_ret (.pure gw.s) (nm S 2 (R := ltN m) (Rel.mo _ g3.g q2)) fun u4 G4 H4 g4 q4 => k u4 G4 H4 ⟨gw.to g4.to0, g4.out hw n3, _, a, b, _, g4.to0.H _ _ hw, PR.mo g4.g pw, ha⟩ q4
  · have h1 := g1.to0.H _ _ hus
    have n1 := g1.out hus gr0
    have p1 := PR.mo g1.g pu
    refine st_lset g1.ok (jadd (jrow S 0 1 h1 p1) jint) (nm S 0 (R := isV (.ref r)) rfl) jint h1 (fun z => z) (n := 1) (by rw [hul]; rfl) fun u2 G2 H2 g2 q2 h2 => ?_
    have n2 := g2.out h1 n1
    obtain ⟨gw2, pw2, hw2⟩ := wr (n := 1) (g1.trans g2).gr.up n2 (PR.mo g2.g p1) q2
    have pw2' : PR G2 (us.set 1 u2) (rowRs X.K ns (a + 1) b c) := pw2
    have l2 : (us.set 1 u2).length = 4 := by simp [hul]
    refine st_if (.pure gw2.s) (t := decide ((ns.length : Int) < a + 1)) (jtcmp op_gt (jrow S 0 1 hw2 pw2') (slen v (jrow S 0 0 hw2 pw2')) tw_gt) (fun t2 G3 H3 g3 => ?_) fun t2 G3 H3 g3 => st0 ?_
    · have h3 := g3.to0.H _ _ hw2
      have n3 := g3.out hw2 n2
      have p3 := PR.mo g3.g pw2'
      refine st_lset g3.ok (jmod (vint v (jadd (jmul (jrow S 0 2 h3 p3) jint (.inr (by decide))) jint)) jint (by decide)) (nm S 0 (R := isV (.ref r)) rfl) jint h3 (fun z => z) (n := 2) (by rw [l2]; rfl) fun u4 G4 H4 g4 q4 h4 => ?_
      have n4 := g4.out h3 n3
      obtain ⟨gw4, pw4, hw4⟩ := wr (n := 2) ((gw2.to g3.to0).to g4.to0) n4 (PR.mo g4.g p3) q4
      refine st_ret (.pure gw4.s) (R := ltN m) (J.imp' (jmod (vint v (jdiv (jrow S 0 2 hw4 pw4) jint ⟨by decide, by decide⟩)) (nm S 1 (Rel.mo _ (((g1.trans g2).g.trans g3.g).trans g4.g) r2)) (by omega)) fun _ _ _ _ => mod_ltN hm') fun u5 G5 H5 g5 q5 => k u5 G5 H5 ⟨gw4.to g5.to0, g5.out hw4 n4, _, a + 1, _, c, g5.to0.H _ _ hw4, PR.mo g5.g pw4, by omega⟩ q5
    · have h3 := g3.to0.H _ _ hw2
      have n3 := g3.out hw2 n2
      have p3 := PR.mo g3.g pw2'
      have hlt : a < (ns.length : Int) := by simp at t2; omega
      have hcell : ∃ x, atI ns (a + 1 - 1) = some x := by
        obtain ⟨k', hk⟩ : ∃ k' : Nat, a = (k' : Int) := ⟨a.toNat, by omega⟩
        subst hk
        have : ((k' : Int) + 1 - 1) = ((k' : Nat) : Int) := by omega
        rw [this, atI_nat]
        exact ⟨_, List.getElem?_eq_getElem (by omega)⟩
      obtain ⟨cell, hcell⟩ := hcell
      refine st_set S 3 g3.ok (six (jrow S 0 0 h3 p3) (jsub (jrow S 0 1 h3 p3) jint) hcell) fun u4 G4 H4 g4 q4 => ?_
      have h4 := g4.to0.H _ _ h3
      have n4 := g4.out h3 n3
      have p4 := PR.mo g4.g p3
      refine st_lset g4.ok (jmod (vint v (jadd (jadd (jmul (jrow S 0 2 h4 p4) jint (.inr (by decide))) (nm S 3 q4)) jint)) jint (by decide)) (nm S 0 (R := isV (.ref r)) rfl) jint h4 (fun z => z) (n := 2) (by rw [l2]; rfl) fun u5 G5 H5 g5 q5 h5 => ?_
      have n5 := g5.out h4 n4
      obtain ⟨gw5, pw5, hw5⟩ := wr (n := 2) (((gw2.to g3.to0).to g4.to0).to g5.to0) n5 (PR.mo g5.g p4) q5
      have l5 : ((us.set 1 u2).set 2 u5).length = 4 := by simp [hul]
      have g45 : Same G4 G5 := g5.g
      have r25 : (isN m).p v2 G5 := Rel.mo _ ((((g1.trans g2).g.trans g3.g).trans g4.g).trans g5.g) r2
      refine st_lset (.pure gw5.s) (R := exR fun z : Int => isI z) (jif (t := decide ((10 : Int) ^ (18 : Int).toNat ≤ cell)) (jtcmp op_ge (nm S 3 (Rel.mo _ g45 q4)) (jop op_pow jint jint (tw_pow ⟨by decide, by decide, by decide⟩)) tw_ge) (fun _ => J.imp' (jdiv (nm S 3 (Rel.mo _ g45 q4)) (nm S 1 r25) ⟨by omega, by omega⟩) fun _ _ _ _ h => ⟨_, h⟩) fun _ => J.imp' jint fun _ _ _ _ h => ⟨0, h⟩) (nm S 0 (R := isV (.ref r)) rfl) jint hw5 (fun z => z) (n := 3) (by rw [l5]; rfl) fun u6 G6 H6 g6 q6 h6 => ?_
      have n6 := g6.out hw5 n5
      obtain ⟨z6, q6⟩ := q6
      obtain ⟨gw6, pw6, hw6⟩ := wr (n := 3) (gw5.to g6.to0) n6 (PR.mo g6.g pw5) q6
      refine st_ret (.pure gw6.s) (R := ltN m) (J.imp' (jmod (vint v (nm S 3 (Rel.mo _ (g45.trans g6.g) q4))) (nm S 1 (Rel.mo _ g6.g r25)) (by omega)) fun _ _ _ _ => mod_ltN hm') fun u7 G7 H7 g7 q7 => k u7 G7 H7 ⟨gw6.to g7.to0, g7.out hw6 n6, _, a + 1, _, _, g7.to0.H _ _ hw6, PR.mo g7.g pw6, by omega⟩ q7
end Lp
/-! ## D16 -/
set_option Elab.async false
set_option linter.all false
set_option maxRecDepth 100000
set_option maxHeartbeats 2000000
/-! The law: pick, mixed, goes, letters. -/
namespace Lp
open PySem PySem.Spec PyProof.Rows L2
section
variable {W : Md} {X : Cx} {σ : L2.St} {G H : Hp} {a b : Expr} {R R1 : Rel} {Rs : List Rel} {pos : Pos}
theorem jixLX (ha : J W X a σ G H (lstR Rs)) (hb : J W X b σ G H (ltN Rs.length)) (hs : PlainIx b := by intro _ _; rfl) : J W X (.Subscript a b pos) σ G H (exR fun n : Fin Rs.length => Rs[n.val]) :=
  jix ix_list ha hb (Tw.exr fun n x y G1 H1 g ⟨q, vs, e1, h, pr⟩ hy Q k => by
    obtain ⟨v, hv, r⟩ := pr.at (i := (n.val : Int)) (R := Rs[n.val]) (by rw [atI_nat]; exact List.getElem?_eq_getElem n.isLt)
    exact ⟨q, vs, (n.val : Int), v, e1, hy, sqL g h, hv, k v G1 H1 g.rf r⟩) hs
theorem tw_ne0L {K : PySem.W.Frag} (hL : IsL W G H R1 Rs) : Tw W (rEq0 K true) G H R1 (lstR []) (isB (!Rs.isEmpty)) := fun x y G1 H1 g r ⟨b, ws, e2, h2, pr2⟩ Q k => by
  cases pr2
  obtain ⟨a, vs, e, h, pr⟩ := hL x G1 H1 g r
  have el : vs.isEmpty = Rs.isEmpty := by have := pr.len; cases vs <;> cases Rs <;> simp at this <;> rfl
  exact ⟨a, b, vs, e, e2, SqL.of h, sqL g h2, k _ G1 H1 g.rf (by rw [← el]; exact rfl)⟩
end
variable {P : Program} {w : World} {K : PySem.W.Frag} {mg : Str → Option Value} {base : Heap} {HC SC LC TC : Addr}
theorem kn_pick (T : Txt K mg w HC SC LC TC) : Kn P w K mg base 2 "_law_pick" (spM (fun i : Addr × List Int × List Rel => RowM K i.2.1 i.1) (fun i => 0 < i.2.2.length ∧ i.2.2.length ≤ 1000000) (fun i => [isV (.ref i.1), lstR i.2.2]) (fun i => exR fun n : Fin i.2.2.length => i.2.2[n.val])) := by
  refine kn_body T.pick sc_law_pick lo_law_pick (fun _ => rfl) ?_
  rintro X S rfl rfl rfl rfl rfl hx hr vs G H Q ⟨r, ns, Rs⟩ s hc pr k
  obtain ⟨v1, v2, rfl, r1, r2⟩ := PR.two pr
  exact st_ret s (jixLX (nm S 1 r2) (jcallM (kn_taken T) (S.gl _ rfl) hr (r, ns, Rs.length) rfl hc (ja (nm S 0 r1) (ja (vlenL (S.vw T.b hr) (nm S 1 r2)) ja0)))) fun u G' H' g q => k u G' H' g q
theorem erase_perm {α : Type} : ∀ {ls : List α} {i : Nat} (hi : i < ls.length), (ls[i] :: ls.eraseIdx i).Perm ls
  | x :: ls, 0, _ => List.Perm.refl _
  | x :: ls, i + 1, hi => by
    have ih := erase_perm (ls := ls) (i := i) (by simpa using hi)
    show (ls[i]'(by simpa using hi) :: x :: ls.eraseIdx i).Perm (x :: ls)
    exact (List.Perm.swap _ _ _).trans (ih.cons x)
theorem perm_pop {α : Type} {fs ls xs : List α} {i : Nat} {y : α} (h : (fs ++ ls).Perm xs) (hy : ls[i]? = some y) : ((fs ++ [y]) ++ ls.eraseIdx i).Perm xs := by
  refine List.Perm.trans ?_ h
  obtain ⟨hi, e⟩ := List.getElem?_eq_some_iff.mp hy
  rw [List.append_assoc]
  refine List.Perm.append_left fs ?_
  show (y :: ls.eraseIdx i).Perm ls
  rw [← e]
  exact erase_perm hi
theorem vals_erase {xs : List V} {i : Nat} : (xs.eraseIdx i).length ≤ xs.length := List.length_eraseIdx_le ..
theorem kn_mixed (T : Txt K mg w HC SC LC TC) : Kn P w K mg base 2 "_law_mixed" (spM (fun i : Addr × List Int × List V => RowM K i.2.1 i.1) (fun i => i.2.2.length ≤ 10000) (fun i => [isV (.ref i.1), lstR (i.2.2.map isV)]) (fun i => exR fun p : { ys : List V // ys.Perm i.2.2 } => lstR (p.val.map isV))) := by
  refine kn_body T.mixed sc_law_mixed lo_law_mixed (fun _ => rfl) ?_
  rintro X S rfl rfl rfl rfl rfl hx hr vs G H Q ⟨r, ns, xs⟩ s hc pr k
  obtain ⟨v1, v2, rfl, r1, r2⟩ := PR.two pr
  have v := S.vw T.b hr
  obtain rfl : v1 = V.ref r := r1
  have hc' : xs.length ≤ 10000 := hc
  have sI : RowAt X.K ns r G H := s.i
  let W := RowM X.K ns r
  have s' : Ok W G H := s
  refine st_parA S 2 3 (gA (pa_cons sE sA) (glistL v s' (nm S 1 r2) fun vs0 l G1 H1 g1 pr1 hl => gA (pa_cons sE sA) (gE (pe_lst sA) (gA pa_nil ⟨by simp, fun f hf => gA pa_nil ?_⟩))))
  refine ⟨_, _, rfl, ?_⟩
  show RunS X _ _ [some (.ref r), some v2, some (.ref l), some (.ref f)] (upd (upd H1 l (.lst vs0)) f (.lst []))
  have nml : ¬ W.m l := g1.nm hl
  have hlf : l ≠ f := fun z => by rw [← z, upd_same] at hf; cases hf
  have hf1 : H1 f = none := by rw [upd_ne (Ne.symm hlf)] at hf; exact hf
  have nmf : ¬ W.m f := g1.nm hf1
  have hl0 : H l = none := by
    cases hh : H l with
    | none => rfl
    | some o => obtain ⟨o', e'⟩ := g1.gr.t _ _ hh; rw [hl] at e'; cases e'
  have hf0 : H f = none := by
    cases hh : H f with
    | none => rfl
    | some o => obtain ⟨o', e'⟩ := g1.gr.t _ _ hh; rw [hf1] at e'; cases e'
  have gA1 : Gw W G H G1 (upd H1 l (.lst vs0)) := g1.trans (g1.raw hl)
  have gA2 : Gw W G H G1 (upd (upd H1 l (.lst vs0)) f (.lst [])) := gA1.trans (gA1.raw hf)
  let Wv : Nat → L2.St → Hp → Prop := fun m σ' H' => σ' = [some (.ref r), some v2, some (.ref l), some (.ref f)] ∧ ∃ G' ls fs, Gw W G H G' H' ∧ H' l = some (.lst ls) ∧ H' f = some (.lst fs) ∧ G' l = none ∧ G' f = none ∧ (fs ++ ls).Perm xs ∧ ls.length = m
  have evs : vs0 = xs := PR.vals pr1
  subst evs
  refine st (ps_while (by rw [hx]; exact PassesOwn.never) sT sS) ⟨Wv, ⟨vs0.length, rfl, G1, vs0, [], gA2, by rw [upd_ne hlf, upd_same], upd_same, sub_none g1.s hl, sub_none g1.s hf1, by simp, rfl⟩, ?_⟩
  rintro m σ' H' ⟨rfl, G', ls, fs, g', hll, hff, nl, nf, hp, rfl⟩
  have tot : (fs ++ ls).length = vs0.length := hp.length_eq
  rw [List.length_append] at tot
  refine (jtcmp (op_ne0 (by have := hr.un; omega)) (nm S 2 (R := isV (.ref l)) rfl) (jlst ja0 (Nat.zero_le _)) (tw_ne0L (isL_raw hll nml (PR.ofVals ls)))).here g'.ok fun G2 H2 g2 => ?_
  have hl2 := g2.gr.h _ _ nml hll
  have hf2 := g2.gr.h _ _ nmf hff
  have nl2 := g2.out hll nl
  have nf2 := g2.out hff nf
  have g02 := g'.trans g2
  have eemp : (ls.map isV).isEmpty = ls.isEmpty := by cases ls <;> rfl
  rw [eemp]
  cases hemp : ls.isEmpty with
  | true =>
    rw [if_neg (by decide)]
    have els : ls = [] := by cases ls with | nil => rfl | cons x y => cases hemp
    subst els
    rw [List.append_nil] at hp
    obtain ⟨g3, sf⟩ := g02.fin nmf hf2 nf2 hf0
    exact st_ret g3.ok (nm S 3 (R := lstR (fs.map isV)) ⟨f, fs, rfl, upd_same, PR.ofVals fs⟩) fun u G4 H4 g4 q4 => k u G4 H4 (g3.trans g4) ⟨⟨fs, hp⟩, q4⟩
  | false =>
    rw [if_pos (by decide)]
    have hpos : 0 < ls.length := by cases ls with | nil => cases hemp | cons x y => simp
    refine ⟨Wv (ls.length - 1), fun σ' H' h => ⟨ls.length - 1, by omega, h⟩, ?_⟩
    refine st1 (ps_expr (pe_bm PySem.F.plainAttrs_list PySem.F.slot_list_append PySem.F.type_list_append mt_append sE sA) (by rfl)) ((nm S 3 (R := isV (.ref f)) rfl : J W X _ _ G2 H2 _).here g02.ok fun x3 G3 H3 g3 rx3 => ?_)
    obtain rfl : x3 = V.ref f := rx3
    have hf3 := g3.gr.h _ _ nmf hf2
    have hl3 := g3.gr.h _ _ nml hl2
    refine ⟨.inl ⟨rfl, _, SqL.of hf3⟩, gA (pa_cons sE sA) (gE (pe_bm PySem.F.plainAttrs_list PySem.F.slot_list_pop PySem.F.type_list_pop mt_popAt sE sA) ((nm S 2 (R := isV (.ref l)) rfl : J W X _ _ G3 H3 _).here (g02.trans g3).ok fun x4 G4 H4 g4 rx4 => ?_))⟩
    obtain rfl : x4 = V.ref l := rx4
    have hf4 := g4.gr.h _ _ nmf hf3
    have hl4 := g4.gr.h _ _ nml hl3
    have g04 := (g02.trans g3).trans g4
    refine ⟨.inl ⟨rfl, _, SqL.of hl4⟩, (ja (jcallM (kn_taken T) (S.gl _ rfl) hr (r, ns, ls.length) rfl ⟨hpos, show ls.length ≤ 1000000 by omega⟩ (ja (nm S 0 (R := isV (.ref r)) rfl) (ja ((rlenL v (isL_raw hl4 nml (PR.ofVals ls)) (nm S 2 (R := isV (.ref l)) rfl)).eq (by rw [List.length_map])) ja0))) ja0).here g04.ok fun ws G5 H5 g5 pw => ?_⟩
    obtain ⟨w5, rfl, ⟨i, hi⟩, rw5⟩ := PR.one pw
    obtain rfl : w5 = V.int (i : Int) := rw5
    have hi' : i < ls.length := hi
    have hf5 := g5.gr.h _ _ nmf hf4
    have hl5 := g5.gr.h _ _ nml hl4
    have g05 := g04.trans g5
    have nl5 := ((g3.trans g4).trans g5).out hl2 nl2
    have nf5 := ((g3.trans g4).trans g5).out hf2 nf2
    have ey : ls[i]? = some ls[i] := List.getElem?_eq_getElem hi'
    have g6 : Gw W G H G5 (upd H5 l (.lst (ls.eraseIdx i))) := g05.set' nml nl5 hl0
    have h6f : upd H5 l (.lst (ls.eraseIdx i)) f = some (.lst fs) := by rw [upd_ne (Ne.symm hlf)]; exact hf5
    have g7 : Gw W G H G5 (upd (upd H5 l (.lst (ls.eraseIdx i))) f (.lst (fs ++ [ls[i]]))) := g6.set' nmf nf5 hf0
    refine ⟨l, ls, (i : Int), i, ls[i], rfl, rfl, hl5, by omega, by omega, (ixN_seq (ixN_nat hi')).1, ey, gA pa_nil ?_⟩
    refine ⟨f, fs, ls[i], rfl, rfl, h6f, by rw [sizeLine_eq]; omega, ?_⟩
    exact ⟨rfl, G5, ls.eraseIdx i, fs ++ [ls[i]], g7, by rw [upd_ne hlf, upd_same], upd_same, nl5, nf5, perm_pop hp ey, by rw [List.length_eraseIdx, if_pos hi']⟩
end Lp
/-! ## D17 -/
set_option Elab.async false
set_option linter.all false
set_option maxRecDepth 100000
set_option maxHeartbeats 2000000
/-! The law: goes, letters, orders, way, built. -/
namespace Lp
open PySem PySem.Spec PyProof.Rows L2
variable {P : Program} {w : World} {K : PySem.W.Frag} {mg : Str → Option Value} {base : Heap} {HC SC LC TC : Addr}
def goesP (p n : Str) : Bool := decide (p = "") || matchP p n
theorem imin {i j : Nat} : (if (j : Int) < (i : Int) then (j : Int) else (i : Int)) = ((min i j : Nat) : Int) := by
  split <;> omega
theorem filter_empty {α : Type} {l : List α} {f : α → Bool} : (l.filter f).isEmpty = l.all fun x => !f x := by
  induction l with
  | nil => rfl
  | cons x l ih =>
    rw [List.filter_cons, List.all_cons, ← ih]
    cases f x <;> simp
theorem kn_goes (T : Txt K mg w HC SC LC TC) : Kn P w K mg base 1 "_law_goes" (spP (fun i : Str × Str => i.1.length ≤ 100 ∧ i.2.length ≤ 100) (fun i => [isS i.1, isS i.2]) (fun i => isB (goesP i.1 i.2))) := by
  refine kn_body T.goes sc_law_goes lo_law_goes (fun _ => rfl) ?_
  rintro X S rfl rfl rfl rfl rfl hx hr vs G H Q ⟨p, n⟩ s ⟨hp, hn⟩ pr k
  obtain ⟨v1, v2, rfl, r1, r2⟩ := PR.two pr
  have v := S.vw T.b hr
  have hp' : p.length ≤ 100 := hp
  have hn' : n.length ≤ 100 := hn
  have k' : ∀ u G' H', Gw pureM G H G' H' → (isB (goesP p n)).p u G' → Q u H' := k
  refine st_ifr s (t := decide (V.str p = V.str "")) (jtcmp op_eq (nm S 0 r1) jstr (tw_eq rfl)) (fun _ => jbl) (fun t u G1 H1 g1 r => k' u G1 H1 g1 ?_) fun t G1 H1 g1 => ?_
  · have e : goesP p n = true := by unfold goesP; rw [decide_eq_true (V.str.inj (of_decide_eq_true t))]; rfl
    rw [e]; exact r
  have hne : ¬ p = "" := fun q => of_decide_eq_false t (congrArg V.str q)
  let keep : Nat → Bool := fun i => !inV (.str (signAt p i)) [.str PNT, .str (signAt n i)]
  have sg : ∀ (z : Str) (i : Nat), i < z.length → atI z.cps.toList (i : Int) = some (z.cps.getD i 0) := fun z i hi => by
    have hi' : i < z.cps.size := hi
    rw [atI_nat, Array.getElem?_toList, Array.getElem?_eq_getElem hi', Array.getD_eq_getD_getElem?, Array.getElem?_eq_getElem hi']
    rfl
  refine st_slci S 2 3 (List.range (min n.length p.length)) isN keep isN g1.ok (jiRange v.b.range (S.gl _ rfl) ((vmin v (vlenS v (nm S 1 (mv g1 r2)) (by omega)) (vlenS v (nm S 0 (mv g1 r1)) (by omega))).eq (by rw [imin])) (by omega)) (by rw [List.length_range]; omega) (fun i u G2 H2 hi g2 r X' B => ?_) (fun i u G2 H2 hi _ g2 r X' B => nb B.S 3 r) fun u3 G2 H2 g2 r3 => ?_
  · have hi' : i < min n.length p.length := List.mem_range.mp hi
    have g02 := g1.trans g2
    exact jtcmp op_notIn_seq (jixS (nb B.S 0 (mv g02 r1)) (nb B.S 3 r) (Nat.le_trans hp' (by decide)) (sg p i (by omega))) ((jtup (ja jstr (ja (jixS (nb B.S 1 (mv g02 r2)) (nb B.S 3 r) (Nat.le_trans hn' (by decide)) (sg n i (by omega))) ja0)) (by simp)).eq (congrArg tupR (show [isS ".", isS ⟨#[n.cps.getD i 0]⟩] = [V.str PNT, V.str (signAt n i)].map isV from rfl))) (tw_nin rfl rfl)
  · have g02 := g1.trans g2
    refine st_ret g2.ok (R := isB (decide (V.int (p.length : Int) = V.int (n.length : Int)) && (((List.range (min n.length p.length)).filter keep).map isN).isEmpty)) (jand (jcmp op_eq (vlenS v (nm S 0 (mv g02 r1)) (by omega)) (vlenS v (nm S 1 (mv g02 r2)) (by omega)) (tw_eq rfl)) fun _ => j1 (jcmp (op_eq0 (by have := v.un; omega)) (nm S 2 r3) (jlst ja0 (Nat.zero_le _)) tw_eq0)) fun u G3 H3 g3 r => k' u G3 H3 (g02.trans g3) ?_
    have e : goesP p n = (decide (V.int (p.length : Int) = V.int (n.length : Int)) && (((List.range (min n.length p.length)).filter keep).map isN).isEmpty) := by
      unfold goesP matchP
      rw [decide_eq_false hne, Bool.false_or]
      by_cases el : p.length = n.length
      · rw [decide_eq_true el, decide_eq_true (by rw [el]), el, Nat.min_self]
        have em : (((List.range n.length).filter keep).map isN).isEmpty = ((List.range n.length).filter keep).isEmpty := by cases (List.range n.length).filter keep <;> rfl
        rw [em, filter_empty]
        simp only [keep, Bool.not_not]
      · have hd : decide (V.int (p.length : Int) = V.int (n.length : Int)) = false := decide_eq_false fun q => el (Int.ofNat.inj (V.int.inj q))
        rw [decide_eq_false el, hd]
        rfl
    rw [e]; exact r
/-- a plan -/
structure Pn where
  ns : List Str
  ps : List Str
  ms : List Mn
  o : List Nat
structure PnOk (p : Pn) : Prop where
  ok : OkH p.ns p.ps p.ms
  oo : OkO p.ns.length p.ps.length p.o
def pnR (p : Pn) : Rel := tupR [tupR (p.ns.map isS), tupR (p.ps.map isS), dctR (waysD p.ns p.ms), ordR p.o]
theorem at0 {R : Rel} {Rs : List Rel} : atI (R :: Rs) (0 : Int) = some R := by
  have := atI_nat (xs := R :: Rs) (i := 0)
  exact this
theorem at1 {R R' : Rel} {Rs : List Rel} : atI (R :: R' :: Rs) (1 : Int) = some R' := by
  have := atI_nat (xs := R :: R' :: Rs) (i := 1)
  exact this
theorem at2 {R R' R'' : Rel} {Rs : List Rel} : atI (R :: R' :: R'' :: Rs) (2 : Int) = some R'' := by
  have := atI_nat (xs := R :: R' :: R'' :: Rs) (i := 2)
  exact this
theorem at3 {R R' R'' R3 : Rel} {Rs : List Rel} : atI (R :: R' :: R'' :: R3 :: Rs) (3 : Int) = some R3 := by
  have := atI_nat (xs := R :: R' :: R'' :: R3 :: Rs) (i := 3)
  exact this
theorem at4 {R R' R'' R3 R4 : Rel} {Rs : List Rel} : atI (R :: R' :: R'' :: R3 :: R4 :: Rs) (4 : Int) = some R4 := by
  have := atI_nat (xs := R :: R' :: R'' :: R3 :: R4 :: Rs) (i := 4)
  exact this
def lttR (l : Str × Nat) : Rel := tupR [isS l.1, isN l.2]
def lettersP (ns ps : List Str) : List (Str × Nat) := ns.flatMap fun n => (List.range ps.length).map fun b => (n, b)
theorem kn_letters (T : Txt K mg w HC SC LC TC) : Kn P w K mg base 1 "_law_letters" (spP (fun p : Pn => PnOk p) (fun p => [pnR p]) (fun p => lstR ((lettersP p.ns p.ps).map lttR))) := by
  refine kn_body T.lettersL sc_law_letters lo_law_letters (fun _ => rfl) ?_
  rintro X S rfl rfl rfl rfl rfl hx hr vs G H Q p s ok pr k
  obtain ⟨v1, rfl, r1⟩ := PR.one pr
  have v := S.vw T.b hr
  have n6 := ok.ok.n.l6
  have p6 := ok.ok.p.l6
  have r1' : (tupR [tupR (p.ns.map isS), tupR (p.ps.map isS), dctR (waysD p.ns p.ms), ordR p.o]).p v1 G := r1
  refine st_set S 1 s (jlst ja0 (Nat.zero_le _)) fun u1 G1 H1 g1 q1 => ?_
  refine st_for (p.ns.map isS) g1.ok S.calm hx (jiT (jixT (nm S 0 (mv g1 r1')) jint at0)) (S.pg 2) fun G2 H2 g2 => ?_
  have g12 := g1.trans g2
  have lens : ∀ l : List Str, (lettersP l p.ps).length = l.length * p.ps.length := by
    intro l
    induction l with
    | nil => simp [lettersP]
    | cons x l ih =>
      have : lettersP (x :: l) p.ps = ((List.range p.ps.length).map fun b => (x, b)) ++ lettersP l p.ps := rfl
      rw [this, List.length_append, ih]
      simp
      rw [Nat.add_mul]
      omega
  refine ⟨fun i σ' G' H' => Gw pureM G2 H2 G' H' ∧ ∃ f x, σ' = [some v1, some f, x, none] ∧ (lstR ((lettersP (p.ns.take i) p.ps).map lttR)).p f G', ⟨g2.rf, u1, none, rfl, mv g2 q1⟩, fun i σ' G' H' h => ⟨h.1.g, h.1.s⟩, ?_, ?_⟩
  · rintro i R u σ' G' H' G3 H3 hR ⟨g', f, x, rfl, rf⟩ gr3 r
    have hi : i < p.ns.length := by
      rcases Nat.lt_or_ge i p.ns.length with q | q
      · exact q
      · rw [List.getElem?_eq_none (by simpa using q)] at hR; cases hR
    rw [List.getElem?_map, List.getElem?_eq_getElem hi] at hR
    obtain rfl : isS p.ns[i] = R := by simpa using hR
    have g3 := g12.trans (g'.trans (Gw.up0 g'.ok gr3))
    have rf3 : (lstR ((lettersP (p.ns.take i) p.ps).map lttR)).p f G3 := Rel.mo _ gr3.g rf
    have et : lettersP (p.ns.take (i + 1)) p.ps = lettersP (p.ns.take i) p.ps ++ (List.range p.ps.length).map fun b => (p.ns[i], b) := by
      rw [List.take_succ, List.getElem?_eq_getElem hi]
      unfold lettersP
      show List.flatMap _ (p.ns.take i ++ [p.ns[i]]) = _
      rw [List.flatMap_append]
      simp
    have hl : (lettersP (p.ns.take i) p.ps).length ≤ 36 := by
      rw [lens, List.length_take]
      exact Nat.mul_le_mul (Nat.le_trans (Nat.min_le_right _ _) n6) p6
    show RunS X _ _ [some v1, some f, some u, none] H3
    refine st_set S 1 g3.ok (jcatL (nm S 1 rf3) (slc S 3 (List.range p.ps.length) isN (fun b => lttR (p.ns[i], b)) (jiRange v.b.range (S.gl _ rfl) ((vlenT v (jixT (nm S 0 (mv g3 r1')) jint at1)).eq (by rw [List.length_map])) (by omega)) (by rw [List.length_range]; omega) fun b u4 G4 H4 hb g4 r4 X' B => jtup (ja (nb B.S 2 (mv g4 r)) (ja (nb B.S 3 r4) ja0)) (by simp)) (by simp; omega)) fun u4 G4 H4 g4 q4 => st0 ⟨G4, (g'.trans (Gw.up0 g'.ok gr3)).trans g4, u4, some u, rfl, ?_⟩
    rw [et, List.map_append, List.map_map]
    exact q4
  · rintro σ' G' H' ⟨g', f, x, rfl, rf⟩
    rw [List.length_map, List.take_length] at rf
    exact st_ret g'.ok (nm S 1 rf) fun u G3 H3 g3 r => k u G3 H3 ((g12.trans g').trans g3) r
end Lp
/-! ## D18 -/
set_option Elab.async false
set_option linter.all false
set_option maxRecDepth 100000
set_option maxHeartbeats 2000000
/-! The law: orders. -/
namespace Lp
open PySem PySem.Spec PyProof.Rows L2
variable {P : Program} {w : World} {K : PySem.W.Frag} {mg : Str → Option Value} {base : Heap} {HC SC LC TC : Addr}
def goodP (ps : List Str) (n : Str) : List Nat := (List.range ps.length).filter fun b => goesP (ps.getD b "") n
def extP (good some : List Nat) : List (List Nat) := (good.filter fun b => !decide (b ∈ some)).map fun b => some ++ [b]
def signedP (ps : List Str) : List Nat := (List.range ps.length).filter fun b => !decide (ps.getD b "" = "")
def growP (ps : List Str) (found : List (List Nat)) (n : Str) : List (List Nat) := found.flatMap (extP (goodP ps n))
def ordersP (ns ps : List Str) : List (List Nat) := (ns.foldl (growP ps) [[]]).filter fun s => ((signedP ps).filter fun b => !decide (b ∈ s)).isEmpty
theorem extP_len {g s : List Nat} : (extP g s).length ≤ g.length := by unfold extP; rw [List.length_map]; exact List.length_filter_le _ _
theorem goodP_len {ps : List Str} {n : Str} : (goodP ps n).length ≤ ps.length := by
  unfold goodP
  exact Nat.le_trans (List.length_filter_le _ _) (by rw [List.length_range]; exact Nat.le_refl _)
theorem flat_len {α β : Type} {f : α → List β} {m : Nat} (h : ∀ x, (f x).length ≤ m) : ∀ l : List α, (l.flatMap f).length ≤ l.length * m
  | [] => by simp
  | x :: l => by
    rw [List.flatMap_cons, List.length_append, List.length_cons, Nat.add_mul]
    have := flat_len h l
    have := h x
    omega
theorem growP_len {ps : List Str} {found : List (List Nat)} {n : Str} (h : ps.length ≤ 6) : (growP ps found n).length ≤ found.length * 6 := flat_len (fun x => Nat.le_trans extP_len (Nat.le_trans goodP_len h)) _
theorem fold_len {ps : List Str} (h : ps.length ≤ 6) : ∀ (ns : List Str) (f : List (List Nat)) (k : Nat), f.length ≤ 6 ^ k → (ns.foldl (growP ps) f).length ≤ 6 ^ (k + ns.length)
  | [], f, k, hf => hf
  | n :: ns, f, k, hf => by
    have h1 : (growP ps f n).length ≤ 6 ^ (k + 1) := by
      rw [Nat.pow_succ]
      exact Nat.le_trans (growP_len h) (Nat.mul_le_mul_right 6 hf)
    have := fold_len h ns (growP ps f n) (k + 1) h1
    show (ns.foldl (growP ps) (growP ps f n)).length ≤ _
    rw [List.length_cons, show k + (ns.length + 1) = k + 1 + ns.length by omega]
    exact this
theorem fold_mem {ps : List Str} : ∀ (ns : List Str) (f : List (List Nat)) (k : Nat), (∀ s ∈ f, s.length = k) → ∀ s ∈ ns.foldl (growP ps) f, s.length = k + ns.length
  | [], f, k, hf => hf
  | n :: ns, f, k, hf => by
    have h1 : ∀ s ∈ growP ps f n, s.length = k + 1 := fun s hs => by
      obtain ⟨t, ht, h2⟩ := List.mem_flatMap.mp hs
      obtain ⟨b, _, e⟩ := List.mem_map.mp h2
      rw [← e, List.length_append, hf t ht]
      rfl
    have := fold_mem (ps := ps) ns (growP ps f n) (k + 1) h1
    show ∀ s ∈ ns.foldl (growP ps) (growP ps f n), s.length = k + (ns.length + 1)
    rw [show k + (ns.length + 1) = k + 1 + ns.length by omega]
    exact this
theorem pow66 {n : Nat} (h : n ≤ 6) : 6 ^ n ≤ 46656 := Nat.pow_le_pow_right (by decide : 0 < 6) h
theorem kn_orders (T : Txt K mg w HC SC LC TC) : Kn P w K mg base 2 "_law_orders" (spP (fun p : Pn => PnOk p) (fun p => [pnR p]) (fun p => lstR ((ordersP p.ns p.ps).map ordR))) := by
  refine kn_body T.orders sc_law_orders lo_law_orders (fun _ => rfl) ?_
  rintro X S rfl rfl rfl rfl rfl hx hr vs G H Q p s ok pr k
  obtain ⟨v1, rfl, r1⟩ := PR.one pr
  have v := S.vw T.b hr
  have n6 := ok.ok.n.l6
  have p6 := ok.ok.p.l6
  have r1' : (tupR [tupR (p.ns.map isS), tupR (p.ps.map isS), dctR (waysD p.ns p.ms), ordR p.o]).p v1 G := r1
  have emp : (lstR [tupR []]) = lstR (([[]] : List (List Nat)).map ordR) := rfl
  refine st_par S 1 2 s (ja ((vlenT v (jixT (nm S 0 r1') jint at1)).eq (by rw [List.length_map])) (ja ((jlst (ja (jtup ja0 (Nat.zero_le _)) ja0) (by simp)).eq emp) ja0)) fun u1 u2 G1 H1 g1 q1 q2 => ?_
  have hps : ∀ b, b < p.ps.length → p.ps[b]? = some (p.ps.getD b "") := fun b hb => by rw [List.getD_eq_getElem?_getD, List.getElem?_eq_getElem hb]; rfl
  refine st_for (p.ns.map isS) g1.ok S.calm hx (jiT (jixT (nm S 0 (mv g1 r1')) jint at0)) (S.pg 3) fun G2 H2 g2 => ?_
  have g12 := g1.trans g2
  refine ⟨fun i σ' G' H' => Gw pureM G2 H2 G' H' ∧ ∃ f a b c d, σ' = [some v1, some u1, some f, a, b, c, d, none, none] ∧ (lstR (((p.ns.take i).foldl (growP p.ps) [[]]).map ordR)).p f G', ⟨g2.rf, u2, none, none, none, none, rfl, mv g2 q2⟩, fun i σ' G' H' h => ⟨h.1.g, h.1.s⟩, ?_, ?_⟩
  · rintro i R u σ' G' H' G3 H3 hR ⟨g', f, a, b, c, d, rfl, rf⟩ gr3 r
    have hi : i < p.ns.length := by
      rcases Nat.lt_or_ge i p.ns.length with q | q
      · exact q
      · rw [List.getElem?_eq_none (by simpa using q)] at hR; cases hR
    rw [List.getElem?_map, List.getElem?_eq_getElem hi] at hR
    obtain rfl : isS p.ns[i] = R := by simpa using hR
    have g23 := g'.trans (Gw.up0 g'.ok gr3)
    have g3 := g12.trans g23
    have rf3 : (lstR (((p.ns.take i).foldl (growP p.ps) [[]]).map ordR)).p f G3 := Rel.mo _ gr3.g rf
    have et : (p.ns.take (i + 1)).foldl (growP p.ps) [[]] = growP p.ps ((p.ns.take i).foldl (growP p.ps) [[]]) p.ns[i] := by
      rw [List.take_succ, List.getElem?_eq_getElem hi]
      show List.foldl _ _ (p.ns.take i ++ [p.ns[i]]) = _
      rw [List.foldl_append]
      rfl
    have hfl : ((p.ns.take i).foldl (growP p.ps) [[]]).length ≤ 7776 := by
      have h1 := fold_len p6 (p.ns.take i) [[]] 0 (by simp)
      have h2 : (p.ns.take i).length ≤ 5 := by rw [List.length_take]; omega
      have h3 : 6 ^ (0 + (p.ns.take i).length) ≤ 6 ^ 5 := Nat.pow_le_pow_right (by decide) (by omega)
      have h4 : (6 : Nat) ^ 5 = 7776 := by decide
      omega
    have hn8 : p.ns[i].length ≤ 8 := (ok.ok.n.txt _ (List.getElem_mem hi)).2.1
    dsimp only
    rw [et]
    have hml : ∀ t ∈ (p.ns.take i).foldl (growP p.ps) [[]], t.length ≤ 6 := fun t ht => by
      have := fold_mem (ps := p.ps) (p.ns.take i) [[]] 0 (fun s hs => by rw [List.mem_singleton.mp hs]; rfl) t ht
      rw [this, List.length_take]
      omega
    generalize (p.ns.take i).foldl (growP p.ps) [[]] = fs at rf3 hfl hml
    generalize p.ns[i] = n at r hn8
    show RunS X _ _ [some v1, some u1, some f, some u, b, c, d, none, none] H3
    have u1r : (isN p.ps.length).p u1 G1 := q1
    refine st_par S 4 5 g3.ok (ja (jlst ja0 (Nat.zero_le _)) (ja (R := lstR ((goodP p.ps n).map isN)) (slci S 8 (List.range p.ps.length) isN (fun b => goesP (p.ps.getD b "") n) isN (jiRange v.b.range (S.gl _ rfl) (nm S 1 (mv (g2.trans g23) u1r)) (by omega)) (by rw [List.length_range]; omega) (fun b w G4 H4 hb g4 rb X' B => ?_) (fun b w G4 H4 hb _ g4 rb X' B => nb B.S 8 rb)) ja0)) fun w1 w2 G4 H4 g4 q4 q5 => ?_
    · have hb' := List.mem_range.mp hb
      have hp8 : (p.ps.getD b "").length ≤ 8 := by
        rw [List.getD_eq_getElem?_getD, List.getElem?_eq_getElem hb']
        exact okT_len (ok.ok.p.txt _ (List.getElem_mem hb'))
      exact jtval (jcall (kn_goes (B.txt T)) (B.S.gl _ rfl) (B.room (hr.mono (by decide))) (p.ps.getD b "", n) ⟨show (p.ps.getD b "").length ≤ 100 by omega, show n.length ≤ 100 by omega⟩ (ja (jixN (jixT (nb B.S 0 (mv (g3.trans g4) r1')) jint at1) (nb B.S 8 rb) (hps b hb')) (ja (nb B.S 3 (mv g4 r)) ja0)))
    · have g34 := g3.trans g4
      show RunS X _ _ [some v1, some u1, some f, some u, some w1, some w2, d, none, none] H4
      have hgl : (goodP p.ps n).length ≤ 6 := Nat.le_trans goodP_len p6
      refine st_for (fs.map ordR) g4.ok S.calm hx (jiL (nm S 2 (mv g4 rf3))) (S.pg 6) fun G5 H5 g5 => ?_
      have g35 := g34.trans g5
      refine ⟨fun j σ' G' H' => Gw pureM G5 H5 G' H' ∧ ∃ l d, σ' = [some v1, some u1, some f, some u, some l, some w2, d, none, none] ∧ (lstR (((fs.take j).flatMap (extP (goodP p.ps n))).map ordR)).p l G', ⟨g5.rf, w1, d, rfl, mv g5 q4⟩, fun i σ' G' H' h => ⟨h.1.g, h.1.s⟩, ?_, ?_⟩
      · rintro j R2 u2' σ2 G6 H6 G7 H7 hR2 ⟨g6, l, d2, rfl, rl⟩ gr7 r7
        have hj : j < fs.length := by
          rcases Nat.lt_or_ge j fs.length with q | q
          · exact q
          · rw [List.getElem?_eq_none (by simpa using q)] at hR2; cases hR2
        rw [List.getElem?_map, List.getElem?_eq_getElem hj] at hR2
        obtain rfl : ordR fs[j] = R2 := by simpa using hR2
        have g57 := g6.trans (Gw.up0 g6.ok gr7)
        have g37 := g35.trans g57
        have rl7 : (lstR (((fs.take j).flatMap (extP (goodP p.ps n))).map ordR)).p l G7 := Rel.mo _ gr7.g rl
        have ej : (fs.take (j + 1)).flatMap (extP (goodP p.ps n)) = (fs.take j).flatMap (extP (goodP p.ps n)) ++ extP (goodP p.ps n) fs[j] := by
          rw [List.take_succ, List.getElem?_eq_getElem hj]
          show List.flatMap _ (fs.take j ++ [fs[j]]) = _
          rw [List.flatMap_append]
          simp
        have hll : ((fs.take j).flatMap (extP (goodP p.ps n))).length ≤ 46656 := by
          have h1 := flat_len (f := extP (goodP p.ps n)) (m := 6) (fun x => Nat.le_trans extP_len hgl) (fs.take j)
          have h2 : (fs.take j).length ≤ 7776 := by rw [List.length_take]; omega
          omega
        dsimp only
        rw [ej]
        have hsl : fs[j].length ≤ 6 := hml _ (List.getElem_mem hj)
        generalize fs[j] = sm at r7 hsl
        show RunS X _ _ [some v1, some u1, some f, some u, some l, some w2, some u2', none, none] H7
        refine st_set S 4 g37.ok (R := lstR ((((fs.take j).flatMap (extP (goodP p.ps n))) ++ extP (goodP p.ps n) sm).map ordR)) (J.eq (R := lstR ((((fs.take j).flatMap (extP (goodP p.ps n))).map ordR) ++ (((goodP p.ps n).filter fun b => !decide (b ∈ sm)).map fun b => ordR (sm ++ [b])))) (jcatL (nm S 4 rl7) (slci S 8 (goodP p.ps n) isN (fun b => !decide (b ∈ sm)) (fun b => ordR (sm ++ [b])) (jiL (nm S 5 (mv (g5.trans g57) q5))) (by omega) (fun b w G8 H8 hb g8 rb X' B => jtcmp op_notIn_seq (nb B.S 8 rb) (nb B.S 6 (mv g8 r7)) tw_ninN) (fun b w G8 H8 hb _ g8 rb X' B => (jcatT (nb B.S 6 (mv g8 r7)) (jtup (ja (nb B.S 8 rb) ja0) (by simp)) (by simp; omega)).eq (show tupR (sm.map isN ++ [isN b]) = tupR ((sm ++ [b]).map isN) by rw [List.map_append]; rfl))) ?_) ?_) fun w8 G8 H8 g8 q8 => st0 ⟨G8, g57.trans g8, w8, some u2', rfl, q8⟩
        · have : ((goodP p.ps n).filter fun b => !decide (b ∈ sm)).length ≤ 6 := Nat.le_trans (List.length_filter_le _ _) hgl
          simp only [List.length_map]
          omega
        · rw [List.map_append]
          unfold extP
          rw [List.map_map]
          rfl
      · rintro σ2 G6 H6 ⟨g6, l, d2, rfl, rl⟩
        rw [List.length_map, List.take_length] at rl
        have g36 := g35.trans g6
        refine st_set S 2 g36.ok (nm S 4 rl) fun w9 G9 H9 g9 q9 => st0 ⟨G9, ?_, w9, some u, some l, some w2, d2, rfl, q9⟩
        exact g23.trans (g4.trans (g5.trans (g6.trans g9)))
  · rintro σ' G' H' ⟨g', f, a, b, c, d, rfl, rf⟩
    rw [List.length_map, List.take_length] at rf
    have g3 := g12.trans g'
    have hfl : (p.ns.foldl (growP p.ps) [[]]).length ≤ 46656 := by
      have h1 := fold_len p6 p.ns [[]] 0 (by simp)
      have h2 := pow66 n6
      rw [Nat.zero_add] at h1
      omega
    have u1r : (isN p.ps.length).p u1 G1 := q1
    refine st_set S 7 g3.ok (R := lstR ((signedP p.ps).map isN)) (slci S 8 (List.range p.ps.length) isN (fun b => !decide (p.ps.getD b "" = "")) isN (jiRange v.b.range (S.gl _ rfl) (nm S 1 (mv (g2.trans g') u1r)) (by omega)) (by rw [List.length_range]; omega) (fun b w G4 H4 hb g4 rb X' B => ?_) (fun b w G4 H4 hb _ g4 rb X' B => nb B.S 8 rb)) (hs := (swaps_eq S.sce).trans (by rfl)) fun w1 G4 H4 g4 q4 => ?_
    · refine JT.eq (jtcmp op_ne (jixN (jixT (nb B.S 0 (mv (g3.trans g4) r1')) jint at1) (nb B.S 8 rb) (hps b (List.mem_range.mp hb))) jstr (tw_ne rfl)) ?_
      congr 1
      by_cases e : p.ps.getD b "" = ""
      · rw [decide_eq_true e, decide_eq_true (by rw [e])]
      · rw [decide_eq_false e, decide_eq_false (fun q => e (V.str.inj q))]
    · have hsl : (signedP p.ps).length ≤ 6 := Nat.le_trans (List.length_filter_le _ _) (by rw [List.length_range]; exact p6)
      refine st_ret g4.ok (R := lstR ((ordersP p.ns p.ps).map ordR)) (slci S 6 (p.ns.foldl (growP p.ps) [[]]) ordR (fun s => ((signedP p.ps).filter fun b => !decide (b ∈ s)).isEmpty) ordR (jiL (nm S 2 (mv g4 rf))) (by omega) (fun sm w G5 H5 hsm g5 rs X' B => ?_) (fun sm w G5 H5 hsm _ g5 rs X' B => nb B.S 6 rs)) fun u G5 H5 g5 r => k u G5 H5 ((g3.trans g4).trans g5) r
      refine JT.eq (jtcmp (op_eq0 (by have := (B.room hr).un; omega)) (bslci B 8 (signedP p.ps) isN (fun b => !decide (b ∈ sm)) isN (jiL (nb B.S 7 (mv g5 q4))) (by omega) (fun b w2 G6 H6 hb g6 rb X2 B2 => jtcmp op_notIn_seq (nb B2.S 8 rb) (nb B2.S 6 (mv g6 rs)) tw_ninN) (fun b w2 G6 H6 hb _ g6 rb X2 B2 => nb B2.S 8 rb)) (jlst ja0 (Nat.zero_le _)) tw_eq0) ?_
      cases (signedP p.ps).filter fun b => !decide (b ∈ sm) <;> rfl
end Lp
/-! ## D19 -/
set_option Elab.async false
set_option linter.all false
set_option maxRecDepth 100000
set_option maxHeartbeats 2000000
/-! The law: a letter's way; a built house. -/
namespace Lp
open PySem PySem.Spec PyProof.Rows L2
variable {P : Program} {w : World} {K : PySem.W.Frag} {mg : Str → Option Value} {base : Heap} {HC SC LC TC : Addr}
theorem filter_one {i : Nat} : ∀ n : Nat, (List.range n).filter (fun k => decide (k = i)) = if i < n then [i] else []
  | 0 => by simp
  | n + 1 => by
    rw [List.range_succ, List.filter_append, filter_one n]
    by_cases h : i < n
    · rw [if_pos h, if_pos (by omega)]
      have : ¬ n = i := by omega
      simp [this]
    · rw [if_neg h]
      by_cases h2 : n = i
      · subst h2; simp
      · rw [if_neg (by omega)]
        simp [h2]
theorem filter_here {o : List Nat} {b : Nat} (hd : o.Nodup) : (List.range o.length).filter (fun k => decide (V.int ((o.getD k 0 : Nat) : Int) = V.int (b : Int))) = if b ∈ o then [o.idxOf b] else [] := by
  have e : ∀ k ∈ List.range o.length, decide (V.int ((o.getD k 0 : Nat) : Int) = V.int (b : Int)) = (if b ∈ o then decide (k = o.idxOf b) else false) := fun k hk => by
    have hk' := List.mem_range.mp hk
    have ek : o.getD k 0 = o[k] := by rw [List.getD_eq_getElem?_getD, List.getElem?_eq_getElem hk']; rfl
    rw [ek]
    by_cases h : b ∈ o
    · rw [if_pos h]
      have hl := List.idxOf_lt_length_of_mem h
      by_cases q : k = o.idxOf b
      · rw [decide_eq_true q]
        have : o[k] = b := by subst q; exact List.getElem_idxOf hl
        rw [this]; simp
      · rw [decide_eq_false q]
        refine decide_eq_false fun z => q ?_
        have z' : o[k] = b := Int.ofNat.inj (V.int.inj z)
        exact (List.getElem_inj hd).mp (z'.trans (List.getElem_idxOf hl).symm)
    · rw [if_neg h]
      refine decide_eq_false fun z => h ?_
      have z' : o[k] = b := Int.ofNat.inj (V.int.inj z)
      rw [← z']
      exact List.getElem_mem hk'
  rw [List.filter_congr e]
  by_cases h : b ∈ o
  · simp only [if_pos h]
    rw [filter_one, if_pos (List.idxOf_lt_length_of_mem h)]
  · simp only [if_neg h]
    simp
theorem eqD_word (m : Mn) (z : Str) : PyData.eqv (mnD m) (.str z) = (match m with | .back => sBack == z | .keep => sKeep == z | .seat _ => false) := by
  cases m with
  | back => simp [mnD, PyData.eqv]
  | keep => simp [mnD, PyData.eqv]
  | seat l => simp [mnD, PyData.eqv]
def glD (go : Option Nat) (here : Nat) : Gl2 := match go with
  | none => .back
  | some g => if g = here then .back else .to g
theorem kn_way (T : Txt K mg w HC SC LC TC) : Kn P w K mg base 1 "_law_way" (spP (fun i : Pn × Str × Nat => PnOk i.1 ∧ i.2.1 ∈ i.1.ns ∧ i.2.2 < i.1.ps.length) (fun i => [pnR i.1, ordR i.1.o, isS i.2.1, isN i.2.2])
    (fun i => tupR [ordR (wayP i.1.ns i.1.ms i.1.o i.2.1 i.2.2).1, isS (wayP i.1.ns i.1.ms i.1.o i.2.1 i.2.2).2])) := by
  refine kn_body T.way sc_law_way lo_law_way (fun _ => rfl) ?_
  rintro X S rfl rfl rfl rfl rfl hx hr vs G H Q ⟨p, n, b⟩ s ⟨pok, hn, hb⟩ pr k
  obtain ⟨v1, v2, v3, v4, rfl, r1, r2, r3, r4⟩ := PR.four pr
  have v := S.vw T.b hr
  have ok : OkH p.ns p.ps p.ms := pok.ok
  have oo : OkO p.ns.length p.ps.length p.o := pok.oo
  have ol : p.o.length = p.ns.length := oo.len
  have n6 : p.ns.length ≤ 6 := ok.n.l6
  have p6 : p.ps.length ≤ 6 := ok.p.l6
  have hml : p.ms.length = p.ns.length := ok.ml
  have hd := asc_nodup ok.n.asc
  have hn' : n ∈ p.ns := hn
  have hb' : b < p.ps.length := hb
  have r1' : (tupR [tupR (p.ns.map isS), tupR (p.ps.map isS), dctR (waysD p.ns p.ms), ordR p.o]).p v1 G := r1
  have r2' : (ordR p.o).p v2 G := r2
  have hni := List.idxOf_lt_length_of_mem hn'
  have hu : X.A.units + 64 < cLine := by have := hr.un; omega
  have k0 : ∀ u G' H', Gw pureM G H G' H' → (tupR [ordR (wayP p.ns p.ms p.o n b).1, isS (wayP p.ns p.ms p.o n b).2]).p u G' → Q u H' := k
  refine st (ps_set (i := 4) S.nd (by rw [S.hN]; rfl) (S.loc _ (by simp)) sE rfl (.inl (S.fn _))) (glst s (ja (nm S 3 r4) ja0) (by simp) fun vs0 u G1 H1 g1 pr1 hul => ?_)
  show RunS X _ _ [some v1, some v2, some v3, some v4, some (.ref u), none, none, none, none, none, none] (upd H1 u (.lst vs0))
  have n1 : G1 u = none := sub_none g1.s hul
  have hu0 : H u = none := g1.to0.H.free hul
  have gA := g1.trans (g1.raw (o := .lst vs0) hul)
  refine st_for ((List.range 9).map isN) gA.ok S.calm hx (jiRange v.b.range (S.gl _ rfl) (jint (i := 9)) (by decide)) (S.pg 5) fun G2 H2 g2 => ?_
  have g02 := gA.trans g2
  let Pv : Nat → L2.St → Hp → Hp → Prop := fun i σ' G' H' => ∃ vs pre here a c d e f, σ' = [some v1, some v2, some v3, some v4, some (.ref u), a, c, d, e, f, none] ∧ Gw pureM G H G' H' ∧ Same G2 G' ∧ H' u = some (.lst vs) ∧ G' u = none ∧ PR G' vs ((pre ++ [here]).map isN) ∧ (pre ++ [here]).Nodup ∧
    (∀ t ∈ pre ++ [here], t < p.ps.length) ∧ wayF p.ns p.ms p.o n (9 - i) (pre ++ [here]) here = wayP p.ns p.ms p.o n b
  refine ⟨Pv, ⟨vs0, [], b, none, none, none, none, none, rfl, g02, Same.refl _, g2.to0.H _ _ upd_same, g2.out upd_same n1, PR.mo g2.g pr1, by simp, fun t ht => by simp at ht; omega, rfl⟩, fun i σ' G' H' ⟨_, _, _, _, _, _, _, _, _, h1, h2, _⟩ => ⟨h2, h1.s⟩, ?_, ?_⟩
  · rintro i R w5 σ' G' H' G3 H3 hR ⟨vs, pre, here, a, c, d, e, f, rfl, g', sg, hl, nu, prv, hnd, hlt, hres⟩ gr3 r
    have hi : i < 9 := by
      rcases Nat.lt_or_ge i 9 with q | q
      · exact q
      · rw [List.getElem?_eq_none (by simpa using q)] at hR; cases hR
    have hlen := nodup_small hnd hlt
    obtain ⟨f', hf'⟩ : ∃ f', 9 - i = f' + 1 := ⟨9 - i - 1, by omega⟩
    have hf2 : 9 - (i + 1) = f' := by omega
    rw [hf'] at hres
    have g3 := g'.trans (Gw.up0 g'.ok gr3)
    have hl3 := gr3.H _ _ hl
    have nu3 := gr3.out hl nu
    have pr3 := PR.mo gr3.g prv
    show RunS X _ _ [some v1, some v2, some v3, some v4, some (.ref u), some w5, c, d, e, f, none] H3
    refine st_set S 6 g3.ok (rixL (isL_raw hl3 (fun h => h) pr3) (nm S 4 rfl) (jneg jint) (atI_map (f := isN) atI_last)) fun w6 G4 H4 g4 r6 => ?_
    have g04 := g3.trans g4
    have hl4 := g4.to0.H _ _ hl3
    have nu4 := g4.out hl3 nu3
    have pr4 := PR.mo g4.g pr3
    have ek : ∀ kk, kk < p.o.length → p.o[kk]? = some (p.o.getD kk 0) := fun kk h => by rw [List.getD_eq_getElem?_getD, List.getElem?_eq_getElem h]; rfl
    have en : ∀ kk, kk < p.ns.length → p.ns[kk]? = some (p.ns.getD kk "") := fun kk h => by rw [List.getD_eq_getElem?_getD, List.getElem?_eq_getElem h]; rfl
    have retW : ∀ {wd : Str} u' G6 H6, Gw pureM G H G6 H6 → wayP p.ns p.ms p.o n b = (pre ++ [here], wd) → (tupR [tupR ((pre ++ [here]).map isN), isS wd]).p u' G6 → Q u' H6 := fun u' G6 H6 g6 e r => k0 u' G6 H6 g6 (by rw [e]; exact r)
    show RunS X _ _ [some v1, some v2, some v3, some v4, some (.ref u), some w5, some w6, d, e, f, none] H4
    refine st_set S 7 g4.ok (R := optS (ownerP p.ns p.o here)) (J.eq (R := optS (ownerP p.ns p.o here)) (jixL (R := optS (ownerP p.ns p.o here)) (Rs := (((List.range p.o.length).filter (fun kk => decide (V.int ((p.o.getD kk 0 : Nat) : Int) = V.int (here : Int)))).map fun kk => isS (p.ns.getD kk "")) ++ [isO]) (jcatL (slci S 10 (List.range p.o.length) isN (fun kk => decide (V.int ((p.o.getD kk 0 : Nat) : Int) = V.int (here : Int))) (fun kk => isS (p.ns.getD kk "")) (jiRange v.b.range (S.gl _ rfl) ((vlenT v (nm S 1 (mv g04 r2'))).eq (by rw [List.length_map])) (by omega)) (by rw [List.length_range]; omega)
      (fun kk w7 G5 H5 hk g5 rk X' B => jtcmp op_eq (jixN (nb B.S 1 (mv (g04.trans g5) r2')) (nb B.S 10 rk) (ek kk (List.mem_range.mp hk))) (nb B.S 6 (mv g5 r6)) (tw_eq rfl)) (fun kk w7 G5 H5 hk _ g5 rk X' B => jixN (jixT (nb B.S 0 (mv (g04.trans g5) r1')) jint at0) (nb B.S 10 rk) (en kk (by have := List.mem_range.mp hk; omega)))) (jlst (ja jnon ja0) (by simp)) ?_) jint ?_) rfl) fun w7 G5 H5 g5 r7 => ?_
    · have : ((List.range p.o.length).filter fun kk => decide (V.int ((p.o.getD kk 0 : Nat) : Int) = V.int (here : Int))).length ≤ 6 := Nat.le_trans (List.length_filter_le _ _) (by rw [List.length_range]; omega)
      simp only [List.length_map, List.length_cons, List.length_nil]
      omega
    · rw [filter_here oo.nd]
      unfold ownerP
      by_cases h : here ∈ p.o
      · rw [if_pos h, if_pos h]
        exact at0
      · rw [if_neg h, if_neg h]
        exact at0
    have g05 := g04.trans g5
    have hl5 := g5.to0.H _ _ hl4
    have nu5 := g5.out hl4 nu4
    have pr5 := PR.mo g5.g pr4
    have r6' : (isN here).p w6 G5 := mv g5 r6
    show RunS X _ _ [some v1, some v2, some v3, some v4, some (.ref u), some w5, some w6, some w7, e, f, none] H5
    by_cases hio : here ∈ p.o
    · have hix : p.o.idxOf here < p.ns.length := by have := List.idxOf_lt_length_of_mem hio; omega
      have eo : ownerP p.ns p.o here = some (p.ns.getD (p.o.idxOf here) "") := by unfold ownerP; rw [if_pos hio]
      have eg : p.ns.getD (p.o.idxOf here) "" = p.ns[p.o.idxOf here] := by rw [List.getD_eq_getElem?_getD, List.getElem?_eq_getElem hix]; rfl
      have em : p.ms.getD (p.o.idxOf here) .back = p.ms[p.o.idxOf here]'(by omega) := by rw [List.getD_eq_getElem?_getD, List.getElem?_eq_getElem (by omega)]; rfl
      have r7' : (isS (p.ns.getD (p.o.idxOf here) "")).p w7 G5 := by rw [eo] at r7; exact r7
      have r7s : (isS p.ns[p.o.idxOf here]).p w7 G5 := by rw [← eg]; exact r7'
      have okm := ok.m _ (getD_mem (ms := p.ms) (i := p.o.idxOf here) (by omega))
      refine st_set S 8 g5.ok (R := mnR (p.ms.getD (p.o.idxOf here) .back)) (jif (t := false) (JT.eq (jtcmp op_isN (nm S 7 r7') jnon tw_isN) (by simp)) (fun z => nomatch z) fun _ => (vixD v (jixT (nm S 0 (mv g05 r1')) jint at2) (nm S 7 r7s) (waysD_at hd hml hix)).eq (by rw [em])) fun w8 G6 H6 g6 r8 => ?_
      have g06 := g05.trans g6
      have hl6 := g6.to0.H _ _ hl5
      have nu6 := g6.out hl5 nu5
      have pr6 := PR.mo g6.g pr5
      show RunS X _ _ [some v1, some v2, some v3, some v4, some (.ref u), some w5, some w6, some w7, some w8, f, none] H6
      refine st_ifr g6.ok (t := decide (V.str (p.ns.getD (p.o.idxOf here) "") = V.str n)) (jtcmp op_eq (nm S 7 (mv g6 r7')) (nm S 2 (mv g06 r3)) (tw_eq rfl)) (fun _ => jtup (ja (rtupL v (isL_raw hl6 (fun h => h) pr6) (nm S 4 rfl)) (ja jstr ja0)) (by simp)) (fun t u' G7 H7 g7 r => retW (wd := sKept) u' G7 H7 (g06.trans g7) ?_ r) fun t G7 H7 g7 => ?_
      · have e1 : p.ns.getD (p.o.idxOf here) "" = n := V.str.inj (of_decide_eq_true t)
        rw [← hres]
        simp only [wayF]
        rw [if_pos hio, if_pos e1]
      have e1 : ¬ p.ns.getD (p.o.idxOf here) "" = n := fun q => of_decide_eq_false t (congrArg V.str q)
      have hres2 : (match handedP (p.ms.getD (p.o.idxOf here) .back) (p.ns.idxOf n) here with | .back => (pre ++ [here], sBack) | .keep => (pre ++ [here], sLies) | .to g => if g ∈ pre ++ [here] then (pre ++ [here], sRound) else wayF p.ns p.ms p.o n f' ((pre ++ [here]) ++ [g]) g) = wayP p.ns p.ms p.o n b := by
        rw [← hres]
        conv => rhs; unfold wayF
        rw [if_pos hio, if_neg e1]
        all_goals (cases handedP (p.ms.getD (p.o.idxOf here) .back) (p.ns.idxOf n) here <;> rfl)
      have hlt' : ∀ g, handedP (p.ms.getD (p.o.idxOf here) .back) (p.ns.idxOf n) here = .to g → g < p.ps.length := fun g e => handed_lt ok hix e
      have g07 := g06.trans g7
      have hl7 := g7.to0.H _ _ hl6
      have nu7 := g7.out hl6 nu6
      have pr7 := PR.mo g7.g pr6
      have r8' : (mnR (p.ms.getD (p.o.idxOf here) .back)).p w8 G7 := mv g7 r8
      have r67 : (isN here).p w6 G7 := mv (g6.trans g7) r6'
      generalize p.ms.getD (p.o.idxOf here) .back = m at r8' hres2 hlt' okm
      refine st_ifr g7.ok (t := PyData.eqv (mnD m) (.str "keep")) (jtcmp (op_eqD hu) (nm S 8 r8') jstr (tw_eqD (dat_mn m) dat_str ((pd_mn m).sh (by decide)) ((Pd.str (by decide +kernel)).sh (by decide)))) (fun _ => jtup (ja (rtupL v (isL_raw hl7 (fun h => h) pr7) (nm S 4 rfl)) (ja jstr ja0)) (by simp)) (fun t u' G8 H8 g8 r => retW (wd := sLies) u' G8 H8 (g07.trans g8) ?_ r) fun t G8 H8 g8 => ?_
      · rw [eqD_word] at t
        cases m with
        | back => exact absurd t (by decide +kernel)
        | keep => exact hres2.symm
        | seat l => cases t
      have g08 := g07.trans g8
      have hl8 := g8.to0.H _ _ hl7
      have nu8 := g8.out hl7 nu7
      have pr8 := PR.mo g8.g pr7
      have r88 : (mnR m).p w8 G8 := mv g8 r8'
      have r68 : (isN here).p w6 G8 := mv g8 r67
      rw [eqD_word] at t
      -- the goal
      have eb : ∀ m : Mn, PyData.eqv (mnD m) (.str "back") = (match m with | .back => true | _ => false) := fun m => by
        rw [eqD_word]
        cases m with
        | back => decide +kernel
        | keep => decide +kernel
        | seat l => rfl
      let gl : Option Nat := match m with | .seat l => l.getD (p.ns.idxOf n) none | _ => none
      refine st_set S 9 g8.ok (R := optR gl) (jif (t := PyData.eqv (mnD m) (.str "back")) (jtcmp (op_eqD hu) (nm S 8 r88) jstr (tw_eqD (dat_mn m) dat_str ((pd_mn m).sh (by decide)) ((Pd.str (by decide +kernel)).sh (by decide)))) (fun z => ?_) fun z => ?_) fun w9 G9 H9 g9 r9 => ?_
      · rw [eb] at z
        cases m with
        | back => exact jnon
        | keep => cases z
        | seat l => cases z
      · rw [eb] at z
        cases m with
        | back => cases z
        | keep => exact absurd t (by decide +kernel)
        | seat l =>
          obtain ⟨hl2, hb2⟩ := (show l.length = p.ns.length ∧ ∀ b, some b ∈ l → b < p.ps.length from okm)
          exact jixN (show J pureM X _ _ G8 H8 (tupR (l.map optR)) from nm S 8 r88) (vtixS hn' (jixT (nm S 0 (mv g08 r1')) jint at0) (nm S 2 (mv g08 r3))) (show l[p.ns.idxOf n]? = some (l.getD (p.ns.idxOf n) none) by rw [List.getD_eq_getElem?_getD, List.getElem?_eq_getElem (by omega)]; rfl)
      have g09 := g08.trans g9
      have hl9 := g9.to0.H _ _ hl8
      have nu9 := g9.out hl8 nu8
      have pr9 := PR.mo g9.g pr8
      have r69 : (isN here).p w6 G9 := mv g9 r68
      have hgl : handedP m (p.ns.idxOf n) here = glD gl here := by
        cases m with
        | back => rfl
        | keep => exact absurd t (by decide +kernel)
        | seat l =>
          have eg2 : gl = l.getD (p.ns.idxOf n) none := rfl
          rw [eg2]
          unfold handedP glD
          dsimp only
          all_goals (generalize l.getD (p.ns.idxOf n) none = q; cases q <;> rfl)
      rw [hgl] at hres2 hlt'
      show RunS X _ _ [some v1, some v2, some v3, some v4, some (.ref u), some w5, some w6, some w7, some w8, some w9, none] H9
      generalize gl = go at r9 hres2 hlt'
      cases go with
      | none =>
        refine st_ifr g9.ok (t := true) (jtw (jwo (t := true) (u := true) ((jtcmp op_isN (nm S 9 (R := isO) r9) jnon tw_isN).eq (by simp)) fun z => nomatch z)) (fun _ => jtup (ja (rtupL v (isL_raw hl9 (fun h => h) pr9) (nm S 4 rfl)) (ja jstr ja0)) (by simp)) (fun _ u' G10 H10 g10 r => retW (wd := sBack) u' G10 H10 (g09.trans g10) hres2.symm r) fun z => nomatch z
      | some g =>
        have r9' : (isN g).p w9 G9 := r9
        simp only [glD] at hres2 hlt'
        refine st_ifr g9.ok (t := false || decide (V.int (g : Int) = V.int (here : Int))) (jtw (jwo ((jtcmp op_isN (nm S 9 r9') jnon tw_isN).eq (by simp)) fun _ => jw1o (jtcmp op_eq (nm S 9 r9') (nm S 6 r69) (tw_eq rfl)))) (fun _ => jtup (ja (rtupL v (isL_raw hl9 (fun h => h) pr9) (nm S 4 rfl)) (ja jstr ja0)) (by simp)) (fun z u' G10 H10 g10 r => retW (wd := sBack) u' G10 H10 (g09.trans g10) ?_ r) fun z G10 H10 g10 => ?_
        · have : g = here := by simp at z; omega
          subst this
          simp only [if_true] at hres2
          exact hres2.symm
        have hgh : ¬ g = here := by simp at z; omega
        simp only [if_neg hgh] at hres2 hlt'
        have g010 := g09.trans g10
        have hl10 := g10.to0.H _ _ hl9
        have nu10 := g10.out hl9 nu9
        have pr10 := PR.mo g10.g pr9
        have r910 : (isN g).p w9 G10 := mv g10 r9'
        refine st_ifr g10.ok (t := decide (g ∈ pre ++ [here])) (JT.eq (jtcmp op_in_seq (nm S 9 r910) (nm S 4 rfl) (rinL (isL_raw hl10 (fun h => h) (by rw [← nats_isV]; exact pr10)) rfl nats_flat)) inV_nat) (fun _ => jtup (ja (rtupL v (isL_raw hl10 (fun h => h) pr10) (nm S 4 rfl)) (ja jstr ja0)) (by simp)) (fun t2 u' G11 H11 g11 r => retW (wd := sRound) u' G11 H11 (g010.trans g11) ?_ r) fun t2 G11 H11 g11 => ?_
        · rw [← hres2, if_pos (of_decide_eq_true t2)]
        have hng : ¬ g ∈ pre ++ [here] := of_decide_eq_false t2
        have hl11 := g11.to0.H _ _ hl10
        have nu11 := g11.out hl10 nu10
        have pr11 := PR.mo g11.g pr10
        refine st_append g11.ok (nm S 4 rfl) hl11 (fun h => h) (by rw [pr11.len, List.length_map]; omega) (nm S 9 (mv g11 r910)) fun w12 G12 H12 g12 r12 hl12 => st0 ?_
        have g012 := (g010.trans g11).trans g12
        refine ⟨G12, vs ++ [w12], pre ++ [here], g, _, _, _, _, _, rfl, g012.set' (fun h => h) (g12.out hl11 nu11) hu0, ?_, upd_same, g12.out hl11 nu11, ?_, ?_, ?_, ?_⟩
        · exact sg.trans (gr3.g.trans ((g4.trans (g5.trans (g6.trans (g7.trans (g8.trans (g9.trans (g10.trans (g11.trans g12)))))))).g))
        · rw [List.map_append]
          exact (PR.mo g12.g pr11).app (.cons r12 .nil)
        · rw [List.nodup_append]
          exact ⟨hnd, by simp, fun a ha c hc => by simp at hc; subst hc; exact fun e => hng (e ▸ ha)⟩
        · intro t' ht
          rcases List.mem_append.mp ht with q | q
          · exact hlt t' q
          · simp at q; rw [q]; exact hlt' g rfl
        · rw [hf2, ← hres2, if_neg hng]
    · have eo : ownerP p.ns p.o here = none := by unfold ownerP; rw [if_neg hio]
      have r7' : (isO).p w7 G5 := by rw [eo] at r7; exact r7
      refine st_set S 8 g5.ok (R := isS "keep") (jif (t := true) (JT.eq (jtcmp op_isN (nm S 7 (R := isV .non) r7') jnon tw_isN) (by simp)) (fun _ => jstr) fun z => nomatch z) fun w8 G6 H6 g6 r8 => ?_
      have g06 := g05.trans g6
      have hl6 := g6.to0.H _ _ hl5
      have nu6 := g6.out hl5 nu5
      have pr6 := PR.mo g6.g pr5
      show RunS X _ _ [some v1, some v2, some v3, some v4, some (.ref u), some w5, some w6, some w7, some w8, f, none] H6
      refine st_ifn g6.ok (JT.eq (jtcmp op_eq (nm S 7 (R := isV .non) (mv (R := isV .non) g6 r7')) (nm S 2 (mv g06 r3)) (tw_eq rfl)) (decide_eq_false fun q => by cases q)) fun G7 H7 g7 => ?_
      have g07 := g06.trans g7
      have hl7 := g7.to0.H _ _ hl6
      have pr7 := PR.mo g7.g pr6
      refine st_ifr g7.ok (t := true) (JT.eq (jtcmp op_eq (nm S 8 (mv g7 r8)) jstr (tw_eq rfl)) (decide_eq_true rfl)) (fun _ => jtup (ja (rtupL v (isL_raw hl7 (fun h => h) pr7) (nm S 4 rfl)) (ja jstr ja0)) (by simp)) (fun _ u' G8 H8 g8 r => retW (wd := sLies) u' G8 H8 (g07.trans g8) ?_ r) fun z => nomatch z
      rw [← hres]
      simp only [wayF]
      rw [if_neg hio]
  · rintro σ' G' H' ⟨vs, pre, here, a, c, d, e, f, rfl, g', sg, hl, nu, prv, hnd, hlt, hres⟩
    refine st_ret g'.ok (jtup (ja (rtupL v (isL_raw hl (fun h => h) prv) (nm S 4 rfl)) (ja jstr ja0)) (by simp)) fun u' G3 H3 g3 r => k0 u' G3 H3 (g'.trans g3) ?_
    have : wayP p.ns p.ms p.o n b = (pre ++ [here], sRound) := by
      rw [← hres]
      have : 9 - ((List.range 9).map isN).length = 0 := by rw [List.length_map, List.length_range]
      rw [this]
      rfl
    rw [this]
    exact r
theorem kn_built (T : Txt K mg w HC SC LC TC) : Kn P w K mg base 7 "_law_built" (spP (fun p : Pn => PnOk p) (fun p => [pnR p]) (fun p => hsR HC p.ns p.ps p.ms)) := by
  refine kn_body T.built sc_law_built lo_law_built (fun _ => rfl) ?_
  rintro X S rfl rfl rfl rfl rfl hx hr vs G H Q p s ok pr k
  obtain ⟨v1, rfl, r1⟩ := PR.one pr
  have v := S.vw T.b hr
  have r1' : (tupR [tupR (p.ns.map isS), tupR (p.ps.map isS), dctR (waysD p.ns p.ms), ordR p.o]).p v1 G := r1
  exact st_ret s (jHouse T (S.gl _ rfl) hr ok.ok (ja (jixT (nm S 0 r1') jint at0) (ja (jixT (nm S 0 r1') jint at1) (ja (vdict v (jixT (nm S 0 r1') jint at2)) ja0)))) fun u G1 H1 g r => k u G1 H1 g r
end Lp
/-! ## D20 -/
set_option Elab.async false
set_option linter.all false
set_option maxRecDepth 100000
set_option maxHeartbeats 2000000
/-! The law: what is taught. -/
namespace Lp
open PySem PySem.Spec PyProof.Rows L2
section
variable {W : Md} {X : Cx} {σ : L2.St} {G H G' H' : Hp} {a b e : Expr} {R R1 R2 R3 R4 R5 R6 : Rel} {ds : List (Str × Rel)} {pos p : Pos} {sc : Scope}
theorem PR.six {v : List V} (h : PR G v [R1, R2, R3, R4, R5, R6]) : ∃ x y z w u t, v = [x, y, z, w, u, t] ∧ R1.p x G ∧ R2.p y G ∧ R3.p z G ∧ R4.p w G ∧ R5.p u G ∧ R6.p t G := by
  cases h with
  | cons r t =>
    obtain ⟨a, b, c, d, e, rfl, h1, h2, h3, h4, h5⟩ := PR.five t
    exact ⟨_, a, b, c, d, e, rfl, r, h1, h2, h3, h4, h5⟩
/-- what shows itself as a dict of such data -/
def IsD (W : Md) (G H : Hp) (R : Rel) (ds : List (Str × Rel)) : Prop := ∀ v G1 H1, Gw W G H G1 H1 → R.p v G1 → ∃ a kvs, v = .ref a ∧ H1 a = some (.dK kvs) ∧ PD G1 kvs ds
theorem isD_raw {l : Addr} {kvs : List (Key × V)} (h : H l = some (.dK kvs)) (nm : ¬ W.m l) (pd : PD G kvs ds) : IsD W G H (isV (.ref l)) ds := fun v G1 H1 g r => ⟨l, kvs, r, g.gr.h _ _ nm h, PD.mo g.g pd⟩
theorem rixD {x : Str} (v : Vw X sc) (hD : IsD W G H R1 ds) (ha : J W X a σ G H R1) (hb : J W X b σ G H (isS x)) (hx : ds.lookup x = some R) (hs : NoSl b := by intro _ _; rfl) : J W X (.Subscript a b pos) σ G H R :=
  J.pe (pe_dget (by have := v.un; omega) sE sE hs) fun G1 H1 g Q k => two (t := fun _ _ _ _ => True) ha hb g fun x1 y1 G2 H2 g2 r1 hy => by
    obtain ⟨d, kvs, e1, hd, pd⟩ := hD x1 G2 H2 (g.trans g2) r1
    obtain rfl : y1 = V.str x := hy
    obtain ⟨w, h1, h2⟩ := pd.val hx
    refine ⟨d, w, e1, ?_, k w G2 H2 g2 h2⟩
    have := DGet.k (k := Sum.inr x) hd
    rw [h1] at this
    exact this
end
variable {P : Program} {w : World} {K : PySem.W.Frag} {mg : Str → Option Value} {base : Heap} {HC SC LC TC : Addr}
theorem kn_taught (T : Txt K mg w HC SC LC TC) : Kn P w K mg base 1 "_law_taught" (spP (fun i : Pn × List Mn × List Nat × Str × (List Nat × Nat) × Str => OkH i.1.ns i.1.ps i.2.1 ∧ OkO i.1.ns.length i.1.ps.length i.2.2.1 ∧ i.2.2.2.1 ∈ i.1.ns ∧ (∀ b ∈ i.2.2.2.2.1.1, Seat i.2.1 i.2.2.1 b) ∧ i.2.2.2.2.1.2 < i.1.ps.length)
    (fun i => [pnR i.1, dctR (waysD i.1.ns i.2.1), ordR i.2.2.1, isS i.2.2.2.1, ordR (i.2.2.2.2.1.1 ++ [i.2.2.2.2.1.2]), isS i.2.2.2.2.2])
    (fun i => dctR (waysD i.1.ns (behindP i.1.ns i.2.1 i.2.2.1 i.2.2.2.1 (i.2.2.2.2.1.1 ++ [i.2.2.2.2.1.2], i.2.2.2.2.2))))) := by
  refine kn_body T.taught sc_law_taught lo_law_taught (fun _ => rfl) ?_
  rintro X S rfl rfl rfl rfl rfl hx hr vs G H Q ⟨p, ms, o, n, ⟨pre, here⟩, wd⟩ s ⟨ok, oo, hn, hse, hh⟩ pr k
  obtain ⟨v1, v2, v3, v4, v5, v6, rfl, r1, r2, r3, r4, r5, r6⟩ := PR.six pr
  have v := S.vw T.b hr
  have k' : ∀ u G' H', Gw pureM G H G' H' → (dctR (waysD p.ns (behindP p.ns ms o n (pre ++ [here], wd)))).p u G' → Q u H' := k
  have r1' : (tupR [tupR (p.ns.map isS), tupR (p.ps.map isS), dctR (waysD p.ns p.ms), ordR p.o]).p v1 G := r1
  have r2' : (dctR (waysD p.ns ms)).p v2 G := r2
  have r3' : (ordR o).p v3 G := r3
  have r4' : (isS n).p v4 G := r4
  have r5' : (ordR (pre ++ [here])).p v5 G := r5
  have r6' : (isS wd).p v6 G := r6
  have ok' : OkH p.ns p.ps ms := ok
  have oo' : OkO p.ns.length p.ps.length o := oo
  have hn' : n ∈ p.ns := hn
  have hse' : ∀ b ∈ pre, Seat ms o b := hse
  have hh' : here < p.ps.length := hh
  clear r1 r2 r3 r4 r5 r6 ok oo hn hse hh
  have hd := asc_nodup ok'.n.asc
  have n6 : p.ns.length ≤ 6 := ok'.n.l6
  have hni := List.idxOf_lt_length_of_mem hn'
  have ebut : (pre ++ [here]).dropLast = pre := by simp
  have elast : (pre ++ [here]).getLastD 0 = here := by simp
  refine st (ps_set (i := 6) S.nd (by rw [S.hN]; rfl) (S.loc _ (by simp)) sE rfl (.inl (S.fn _))) (gdictD v s (nm S 1 r2') fun kvs0 u G1 H1 g1 pd1 hul => ?_)
  show RunS X _ _ [some v1, some v2, some v3, some v4, some v5, some v6, some (.ref u), none, none, none] (upd H1 u (.dK kvs0))
  have n1 : G1 u = none := sub_none g1.s hul
  have hu0 : H u = none := g1.to0.H.free hul
  have gA := g1.trans (g1.raw (o := .dK kvs0) hul)
  refine st_if gA.ok (t := inV (.str wd) [.str sKept, .str sBack]) (jtcmp op_in_seq (nm S 5 (mv gA r6')) ((jtup (ja jstr (ja jstr ja0)) (by simp)).eq (show tupR [isS "kept", isS "back"] = tupR ([V.str sKept, V.str sBack].map isV) from rfl)) (tw_in rfl rfl)) (fun t G2 H2 g2 => ?_) fun t G2 H2 g2 => ?_
  · have hw : wd = sKept ∨ wd = sBack := by
      by_cases h1 : wd = sKept
      · exact .inl h1
      · by_cases h2 : wd = sBack
        · exact .inr h2
        · have e1 : (sKept == wd) = false := beq_eq_false_iff_ne.mpr (Ne.symm h1)
          have e2 : (sBack == wd) = false := beq_eq_false_iff_ne.mpr (Ne.symm h2)
          have e3 : inV (.str wd) [.str sKept, .str sBack] = ((sKept == wd) || ((sBack == wd) || false)) := by simp [inV, eqV]
          rw [e3, e1, e2] at t
          cases t
    let gg : Option Nat := if wd = sKept then some here else none
    have hgg : ∀ b, gg = some b → b < p.ps.length := fun b hb => by
      by_cases h : wd = sKept
      · have e : gg = some here := if_pos h
        rw [e] at hb; cases hb; exact hh'
      · have e : gg = none := if_neg h
        rw [e] at hb; cases hb
    have eb : behindP p.ns ms o n (pre ++ [here], wd) = learnP p.ns o n ms pre gg := by
      unfold behindP
      dsimp only
      rw [ebut, elast]
      by_cases h : wd = sKept
      · have e : gg = some here := if_pos h
        rw [if_pos h, e]
      · have e : gg = none := if_neg h
        rw [if_neg h, if_pos (hw.resolve_left h), e]
    rw [eb] at k'
    have cut : cutR ((pre ++ [here]).map isN) none (some (-1)) = pre.map isN := by rw [cutR_but, List.map_append]; simp
    have g02 := gA.trans g2
    refine st_for (pre.map isN) g2.ok S.calm hx (jiT ((jslT (nm S 4 (mv g02 r5')) jo0 (jo1 (jneg jint))).eq (congrArg tupR cut))) (S.pg 7) fun G3 H3 g3 => ?_
    have g03 := g02.trans g3
    have hu3 : H3 u = some (.dK kvs0) := g3.to0.H _ _ (g2.to0.H _ _ upd_same)
    have n3 : G3 u = none := (g2.trans g3).out upd_same n1
    let Pv : Nat → L2.St → Hp → Hp → Prop := fun i σ' G' H' => ∃ kvs a b c, σ' = [some v1, some v2, some v3, some v4, some v5, some v6, some (.ref u), a, b, c] ∧ Gw pureM G H G' H' ∧ Same G3 G' ∧ H' u = some (.dK kvs) ∧ G' u = none ∧ PD G' kvs (waysD p.ns (learnP p.ns o n ms (pre.take i) gg)) ∧
      OkH p.ns p.ps (learnP p.ns o n ms (pre.take i) gg) ∧ ∀ b ∈ pre, Seat (learnP p.ns o n ms (pre.take i) gg) o b
    refine ⟨Pv, ⟨kvs0, none, none, none, rfl, g03, Same.refl _, hu3, n3, PD.mo (g2.trans g3).g pd1, ok', hse'⟩, fun i σ' G' H' ⟨_, _, _, _, _, h1, h2, _⟩ => ⟨h2, h1.s⟩, ?_, ?_⟩
    · rintro i R w7 σ' G' H' G4 H4 hR ⟨kvs, a, b, c, rfl, g', sg, hul', nu, pd, okh, hse2⟩ gr4 r
      have hi : i < pre.length := by
        rcases Nat.lt_or_ge i pre.length with q | q
        · exact q
        · rw [List.getElem?_eq_none (by simpa using q)] at hR; cases hR
      rw [List.getElem?_map, List.getElem?_eq_getElem hi] at hR
      obtain rfl : isN pre[i] = R := by simpa using hR
      have hbm : pre[i] ∈ pre := List.getElem_mem hi
      have et : learnP p.ns o n ms (pre.take (i + 1)) gg = learn1 o (p.ns.idxOf n) gg (learnP p.ns o n ms (pre.take i) gg) pre[i] := by
        unfold learnP
        rw [List.take_succ, List.getElem?_eq_getElem hi]
        show List.foldl _ ms (pre.take i ++ [pre[i]]) = _
        rw [List.foldl_append]
        rfl
      dsimp only [Pv]
      rw [et]
      generalize pre[i] = bx at r hbm
      generalize learnP p.ns o n ms (pre.take i) gg = ms2 at pd okh hse2
      have g04 := g'.trans (Gw.up0 g'.ok gr4)
      have hu4 := gr4.H _ _ hul'
      have n4 := gr4.out hul' nu
      have pd4 := PD.mo gr4.g pd
      obtain ⟨hbo, l, hl⟩ := hse2 bx hbm
      have hix : o.idxOf bx < p.ns.length := by have := List.idxOf_lt_length_of_mem hbo; have := oo'.len; omega
      have hml := okh.ml
      have okl : l.length = p.ns.length ∧ ∀ b, some b ∈ l → b < p.ps.length := by
        have := okh.m _ (getD_mem (i := o.idxOf bx) (by omega))
        rw [hl] at this
        exact this
      have em : ms2.getD (o.idxOf bx) .back = ms2[o.idxOf bx]'(by omega) := by rw [List.getD_eq_getElem?_getD, List.getElem?_eq_getElem (by omega)]; rfl
      have hkl : kvs.length = p.ns.length := by rw [pd.len, waysD_len hml]
      show RunS X _ _ [some v1, some v2, some v3, some v4, some v5, some v6, some (.ref u), some w7, b, c] H4
      refine st_set S 8 g04.ok (jixN (jixT (nm S 0 (mv g04 r1')) jint at0) (vtixN hbo (nm S 2 (mv g04 r3')) (nm S 7 r)) (List.getElem?_eq_getElem hix)) fun w8 G5 H5 g5 r8 => ?_
      have g05 := g04.trans g5
      have hu5 := g5.to0.H _ _ hu4
      have n5 := g5.out hu4 n4
      have pd5 := PD.mo g5.g pd4
      show RunS X _ _ [some v1, some v2, some v3, some v4, some v5, some v6, some (.ref u), some w7, some w8, c] H5
      refine st (ps_set (i := 9) S.nd (by rw [S.hN]; rfl) (S.loc _ (by simp)) sE rfl (.inl (S.fn _))) (glistT (Rs := l.map optR) v g5.ok ((rixD v (isD_raw hu5 (fun h => h) pd5) (nm S 6 rfl) (nm S 8 r8) (waysD_at hd hml hix)).eq (by rw [← em, hl]; rfl)) fun vs6 l6 G6 H6 g6 pr6 hl6 => ?_)
      show RunS X _ _ [some v1, some v2, some v3, some v4, some v5, some v6, some (.ref u), some w7, some w8, some (.ref l6)] (upd H6 l6 (.lst vs6))
      have g06 := g05.trans g6
      have hl0 : H l6 = none := g06.to0.H.free hl6
      have hu6 := g6.to0.H _ _ hu5
      have n6u := g6.out hu5 n5
      have hne : l6 ≠ u := fun z => by rw [z, hu6] at hl6; cases hl6
      have gR := g6.raw (o := .lst vs6) hl6
      have n6l : G6 l6 = none := sub_none g6.s hl6
      have hvl : vs6.length = p.ns.length := by rw [pr6.len, List.length_map, okl.1]
      have g0R := g06.trans gR
      refine st_lset (l := l6) (vs := vs6) (n := p.ns.idxOf n) (R := optR gg) gR.ok (jif (t := decide (V.str wd = V.str "kept")) (jtcmp op_eq (nm S 5 (mv g0R r6')) jstr (tw_eq rfl)) (fun t2 => (jixT (nm S 4 (mv g0R r5')) (jneg jint) (atI_map (f := isN) atI_last)).eq ?_) fun t2 => jnon.eq ?_) (nm S 9 (R := isV (.ref l6)) rfl) (vtixS hn' (jixT (nm S 0 (mv g0R r1')) jint at0) (nm S 3 (mv g0R r4'))) upd_same (fun h => h) (ixN_nat (by omega)) fun w9 G7 H7 g7 r9 hl7 => ?_
      · have e : gg = some here := if_pos (V.str.inj (of_decide_eq_true t2))
        rw [e]; rfl
      · have e : gg = none := if_neg fun q => of_decide_eq_false t2 (congrArg V.str q)
        rw [e]; rfl
      have n7l := g7.out upd_same n6l
      have hu7 : H7 u = some (.dK kvs) := g7.to0.H _ _ (by rw [upd_ne (Ne.symm hne)]; exact hu6)
      have n7u : G7 u = none := g7.out (by rw [upd_ne (Ne.symm hne)]; exact hu6) n6u
      have g07 : Gw pureM G H G7 (upd H7 l6 (.lst (vs6.set (p.ns.idxOf n) w9))) := (g0R.trans g7).set' (fun h => h) n7l hl0
      have pr7 : PR G7 (vs6.set (p.ns.idxOf n) w9) ((l.set (p.ns.idxOf n) gg).map optR) := by
        rw [List.map_set]
        exact (PR.mo g7.g pr6).set r9
      have g57 : Same G5 G7 := g6.g.trans g7.g
      refine st_dset (l := u) (kvs := kvs) (by have := hr.un; omega) g07.ok (rtupL v (isL_raw upd_same (fun h => h) pr7) (nm S 9 (R := isV (.ref l6)) rfl)) (nm S 6 (R := isV (.ref u)) rfl) (nm S 8 (Rel.mo _ g57 r8)) (by rw [upd_ne (Ne.symm hne)]; exact hu7) (fun h => h) (by omega) fun w10 G8 H8 g8 r10 hu8 => st0 ⟨G8, _, _, _, _, rfl, ((g07.trans g8).set' (fun h => h) (g8.out (by rw [upd_ne (Ne.symm hne)]; exact hu7) n7u) hu0), sg.trans (gr4.g.trans (g5.g.trans (g57.trans g8.g))), upd_same, g8.out (by rw [upd_ne (Ne.symm hne)]; exact hu7) n7u, ?_, okH_learn1 okh hix hgg, fun b hb => seat_learn1 (hse2 b hb)⟩
      have em2 : setSeat (ms2.getD (o.idxOf bx) .back) (p.ns.idxOf n) gg = .seat (l.set (p.ns.idxOf n) gg) := by rw [hl]; rfl
      have := putK_ways (m := .seat (l.set (p.ns.idxOf n) gg)) (PD.mo (g57.trans g8.g) pd5) hd hml hix r10
      unfold learn1
      rw [em2]
      exact this
    · rintro σ' G' H' ⟨kvs, a, b, c, rfl, g', sg, hul', nu, pd, okh, hse2⟩
      rw [List.length_map, List.take_length] at pd
      obtain ⟨g4, s4⟩ := g'.fin (fun h => h) hul' nu hu0
      exact st0 (st_ret g4.ok (nm S 6 (R := dctR (waysD p.ns (learnP p.ns o n ms pre gg))) ⟨u, kvs, rfl, upd_same, PD.mo s4 pd⟩) fun x G5 H5 g5 r => k' x G5 H5 (g4.trans g5) r)
  · have h1 : ¬ wd = sKept := fun q => by
      have e3 : inV (.str wd) [.str sKept, .str sBack] = ((sKept == wd) || ((sBack == wd) || false)) := by simp [inV, eqV]
      rw [e3, q] at t
      simp at t
    have h2 : ¬ wd = sBack := fun q => by
      have e3 : inV (.str wd) [.str sKept, .str sBack] = ((sKept == wd) || ((sBack == wd) || false)) := by simp [inV, eqV]
      rw [e3, q] at t
      simp at t
    have eb : behindP p.ns ms o n (pre ++ [here], wd) = ms := by
      unfold behindP
      rw [if_neg h1, if_neg h2]
    rw [eb] at k'
    obtain ⟨g4, s4⟩ := (gA.trans g2).fin (fun h => h) (g2.to0.H _ _ upd_same) (g2.out upd_same n1) hu0
    exact st0 (st_ret g4.ok (nm S 6 (R := dctR (waysD p.ns ms)) ⟨u, kvs0, rfl, upd_same, PD.mo (g2.g.trans s4) pd1⟩) fun x G5 H5 g5 r => k' x G5 H5 (g4.trans g5) r)
end Lp
/-! ## D21 -/
set_option Elab.async false
set_option linter.all false
set_option maxRecDepth 100000
set_option maxHeartbeats 2000000
/-! The law: draws of unknown outcome; the row house. -/
namespace Lp
open PySem PySem.Spec PyProof.Rows L2
section
variable {W : Md} {X : Cx} {σ : L2.St} {G H G' H' : Hp} {a b c e o : Expr} {R R1 R2 : Rel} {Rs : List Rel} {pos p p2 apos : Pos} {sc : Scope} {α β : Type} {x y rest : List Stmt} {D : Ends}
/-! ### rules where the data is drawn -/
def JTx (W : Md) (X : Cx) (e : Expr) (σ : L2.St) (G H : Hp) : Prop := ∀ G1 H1, Gw W G H G1 H1 → ∀ Q : Bool → Hp → Prop, (∀ t G2 H2, Gw W G1 H1 G2 H2 → Q t H2) → RunT X e σ H1 Q
theorem jtcmpX {op : CmpOp} {r : L2.R2} (ho : OpR X (compareOp op) r) (ha : J W X a σ G H R1) (hb : J W X b σ G H R2) (hr : Tw W r G H R1 R2 (exR fun t : Bool => isB t)) (hm : behindInMarks op b = false := by first | exact nomark _ | rfl) : JTx W X (.Compare a [op] [b] pos) σ G H := fun G1 H1 g Q q =>
  gT (pt_cmpR ho sE sE hm) (two (t := fun _ _ _ _ => True) ha hb g fun x y G2 H2 g2 r1 r2 => hr x y G2 H2 (g.trans g2) r1 r2 _ fun v G3 H3 g3 ⟨t, z⟩ => ⟨t, z, q t G3 H3 (g2.trans g3)⟩)
theorem jifX (h : JTx W X c σ G H) (h1 : J W X a σ G H R) (h2 : J W X b σ G H R) : J W X (.IfExp c a b pos) σ G H R :=
  J.pe (pe_ifExp sT sE sE) fun G1 H1 g Q q => h G1 H1 g _ fun t G2 H2 g2 => by
    cases t with
    | true => exact h1 G2 H2 (g.trans g2) Q fun v G3 H3 g3 z => q v G3 H3 (g2.trans g3) z
    | false => exact h2 G2 H2 (g.trans g2) Q fun v G3 H3 g3 z => q v G3 H3 (g2.trans g3) z
theorem st_ifX (s : Ok W G H) (h : JTx W X c σ G H) (k1 : ∀ G' H', Gw W G H G' H' → RunS X x { D with nx := RunS X rest D } σ H') (k0 : ∀ G' H', Gw W G H G' H' → RunS X y { D with nx := RunS X rest D } σ H') :
    RunS X (.If c x y pos :: rest) D σ H :=
  st (ps_if sT sS sS) (h G H s.rf _ fun t G' H' g => by
    cases t with
    | true => exact k1 G' H' g
    | false => exact k0 G' H' g)
theorem tw_eqX {f : α → Int} {y : V} (hs : ∀ n, scal (.int (f n)) y = true) : Tw W L2.rEq G H (exR fun n => isI (f n)) (isV y) (exR fun t : Bool => isB t) := fun x y' G1 H1 g ⟨n, hx⟩ hy Q k =>
  tw_eq (W := W) (hs n) x y' G1 H1 g hx hy Q fun v G2 H2 g2 r => k v G2 H2 g2 ⟨_, r⟩
theorem tw_gtX {f : α → Int} {j : Int} : Tw W (rI0 fun i j => .bl (decide (j < i))) G H (exR fun n => isI (f n)) (isI j) (exR fun t : Bool => isB t) := fun x y' G1 H1 g ⟨n, hx⟩ hy Q k => ⟨f n, j, hx, hy, k _ G1 H1 g.rf ⟨_, rfl⟩⟩
theorem jaddX {f : α → Nat} {i : Nat} (ha : J W X a σ G H (isN i)) (hb : J W X b σ G H (exR fun n => isN (f n))) : J W X (.BinOp a .Add b pos) σ G H (exR fun n => isN (i + f n)) :=
  jop op_add ha hb fun x y G1 H1 g hx ⟨n, hy⟩ Q k => ⟨(i : Int), (f n : Int), hx, hy, k _ G1 H1 g.rf ⟨n, by show V.int _ = V.int _; congr 1⟩⟩
theorem vminX {f : α → Nat} {i : Nat} (v : Vw X sc) (h : J W X a σ G H (isN i)) (h2 : J W X b σ G H (exR fun n => isN (f n))) (hg : sc.names.lookup ("min" : Str) = some .globalImplicit := by rfl) (hs : starEach [a, b] X.env = [(false, eval a X.env), (false, eval b X.env)] := by rfl) (hs2 : starEach [b] X.env = [(false, eval b X.env)] := by rfl) : J W X (.Call (.Name "min" p) [a, b] [] pos) σ G H (exR fun n => isN (min i (f n))) :=
  jcallB (call_min2 v.calm) (v.gl _ hg) v.b.min (by decide +kernel) (ja h (ja h2 ja0 hs2) (by rw [hs, hs2])) (fun vs G1 H1 g pr Q k => by
    obtain ⟨x, y, rfl, rx, n, ry⟩ := PR.two pr
    obtain rfl : x = V.int (i : Int) := rx
    obtain rfl : y = V.int (f n : Int) := ry
    refine ⟨(i : Int), (f n : Int), rfl, k _ G1 H1 g.rf ⟨n, ?_⟩⟩
    show V.int _ = V.int _
    rw [imin, Nat.min_comm] <;> rfl) (he := by rw [hs, hs2]) (hpl := by rw [hs2]; rfl)
theorem jslLX {Rs : α → List Rel} {lo hi : Option Expr} {l u : Option Int} (ha : J W X a σ G H (exR fun x => lstR (Rs x))) (hl : JO W X lo σ G H l) (hu : JO W X hi σ G H u) : J W X (.Subscript a (.Slice lo hi none p2) pos) σ G H (exR fun x => lstR (cutR (Rs x) l u)) := by
  obtain ⟨tl, pl, ql⟩ := hl
  obtain ⟨tu, pu, qu⟩ := hu
  refine J.pe (pe_slice sl_list sE pl pu) fun G1 H1 g Q q => ha G1 H1 g _ fun x G2 H2 g2 r => ql G2 H2 (g.trans g2) _ fun G3 H3 g3 => qu G3 H3 ((g.trans g2).trans g3) _ fun G4 H4 g4 => ?_
  obtain ⟨z, t, vs, e, h, pr⟩ := r
  have h4 : G4 t = some (.lst vs) := (g3.trans g4).g _ _ h
  have pr4 := PR.mo (g3.trans g4).g pr
  have gg : Gw W G1 H1 G4 H4 := (g2.trans g3).trans g4
  exact ⟨t, vs, e, sqL gg h4, fun n hn => q _ _ _ (gg.trans (gg.nw hn)) ⟨z, n, _, rfl, upd_same, PR.mo (Gr.new (m := no) gg.s hn).g (pr4.cut l u)⟩⟩
theorem vtupLX {Rs : α → List Rel} (v : Vw X sc) (h : J W X e σ G H (exR fun x => lstR (Rs x))) (hg : sc.names.lookup ("tuple" : Str) = some .globalImplicit := by rfl) (hs : starEach [e] X.env = [(false, eval e X.env)] := by rfl) : J W X (.Call (.Name "tuple" p) [e] [] pos) σ G H (exR fun x => tupR (Rs x)) :=
  jcallTy call_tupleF (v.gl _ hg) v.b.tuple (by decide +kernel) (ja h ja0 hs) (fun vs G1 H1 g pr Q k => by
    obtain ⟨x, rfl, z, a, ws, rfl, h, q⟩ := PR.one pr
    exact ⟨a, ws, rfl, sqL g h, newT g.ok q fun v G2 H2 g2 r => k v G2 H2 g2 ⟨z, r⟩⟩) (he := hs)
theorem vsortedX {xs : α → List Str} (v : Vw X sc) (h : J W X e σ G H (exR fun z => lstR ((xs z).map isS))) (hn : ∀ z, (xs z).length < 64) {R' : Rel} (hR : ∀ (z : α) (ys : List Str), ys.Perm (xs z) → sortedS ys = true → ∀ v G, (lstR (ys.map isS)).p v G → R'.p v G) (hg : sc.names.lookup ("sorted" : Str) = some .globalImplicit := by rfl) (hs : starEach [e] X.env = [(false, eval e X.env)] := by rfl) :
    J W X (.Call (.Name "sorted" p) [e] [] pos) σ G H R' :=
  jcallB cr_sortedS (v.gl _ hg) v.b.sorted (by decide +kernel) (ja h ja0 hs) (fun vs G1 H1 g pr Q k => by
    obtain ⟨x, rfl, z, a, ws, rfl, h, q⟩ := PR.one pr
    have e : ws = (xs z).map V.str := PR.vals (xs := (xs z).map V.str) (by rw [List.map_map]; exact q)
    subst e
    refine ⟨a, xs z, rfl, sqL g h, hn z, fun ys l hp hs2 hl => k _ _ _ (g.nw hl) (hR z ys hp hs2 _ _ ⟨l, _, rfl, upd_same, ?_⟩)⟩
    have e2 : (ys.map isS) = (ys.map V.str).map isV := by rw [List.map_map]; rfl
    rw [e2]
    exact PR.ofVals _) (he := hs)
theorem grepL {n : Nat} {Q : VK} (s : Ok W G H) (ha : J W X a σ G H (lstR Rs)) (hb : J W X b σ G H (isN n)) (hz : Rs.length * n ≤ 100000) (hn : n ≤ 100000) (k : ∀ vs u G' H', Gw W G H G' H' → PR G' vs (List.replicate n Rs).flatten → H' u = none → Q (.ref u) (upd H' u (.lst vs))) : RunE X (.BinOp a .Mult b pos) σ H Q :=
  gE (pe_op op_rep sE sE) (ha.here s fun x G1 H1 g1 ⟨l, vs, e, hl, pr⟩ => hb G1 H1 g1 _ fun y G2 H2 g2 hy => by
    obtain rfl : y = V.int (n : Int) := hy
    refine ⟨l, (n : Int), vs, e, rfl, (g2.s _ _ (g2.g _ _ hl)), by omega, by omega, ?_, fun p hp => ?_⟩
    · rw [Int.toNat_natCast, pr.len]; exact Nat.le_trans hz (by decide)
    · rw [Int.toNat_natCast]
      exact k _ p G2 H2 (g1.trans g2) ((PR.mo g2.g pr).rep n) hp)
/-- "".join(list of texts) -/
theorem vjoinX {ys : α → List Str} {z : Str} (ha : J W X a σ G H (isS z)) (h : J W X e σ G H (exR fun x => lstR ((ys x).map isS))) (hz : ∀ x, ((ys x).map (·.length)).sum + (ys x).length * z.length ≤ 16777216) (hs : starEach [e] X.env = [(false, eval e X.env)] := by rfl) (hbase : attributeBase a "join" X.env (eval a X.env) = eval a X.env := by rfl) (hline : (apos.endLine == pos.line) = true := by rfl) :
    J W X (.Call (.Attribute a "join" apos) [e] [] pos) σ G H (exR fun x => isS (Txt.join z (ys x))) :=
  J.pe (pe_join sE sE hs hbase hline) fun G1 H1 g Q k => ha G1 H1 g _ fun x G2 H2 g2 rx => ⟨⟨z, rx⟩, h G2 H2 (g.trans g2) _ fun y G3 H3 g3 ⟨t, l, ws, e, hl, q⟩ => by
    have ew : ws = (ys t).map V.str := PR.vals (xs := (ys t).map V.str) (by rw [List.map_map]; exact q)
    subst ew
    exact ⟨z, l, ys t, rx, by rw [e], .inl (SqL.of (g3.s _ _ hl)), hz t, k _ G3 H3 (g2.trans g3) ⟨t, rfl⟩⟩⟩
/-! ### choices made -/
theorem lst_choose {R : β → Rel} {xs : List α} {v : V} {G : Hp} (h : (lstR (xs.map fun _ => exR R)).p v G) : ∃ ys : List β, ys.length = xs.length ∧ (lstR (ys.map R)).p v G := by
  obtain ⟨a, vs, e, hl, pr⟩ := h
  have : ∀ (xs : List α) (vs : List V), PR G vs (xs.map fun _ => exR R) → ∃ ys : List β, ys.length = xs.length ∧ PR G vs (ys.map R) := by
    intro xs
    induction xs with
    | nil => intro vs h; cases h; exact ⟨[], rfl, .nil⟩
    | cons x xs ih =>
      intro vs h
      cases h with
      | cons r t =>
        obtain ⟨y, r⟩ := r
        obtain ⟨ys, h1, h2⟩ := ih _ t
        exact ⟨y :: ys, by simp [h1], .cons r h2⟩
  obtain ⟨ys, h1, h2⟩ := this xs vs pr
  exact ⟨ys, h1, a, vs, e, hl, h2⟩
theorem dct_choose {R : β → Rel} {ns : List Str} {v : V} {G : Hp} (h : (dctR (ns.map fun n => (n, exR R))).p v G) : ∃ ys : List β, ys.length = ns.length ∧ (dctR (ns.zip (ys.map R))).p v G := by
  obtain ⟨a, kvs, e, hl, pd⟩ := h
  have : ∀ (ns : List Str) (kvs : List (Key × V)), PD G kvs (ns.map fun n => (n, exR R)) → ∃ ys : List β, ys.length = ns.length ∧ PD G kvs (ns.zip (ys.map R)) := by
    intro ns
    induction ns with
    | nil => intro kvs h; cases h; exact ⟨[], rfl, .nil⟩
    | cons x ns ih =>
      intro kvs h
      cases h with
      | cons r t =>
        obtain ⟨r0, y, r⟩ := r
        obtain ⟨ys, h1, h2⟩ := ih _ t
        exact ⟨y :: ys, by simp [h1], .cons ⟨r0, r⟩ h2⟩
  obtain ⟨ys, h1, h2⟩ := this ns kvs pd
  exact ⟨ys, h1, a, kvs, e, hl, h2⟩
/-! ### dict(list of pairs) -/
theorem merge_new : ∀ (more kvs : List (Key × V)), (kvs ++ more).Pairwise (fun p q => p.1 ≠ q.1) → mergeK kvs more = kvs ++ more
  | [], kvs, _ => by unfold mergeK; simp
  | q :: more, kvs, h => by
    have hq : ∀ p ∈ kvs, p.1 ≠ q.1 := fun p hp => (List.pairwise_append.mp h).2.2 p hp q List.mem_cons_self
    have e : putK kvs q.1 q.2 = kvs ++ [q] := by
      unfold putK
      rw [if_neg]
      intro z
      obtain ⟨p, hp, e⟩ := List.any_eq_true.mp z
      exact hq p hp (of_decide_eq_true e)
    show mergeK (putK kvs q.1 q.2) more = _
    rw [e, merge_new more (kvs ++ [q]) (by simpa using h)]
    simp
theorem vdictP {xs : List α} {kf : α → Str} {Ro : α → Rel} (v : Vw X sc) (h : J W X e σ G H (lstR (xs.map fun x => tupR [isS (kf x), Ro x]))) (hd : (xs.map kf).Nodup) (hg : sc.names.lookup ("dict" : Str) = some .globalImplicit := by rfl) (hs : starEach [e] X.env = [(false, eval e X.env)] := by rfl) : J W X (.Call (.Name "dict" p) [e] [] pos) σ G H (dctR (xs.map fun x => (kf x, Ro x))) :=
  jcallTy (call_dictP v.calm) (v.gl _ hg) v.b.dict (by decide +kernel) (ja h ja0 hs) (fun vs G1 H1 g pr Q k => by
    obtain ⟨x, rfl, a, ws, rfl, hl, q⟩ := PR.one pr
    have go : ∀ (xs : List α) (ws : List V), PR G1 ws (xs.map fun x => tupR [isS (kf x), Ro x]) → ∃ (ps : List Addr) (kvs : List (Key × V)), ws = ps.map V.ref ∧ Paired (fun p kv => SqT X.K H1 p [kV kv.1, kv.2]) ps kvs ∧ PD G1 kvs (xs.map fun x => (kf x, Ro x)) := by
      intro xs
      induction xs with
      | nil => intro ws h; cases h; exact ⟨[], [], rfl, .nil, .nil⟩
      | cons x xs ih =>
        intro ws h
        cases h with
        | cons r t =>
          obtain ⟨ps, kvs, e1, e2, e3⟩ := ih _ t
          obtain ⟨b, us, e4, hT, pr2⟩ := r
          obtain ⟨u1, u2, rfl, r1, r2⟩ := PR.two pr2
          obtain rfl : u1 = V.str (kf x) := r1
          refine ⟨b :: ps, (Sum.inr (kf x), u2) :: kvs, by rw [e4, e1]; rfl, .cons (sqT g hT) e2, .cons ⟨rfl, r2⟩ e3⟩
    obtain ⟨ps, kvs, e1, e2, e3⟩ := go xs ws q
    refine ⟨a, ps, kvs, rfl, by rw [← e1]; exact sqL g hl, e2, fun l hl2 => k _ _ _ (g.nw hl2) ⟨l, mergeK [] kvs, rfl, upd_same, ?_⟩⟩
    rw [merge_new kvs [] ?_, List.nil_append]
    · exact PD.mo (Gr.new (m := no) g.s hl2).g e3
    · rw [List.nil_append]
      have e5 := PD.keys e3
      have e6 : (xs.map fun x => (kf x, Ro x)).map (·.1) = xs.map kf := by rw [List.map_map]; rfl
      rw [e6] at e5
      have hd2 : (kvs.map (·.1)).Nodup := by
        rw [e5]
        exact hd.map (S := fun a b => a ≠ b) Sum.inr fun x y h => fun z => h (Sum.inr.inj z)
      exact (List.pairwise_map.mp hd2)) (he := hs)
end
variable {P : Program} {w : World} {K : PySem.W.Frag} {mg : Str → Option Value} {base : Heap} {HC SC LC TC : Addr}
def NM : List Str := ["ab", "bc", "cd", "de", "ef"]
/-- a plan, drawn -/
abbrev planR : Rel := exR fun p : { p : Pn // PnOk p } => pnR p.val
abbrev GoalT (n : Nat) : Type := { g : Option Nat // ∀ b, g = some b → b < n }
theorem nm_ok : OkN NM := ⟨by decide, by decide, by unfold OkT NM; decide +kernel, by unfold NM; decide +kernel⟩
theorem row_ok (gs : List (GoalT 5)) (hl : gs.length = 5) : PnOk ⟨NM, List.replicate 5 "", gs.map fun g => .seat (List.replicate 5 g.val), [0, 1, 2, 3, 4]⟩ where
  ok := {
    n := nm_ok
    p := ⟨show NM.length ≤ (List.replicate 5 ("" : Str)).length by decide, show (List.replicate 5 ("" : Str)).length ≤ 6 by decide, fun z hz => .inl (List.eq_of_mem_replicate hz)⟩
    ml := by simp [hl, NM]
    m := fun m hm => by
      obtain ⟨g, _, rfl⟩ := List.mem_map.mp hm
      refine ⟨by simp [NM], fun b hb => ?_⟩
      have e := List.eq_of_mem_replicate hb
      have := g.property b e.symm
      simpa using this }
  oo := ⟨rfl, show ([0, 1, 2, 3, 4] : List Nat).Nodup by decide, show ∀ b ∈ ([0, 1, 2, 3, 4] : List Nat), b < (List.replicate 5 ("" : Str)).length by decide⟩
theorem kn_rowhouse (T : Txt K mg w HC SC LC TC) : Kn P w K mg base 3 "_law_rowhouse" (spM (fun i : Addr × List Int => RowM K i.2 i.1) (fun _ => True) (fun i => [isV (.ref i.1)]) (fun _ => planR)) := by
  refine kn_body T.rowhouse sc_law_rowhouse lo_law_rowhouse (fun _ => rfl) ?_
  rintro X S rfl rfl rfl rfl rfl hx hr vs G H Q ⟨r, ns⟩ s _ pr k
  obtain ⟨v1, rfl, r1⟩ := PR.one pr
  have v := S.vw T.b hr
  have s' : Ok (RowM X.K ns r) G H := s
  refine st_set S 1 s' (R := tupR (NM.map isS)) (jtup (ja jstr (ja jstr (ja jstr (ja jstr (ja jstr ja0))))) (show (5 : Nat) ≤ 100000 by decide)) fun u1 G1 H1 g1 q1 => ?_
  refine st_set S 2 g1.ok (vdictP (xs := List.range 5) (kf := fun k => NM.getD k "") (Ro := fun _ => exR fun g : GoalT 5 => tupR ((List.replicate 5 g.val).map optR)) v (slc S 3 (List.range 5) isN (fun k => tupR [isS (NM.getD k ""), exR fun g : GoalT 5 => tupR ((List.replicate 5 g.val).map optR)]) (jiRange v.b.range (S.gl _ rfl) (jint (i := 5)) (by decide)) (by decide) fun kk u G2 H2 hk g2 rk X' B => ?_) (by unfold NM; decide +kernel)) fun u2 G2 H2 g2 q2 => ?_
  · have hk' : kk < 5 := List.mem_range.mp hk
    refine jtup (ja (jixN (nb B.S 1 (mv g2 q1)) (nb B.S 3 rk) ?_) (ja (jop op_repF (R1 := exR fun g : GoalT 5 => tupR [optR g.val]) (J.imp' (jtup (ja (R := exR fun g : GoalT 5 => optR g.val) (jif (t := decide ((kk : Int) < 4)) (jtcmp op_lt (nb B.S 3 rk) jint tw_lt) (fun t => ?_) fun t => ?_) ja0) (by simp)) ?_) (jint (i := 5)) (Tw.exl fun g => tw_repT (n := 5) (by simp) (by simp) (by decide) (by decide))) ja0)) (by simp)
    · rw [List.getD_eq_getElem?_getD, List.getElem?_eq_getElem (show kk < NM.length from hk')]
      rfl
    · have t' : kk < 4 := by have := of_decide_eq_true t; omega
      refine J.imp' (jadd (nb B.S 3 rk) jint) fun x G3 H3 g3 rx => ⟨⟨some (kk + 1), fun b hb => by cases hb; omega⟩, ?_⟩
      obtain rfl : x = V.int ((kk : Int) + 1) := rx
      show V.int _ = V.int _
      congr 1
    · refine J.imp' (jcallM (kn_pick (B.txt T)) (B.S.gl _ rfl) (B.room hr) (r, ns, [isO, isN 0]) (by rw [B.K]) ⟨Nat.zero_lt_succ _, show (2 : Nat) ≤ 1000000 by decide⟩ (ja (nb B.S 0 (mv (g1.trans g2) r1)) (ja (jlst (ja jnon (ja jint ja0)) (by simp)) ja0))) fun x G3 H3 g3 ⟨n, rx⟩ => ?_
      match n, rx with
      | ⟨0, _⟩, rx => exact ⟨⟨none, fun b hb => nomatch hb⟩, rx⟩
      | ⟨1, _⟩, rx => exact ⟨⟨some 0, fun b hb => by cases hb; decide⟩, rx⟩
    · rintro x G3 H3 g3 ⟨a, vs, e, h, pr3⟩
      obtain ⟨y, rfl, g, ry⟩ := PR.one pr3
      exact ⟨g, a, [y], e, h, .cons ry .nil⟩
  · have g02 := g1.trans g2
    have q2' : (dctR (NM.map fun n => (n, exR fun g : GoalT 5 => tupR ((List.replicate 5 g.val).map optR)))).p u2 G2 := q2
    obtain ⟨gs, hgl, q2''⟩ := dct_choose q2'
    have hgl' : gs.length = 5 := hgl
    refine st_ret g2.ok (R := planR) (J.imp' (jtup (ja (nm S 1 (mv g2 q1)) (ja (jop op_repF (jtup (ja (jstr (x := "")) ja0) (by simp)) (jint (i := 5)) (tw_repT (n := 5) (by simp) (by simp) (by decide) (by decide))) (ja (nm S 2 q2'') (ja (jtup (ja (jint (i := 0)) (ja (jint (i := 1)) (ja (jint (i := 2)) (ja (jint (i := 3)) (ja (jint (i := 4)) ja0))))) (by simp)) ja0)))) (by simp)) fun x G3 H3 g3 rx => ⟨⟨_, row_ok gs hgl'⟩, ?_⟩) fun u G3 H3 g3 r => k u G3 H3 (g02.trans g3) r
    show (pnR ⟨NM, List.replicate 5 "", gs.map fun g => .seat (List.replicate 5 g.val), [0, 1, 2, 3, 4]⟩).p x G3
    unfold pnR waysD
    dsimp only
    rw [List.map_map]
    exact rx
end Lp
/-! ## D22 -/
set_option Elab.async false
set_option linter.all false
set_option maxRecDepth 100000
set_option maxHeartbeats 2000000
/-! The law: a plan is drawn. -/
namespace Lp
open PySem PySem.Spec PyProof.Rows L2
variable {P : Program} {w : World} {K : PySem.W.Frag} {mg : Str → Option Value} {base : Heap} {HC SC LC TC : Addr}
def POOL : List Str := ["al", "anna", "anne", "bo", "bob", "eve"]
theorem pool_ok : ∀ z ∈ POOL, OkT z LET := by unfold OkT POOL; decide +kernel
theorem pool_small : ∀ z ∈ POOL, z.length ≤ 4 := by unfold POOL; decide +kernel
theorem pool_nd : POOL.Nodup := by unfold POOL; decide +kernel
theorem perm_back {α : Type} {f : α → V} {g : V → α} (hg : ∀ x, g (f x) = x) {ys : List V} {xs : List α} (h : ys.Perm (xs.map f)) : ∃ zs : List α, zs.Perm xs ∧ ys = zs.map f := by
  refine ⟨ys.map g, ?_, ?_⟩
  · have := h.map g
    rw [List.map_map, show (g ∘ f) = id from funext hg, List.map_id] at this
    exact this
  · rw [List.map_map]
    conv => lhs; rw [← List.map_id ys]
    refine List.map_congr_left fun y hy => ?_
    obtain ⟨x, _, rfl⟩ := List.mem_map.mp (h.mem_iff.mp hy)
    show f x = f (g (f x))
    rw [hg]
theorem joinL_nil : ∀ ps : List (List Nat), TL.joinL [] ps = ps.flatten
  | [] => rfl
  | [p] => by simp [TL.joinL]
  | p :: q :: r => by
    show p ++ ([] ++ TL.joinL [] (q :: r)) = _
    rw [joinL_nil (q :: r)]
    simp
theorem join_ones (cs : List Nat) : (Txt.join "" (cs.map fun c => (⟨#[c]⟩ : Str))).cps.toList = cs := by
  have e : (Str.join "" (cs.map fun c => (⟨#[c]⟩ : Str))).cps.toList = TL.joinL [] ((cs.map fun c => (⟨#[c]⟩ : Str)).map fun s => s.cps.toList) := TL.tl_join "" _
  rw [TL.join_eq, e, joinL_nil, List.map_map]
  clear e
  induction cs with
  | nil => rfl
  | cons c cs ih =>
    rw [List.map_cons, List.flatten_cons, ih]
    rfl
theorem scheme_ok {cn sz : Nat} {zs ps : List Str} {ms : List Mn} {o q : List Nat} {w2 : List Str} (h1 : 1 ≤ cn) (h4 : cn ≤ 4) (hc : cn ≤ sz) (h5 : sz ≤ 5) (hw : w2.Perm POOL) (hz : zs.Perm (w2.take cn)) (hs : sortedS zs = true) (hq : q.Perm (List.range sz)) (ho : o = q.take cn)
    (hpl : ps.length = sz) (hp : ∀ z ∈ ps, z = "" ∨ OkT z (LET ++ PNT)) (hml : ms.length = cn) (hm : ∀ m ∈ ms, OkM cn sz m) : PnOk ⟨zs, ps, ms, o⟩ := by
  have hw6 : w2.length = 6 := hw.length_eq
  have hzl : zs.length = cn := by rw [hz.length_eq, List.length_take]; omega
  have hzm : ∀ z ∈ zs, z ∈ POOL := fun z h => hw.mem_iff.mp (List.mem_of_mem_take (hz.mem_iff.mp h))
  have hzn : zs.Nodup := hz.nodup_iff.mpr ((hw.nodup_iff.mpr pool_nd).sublist (List.take_sublist _ _))
  have hql : q.length = sz := by rw [hq.length_eq, List.length_range]
  subst ho
  refine ⟨⟨⟨?_, ?_, fun z h => pool_ok z (hzm z h), sorted_asc hs hzn⟩, ⟨?_, ?_, hp⟩, ?_, ?_⟩, ⟨?_, ?_, ?_⟩⟩
  · show 1 ≤ zs.length; omega
  · show zs.length ≤ 6; omega
  · show zs.length ≤ ps.length; omega
  · show ps.length ≤ 6; omega
  · show ms.length = zs.length; omega
  · show ∀ m ∈ ms, OkM zs.length ps.length m
    rw [hzl, hpl]
    exact hm
  · show (q.take cn).length = zs.length
    rw [List.length_take]; omega
  · exact (hq.nodup_iff.mpr List.nodup_range).sublist (List.take_sublist _ _)
  · intro b hb
    show b < ps.length
    have := List.mem_range.mp (hq.mem_iff.mp (List.mem_of_mem_take hb))
    omega
theorem kn_scheme (T : Txt K mg w HC SC LC TC) : Kn P w K mg base 3 "_law_scheme" (spM (fun i : Addr × List Int => RowM K i.2 i.1) (fun _ => True) (fun i => [isV (.ref i.1), isN 5]) (fun _ => planR)) := by
  refine kn_body T.scheme sc_law_scheme lo_law_scheme (fun _ => rfl) ?_
  rintro X S rfl rfl rfl rfl rfl hx hr vs G H Q ⟨r, ns⟩ s _ pr k
  obtain ⟨v1, v2, rfl, r1, r2⟩ := PR.two pr
  have v := S.vw T.b hr
  let W := RowM X.K ns r
  have s' : Ok W G H := s
  have hu : X.A.units + 64 < cLine := by have := hr.un; omega
  have k0 : ∀ u G' H', Gw W G H G' H' → planR.p u G' → Q u H' := k
  have hr1 : Room 1 X.A := hr.mono (by decide)
  have r1' : (isV (.ref r)).p v1 G := r1
  have r2' : (isN 5).p v2 G := r2
  refine st_set S 2 s' (R := lstR ((POOL.map V.str).map isV)) (jlst (ja jstr (ja jstr (ja jstr (ja jstr (ja jstr (ja jstr ja0)))))) (show (6 : Nat) ≤ 100000 by decide)) fun u2 G1 H1 g1 q2 => ?_
  refine st_set S 3 g1.ok (jaddX (i := 1) (jint (i := 1)) (jcallM (kn_taken T) (S.gl _ rfl) hr1 (r, ns, 4) rfl ⟨show (0 : Nat) < 4 by decide, show (4 : Nat) ≤ 1000000 by decide⟩ (ja (nm S 0 (mv g1 r1')) (ja ((vmin v (jint (i := 4)) (nm S 1 (mv g1 r2'))).eq (show _ = isN 4 from rfl)) ja0)))) fun u3 G2 H2 g2 ⟨c, q3⟩ => ?_
  have g02 := g1.trans g2
  obtain ⟨cn, ecn, h1, h4⟩ : ∃ cn, cn = 1 + c.val ∧ 1 ≤ cn ∧ cn ≤ 4 := ⟨1 + c.val, rfl, by omega, by have : c.val < 4 := c.isLt; omega⟩
  have q3' : (isN cn).p u3 G2 := by rw [ecn]; exact q3
  clear q3 ecn
  refine st_set S 4 g2.ok (R := exR fun z : { zs : List Str // ∃ w2 : List Str, w2.Perm POOL ∧ zs.Perm (w2.take cn) ∧ sortedS zs = true } => lstR (z.val.map isS)) (vsortedX (xs := fun z : { zs : List Str // zs.Perm POOL } => z.val.take cn) v (J.imp' (jslLX (J.imp' (R1 := exR fun z : { zs : List Str // zs.Perm POOL } => lstR (z.val.map isS)) (jcallM (kn_mixed T) (S.gl _ rfl) hr (r, ns, POOL.map V.str) rfl (by simp [POOL]) (ja (nm S 0 (mv g02 r1')) (ja (nm S 2 (mv g2 q2)) ja0))) ?_) jo0 (jo1 (nm S 3 q3'))) ?_) (fun z => ?_) (fun z ys hp hs v G q => ⟨⟨ys, z.val, z.property, hp, hs⟩, q⟩)) fun u4 G3 H3 g3 ⟨⟨zs, w2, hw, hz, hs⟩, q4⟩ => ?_
  · rintro x G3 H3 g3 ⟨⟨ys, hp⟩, rx⟩
    obtain ⟨zs, h1, rfl⟩ := perm_back (f := V.str) (g := fun v => match v with | .str s => s | _ => "") (fun x => rfl) hp
    have rx' : (lstR ((zs.map V.str).map isV)).p x G3 := rx
    rw [List.map_map] at rx'
    exact ⟨⟨zs, h1⟩, rx'⟩
  · rintro x G3 H3 g3 ⟨z, rx⟩
    have rx' : (lstR (cutR (z.val.map isS) none (some (cn : Int)))).p x G3 := rx
    rw [cutR_to, ← List.map_take] at rx'
    exact ⟨z, rx'⟩
  · have : z.val.length = 6 := z.property.length_eq
    rw [List.length_take]
    omega
  have g03 := g02.trans g3
  have q3b : (isN cn).p u3 G3 := mv g3 q3'
  refine st_set S 5 g3.ok (vminX (i := 5) v (nm S 1 (mv g03 r2')) (jaddX (nm S 3 q3b) (jcallM (kn_taken T) (S.gl _ rfl) hr1 (r, ns, 3) rfl ⟨show (0 : Nat) < 3 by decide, show (3 : Nat) ≤ 1000000 by decide⟩ (ja (nm S 0 (mv g03 r1')) (ja (jint (i := 3)) ja0))))) fun u5 G4 H4 g4 ⟨c5, q5⟩ => ?_
  obtain ⟨sz, esz, hcs, h5⟩ : ∃ sz, sz = min 5 (cn + c5.val) ∧ cn ≤ sz ∧ sz ≤ 5 := ⟨_, rfl, by omega, by omega⟩
  have q5' : (isN sz).p u5 G4 := by rw [esz]; exact q5
  clear q5 esz
  have g04 := g03.trans g4
  refine st_set S 6 g4.ok (R := exR fun o : { o : List Nat // ∃ q : List Nat, q.Perm (List.range sz) ∧ o = q.take cn } => ordR o.val) (J.imp' (vtupLX v (jslLX (J.imp' (R1 := exR fun z : { zs : List Nat // zs.Perm (List.range sz) } => lstR (z.val.map isN)) (jcallM (kn_mixed T) (S.gl _ rfl) hr (r, ns, (List.range sz).map fun i : Nat => V.int (i : Int)) rfl (by show List.length _ ≤ _; simp; omega) (ja (nm S 0 (mv g04 r1')) (ja ((vlistR v (nm S 5 q5') (by omega)).eq (by rw [List.map_map]; rfl)) ja0))) ?_) jo0 (jo1 (nm S 3 (mv g4 q3b))))) ?_) fun u6 G5 H5 g5 ⟨⟨o, q, hq, ho⟩, q6⟩ => ?_
  · rintro x G5 H5 g5 ⟨⟨ys, hp⟩, rx⟩
    obtain ⟨zs, h1, rfl⟩ := perm_back (f := fun i : Nat => V.int (i : Int)) (g := fun v => match v with | .int i => i.toNat | _ => 0) (fun x => by simp) hp
    have rx' : (lstR ((zs.map fun i : Nat => V.int (i : Int)).map isV)).p x G5 := rx
    rw [List.map_map] at rx'
    exact ⟨⟨zs, h1⟩, rx'⟩
  · rintro x G5 H5 g5 ⟨z, rx⟩
    have rx' : (tupR (cutR (z.val.map isN) none (some (cn : Int)))).p x G5 := rx
    rw [cutR_to, ← List.map_take] at rx'
    exact ⟨⟨z.val.take cn, z.val, z.property, rfl⟩, rx'⟩
  have g05 := g04.trans g5
  have hol : o.length = cn := by rw [ho, List.length_take, hq.length_eq, List.length_range]; omega
  have holt : ∀ b ∈ o, b < sz := fun b hb => by rw [ho] at hb; exact List.mem_range.mp (hq.mem_iff.mp (List.mem_of_mem_take hb))
  have hzl : zs.length = cn := by rw [hz.length_eq, List.length_take, hw.length_eq]; show min cn 6 = cn; omega
  have hz4 : ∀ z ∈ zs, z.length ≤ 4 ∧ OkT z LET := fun z h => by
    have := hw.mem_iff.mp (List.mem_of_mem_take (hz.mem_iff.mp h))
    exact ⟨pool_small z this, pool_ok z this⟩
  have q6' : (ordR o).p u6 G5 := q6
  have q4' : (lstR (zs.map isS)).p u4 G5 := mv (g4.trans g5) q4
  have q3c : (isN cn).p u3 G5 := mv (g4.trans g5) q3b
  have q5b : (isN sz).p u5 G5 := mv g5 q5'
  refine st (ps_set (i := 7) S.nd (by rw [S.hN]; rfl) (S.loc _ (by simp)) sE rfl (.inl (S.fn _))) (grepL (n := sz) g5.ok (jlst (ja (jstr (x := "")) ja0) (by simp)) (nm S 5 q5b) (by simp; omega) (by omega) fun vs0 u G6 H6 g6 pr6 hul => ?_)
  show RunS X _ _ [some v1, some v2, some u2, some u3, some u4, some u5, some u6, some (.ref u), none, none, none, none, none, none] (upd H6 u (.lst vs0))
  have g06 := g05.trans g6
  have hu0 : H u = none := by
    cases hh : H u with
    | none => rfl
    | some o => obtain ⟨o', e'⟩ := g06.gr.t _ _ hh; rw [hul] at e'; cases e'
  have nmu : ¬ W.m u := g06.nm hul
  have n6 : G6 u = none := sub_none g6.s hul
  have gA := g06.trans (g06.raw (o := .lst vs0) hul)
  have pr6' : PR G6 vs0 ((List.replicate sz ("" : Str)).map isS) := by
    have e : (List.replicate sz [isS ""]).flatten = (List.replicate sz ("" : Str)).map isS := by
      rw [List.map_replicate]
      induction sz with
      | zero => rfl
      | succ n ih => rw [List.replicate_succ, List.flatten_cons, List.replicate_succ]; simp
    rw [← e]
    exact pr6
  refine st_for ((List.range cn).map isN) gA.ok S.calm hx (jiRange v.b.range (S.gl _ rfl) (nm S 3 (mv g6 q3c)) (by omega)) (S.pg 8) fun G7 H7 g7 => ?_
  have hu7 : H7 u = some (.lst vs0) := g7.gr.h _ _ nmu upd_same
  have n7 : G7 u = none := g7.out upd_same n6
  have g07 := gA.trans g7
  have g57 : Same G5 G7 := g6.g.trans g7.g
  refine ⟨fun i σ' G' H' => ∃ (ps : List Str) (vs : List V) (x : Option V), σ' = [some v1, some v2, some u2, some u3, some u4, some u5, some u6, some (.ref u), x, none, none, none, none, none] ∧ Gw W G H G' H' ∧ Same G7 G' ∧ H' u = some (.lst vs) ∧ G' u = none ∧ PR G' vs (ps.map isS) ∧ ps.length = sz ∧ ∀ z ∈ ps, z = "" ∨ OkT z (LET ++ PNT),
    ⟨List.replicate sz "", vs0, none, rfl, g07, Same.refl _, hu7, n7, PR.mo g7.g pr6', by simp, fun z hz => .inl (List.eq_of_mem_replicate hz)⟩, fun i σ' G' H' ⟨_, _, _, _, h1, h2, _⟩ => ⟨h2, h1.s⟩, ?_, ?_⟩
  · rintro i R w8 σ' G' H' G8 H8 hR ⟨ps, vs, x, rfl, g', sg, hv, nu, pv, hpl, hps⟩ gr8 r8
    have hi : i < cn := by
      rcases Nat.lt_or_ge i cn with q | q
      · exact q
      · rw [List.getElem?_eq_none (by simpa using q)] at hR; cases hR
    rw [List.getElem?_map, List.getElem?_range hi] at hR
    obtain rfl : isN i = R := by simpa using hR
    have g08 := g'.trans (Gw.up0 g'.ok gr8)
    have hv8 := gr8.H _ _ hv
    have n8 := gr8.out hv nu
    have pv8 := PR.mo gr8.g pv
    have g58 : Same G5 G8 := g57.trans (sg.trans gr8.g)
    have hvl : vs.length = sz := by rw [pv.len, List.length_map, hpl]
    show RunS X _ _ [some v1, some v2, some u2, some u3, some u4, some u5, some u6, some (.ref u), some w8, none, none, none, none, none] H8
    refine st_ifX g08.ok (jtcmpX op_eq (jcallM (kn_taken T) (S.gl _ rfl) hr1 (r, ns, 4) rfl ⟨show (0 : Nat) < 4 by decide, show (4 : Nat) ≤ 1000000 by decide⟩ (ja (nm S 0 (mv g08 r1')) (ja (jint (i := 4)) ja0))) (jint (i := 0)) (tw_eqX fun n => rfl)) (fun G9 H9 g9 => ?_) fun G9 H9 g9 => st0 (st0 ⟨G9, ps, vs, _, rfl, g08.trans g9, sg.trans (gr8.g.trans g9.g), g9.gr.h _ _ nmu hv8, g9.out hv8 n8, PR.mo g9.g pv8, hpl, hps⟩)
    have g09 := g08.trans g9
    have hv9 := g9.gr.h _ _ nmu hv8
    have n9 := g9.out hv8 n8
    have pv9 := PR.mo g9.g pv8
    have g59 := g58.trans g9.g
    have hzi : i < zs.length := by omega
    have hzm := hz4 zs[i] (List.getElem_mem hzi)
    have hoi : i < o.length := by omega
    have q4c : (lstR (zs.map isS)).p u4 G9 := Rel.mo _ g59 q4'
    refine st_lset (l := u) (vs := vs) (n := o[i]) (R := exR fun z : { z : Str // OkT z (LET ++ PNT) } => isS z.val) g09.ok (J.imp' (vjoinX (α := { cs : List Nat // cs.length = zs[i].length ∧ ∀ c ∈ cs, c ∈ (LET ++ PNT).cps.toList }) (ys := fun cs => cs.val.map fun c => (⟨#[c]⟩ : Str)) (jstr (x := "")) (J.imp' (slc S 12 zs[i].cps.toList (fun c => isS ⟨#[c]⟩) (fun _ => exR fun c : { c : Nat // c ∈ (LET ++ PNT).cps.toList } => isS ⟨#[c.val]⟩) (jiStr (jixNL (nm S 4 q4c) (nm S 8 (mv g9 r8)) (List.getElem?_eq_getElem hzi))) ?_ fun c x10 G10 H10 hc g10 rc X' B => ?_) ?_) ?_) ?_) (nm S 7 (R := isV (.ref u)) rfl) (jixN (f := isN) (xs := o) (nm S 6 (show (tupR (o.map isN)).p u6 G9 from Rel.mo _ g59 q6')) (nm S 8 (mv g9 r8)) (List.getElem?_eq_getElem hoi)) hv9 nmu (ixN_nat (by have := holt o[i] (List.getElem_mem hoi); omega)) fun z G10 H10 g10 ⟨zz, rz⟩ hv10 => st0 (st0 ?_)
    · have h : zs[i].cps.toList.length = zs[i].length := by simp; rfl
      omega
    · have hcl : c ∈ LET.cps.toList := hzm.2.2.2 c hc
      refine jifX (jtcmpX op_eq (jcallM (kn_taken (B.txt T)) (B.S.gl _ rfl) (B.room hr1) (r, ns, 2) (by rw [B.K]) ⟨show (0 : Nat) < 2 by decide, show (2 : Nat) ≤ 1000000 by decide⟩ (ja (nb B.S 0 (mv (g09.trans g10) r1')) (ja (jint (i := 2)) ja0))) (jint (i := 0)) (tw_eqX fun n => rfl)) (J.imp' (nb B.S 12 rc) fun x G11 H11 g11 rx => ⟨⟨c, ?_⟩, rx⟩) (J.imp' (jstr (x := ".")) fun x G11 H11 g11 rx => ⟨⟨46, by decide +kernel⟩, rx⟩)
      show c ∈ (LET.cps ++ PNT.cps).toList
      rw [Array.toList_append]
      exact List.mem_append_left _ hcl
    · rintro x G10 H10 g10 rx
      obtain ⟨ys, h1, h2⟩ := lst_choose rx
      refine ⟨⟨ys.map (·.val), by rw [List.length_map, h1]; simp; rfl, fun c hc => ?_⟩, ?_⟩
      · obtain ⟨y, _, rfl⟩ := List.mem_map.mp hc
        exact y.property
      · show (lstR (((ys.map (·.val)).map fun c => (⟨#[c]⟩ : Str)).map isS)).p x G10
        rw [List.map_map, List.map_map]
        exact h2
    · intro cs
      have e : ∀ cs : List Nat, ((cs.map fun c => (⟨#[c]⟩ : Str)).map (·.length)).sum = cs.length := by
        intro cs
        induction cs with
        | nil => rfl
        | cons c cs ih => rw [List.map_cons, List.map_cons, List.sum_cons, ih, List.length_cons]; show 1 + cs.length = cs.length + 1; omega
      show ((cs.val.map fun c => (⟨#[c]⟩ : Str)).map (·.length)).sum + (cs.val.map fun c => (⟨#[c]⟩ : Str)).length * ("" : Str).length ≤ 16777216
      rw [e, List.length_map]
      have := cs.property.1
      have e2 : ("" : Str).length = 0 := rfl
      rw [e2]
      omega
    · rintro x G10 H10 g10 ⟨cs, rx⟩
      refine ⟨⟨Txt.join "" (cs.val.map fun c => (⟨#[c]⟩ : Str)), ?_⟩, rx⟩
      have e := join_ones cs.val
      have el : (Txt.join "" (cs.val.map fun c => (⟨#[c]⟩ : Str))).length = cs.val.length := by
        show (Txt.join "" (cs.val.map fun c => (⟨#[c]⟩ : Str))).cps.size = _
        rw [← Array.length_toList, e]
      have h1 := cs.property.1
      have h2 := hzm.2.1
      refine ⟨by rw [el]; omega, by rw [el]; omega, fun c hc => ?_⟩
      rw [e] at hc
      exact cs.property.2 c hc
    · refine ⟨G10, ps.set o[i] zz.val, vs.set o[i] z, _, rfl, (g09.trans g10).set' nmu (g10.out hv9 n9) hu0, sg.trans (gr8.g.trans (g9.g.trans g10.g)), upd_same, g10.out hv9 n9, ?_, by rw [List.length_set]; exact hpl, fun z hz => ?_⟩
      · rw [List.map_set]
        exact (PR.mo g10.g pv9).set rz
      · rcases List.mem_or_eq_of_mem_set hz with q | q
        · exact hps z q
        · rw [q]; exact .inr zz.property
  · rintro σ' G' H' ⟨ps, vs, x, rfl, g', sg, hv, nu, pv, hpl, hps⟩
    obtain ⟨g8, s8⟩ := g'.fin nmu hv nu hu0
    have q7 : (lstR (ps.map isS)).p (.ref u) (upd G' u (.lst vs)) := ⟨u, vs, rfl, upd_same, PR.mo s8 pv⟩
    have g58 : Same G5 (upd G' u (.lst vs)) := g57.trans (sg.trans s8)
    generalize upd G' u (.lst vs) = G8 at g8 s8 q7 g58
    refine st (ps_set (i := 9) S.nd (by rw [S.hN]; rfl) (S.loc _ (by simp)) sE rfl (.inl (S.fn _))) (gE pe_dnewK fun d hdl => ?_)
    show RunS X _ _ [some v1, some v2, some u2, some u3, some u4, some u5, some u6, some (.ref u), x, some (.ref d), none, none, none, none] (upd H' d (.dK []))
    have hd0 : H d = none := by
      cases hh : H d with
      | none => rfl
      | some o => obtain ⟨o', e'⟩ := g8.gr.t _ _ hh; rw [hdl] at e'; cases e'
    have nmd : ¬ W.m d := g8.nm hdl
    have n8 : G8 d = none := sub_none g8.s hdl
    have g0D := g8.trans (g8.raw (o := .dK []) hdl)
    have hzn : zs.Nodup := hz.nodup_iff.mpr ((hw.nodup_iff.mpr pool_nd).sublist (List.take_sublist _ _))
    refine st_for (zs.map isS) g0D.ok S.calm hx (jiL (nm S 4 (Rel.mo _ g58 q4'))) (S.pg 10) fun G9 H9 g9 => ?_
    have g59 := g58.trans g9.g
    refine ⟨fun i σ' G' H' => ∃ (ms : List Mn) (kvs : List (Key × V)) (a b : Option V), σ' = [some v1, some v2, some u2, some u3, some u4, some u5, some u6, some (.ref u), x, some (.ref d), a, b, none, none] ∧ Gw W G H G' H' ∧ Same G9 G' ∧ H' d = some (.dK kvs) ∧ G' d = none ∧ PD G' kvs ((zs.take i).zip (ms.map mnR)) ∧ ms.length = min i zs.length ∧ ∀ m ∈ ms, OkM cn sz m,
      ⟨[], [], none, none, rfl, g0D.trans g9, Same.refl _, g9.gr.h _ _ nmd upd_same, g9.out upd_same n8, .nil, by simp, fun m hm => nomatch hm⟩, fun i σ' G' H' ⟨_, _, _, _, _, h1, h2, _⟩ => ⟨h2, h1.s⟩, ?_, ?_⟩
    · rintro i R w10 σ' Ga Ha G10 H10 hR ⟨ms, kvs, a, b, rfl, g', sg', hv, nd, pd, hml, hms⟩ gr10 r10
      have hi : i < zs.length := by
        rcases Nat.lt_or_ge i zs.length with q | q
        · exact q
        · rw [List.getElem?_eq_none (by simpa using q)] at hR; cases hR
      rw [List.getElem?_map, List.getElem?_eq_getElem hi] at hR
      obtain rfl : isS zs[i] = R := by simpa using hR
      have g010 := g'.trans (Gw.up0 g'.ok gr10)
      have hv10 := gr10.H _ _ hv
      have n10 := gr10.out hv nd
      have g510 : Same G5 G10 := g59.trans (sg'.trans gr10.g)
      have hkl : kvs.length ≤ 1000 := by rw [pd.len, List.length_zip, List.length_take]; omega
      show RunS X _ _ [some v1, some v2, some u2, some u3, some u4, some u5, some u6, some (.ref u), x, some (.ref d), some w10, b, none, none] H10
      refine st_slc S 11 13 o isN (fun _ => exR fun g : GoalT sz => optR g.val) g010.ok (jiT (nm S 6 (Rel.mo _ g510 q6'))) (by omega) (fun bx u11 G11 H11 hb g11 rb X' B => ?_) fun u11 G11 H11 g11 q11 => ?_
      · have hbs := holt bx hb
        refine J.imp' (jcallM (kn_pick (B.txt T)) (B.S.gl _ rfl) (B.room hr) (r, ns, [isN bx, isN bx, ltN sz, isO]) (by rw [B.K]) ⟨Nat.zero_lt_succ _, show (4 : Nat) ≤ 1000000 by decide⟩ (ja (nb B.S 0 (mv (g010.trans g11) r1')) (ja (jlst (ja (nb B.S 13 rb) (ja (nb B.S 13 rb) (ja (jcallM (kn_taken (B.txt T)) (B.S.gl _ rfl) (B.room hr1) (r, ns, sz) (by rw [B.K]) ⟨show 0 < sz by omega, show sz ≤ 1000000 by omega⟩ (ja (nb B.S 0 (mv (g010.trans g11) r1')) (ja (nb B.S 5 (Rel.mo _ (g510.trans g11.g) q5b)) ja0))) (ja jnon ja0)))) (by simp)) ja0))) fun y G12 H12 g12 ⟨n, ry⟩ => ?_
        match n, ry with
        | ⟨0, _⟩, ry => exact ⟨⟨some bx, fun b hb => by cases hb; exact hbs⟩, ry⟩
        | ⟨1, _⟩, ry => exact ⟨⟨some bx, fun b hb => by cases hb; exact hbs⟩, ry⟩
        | ⟨2, _⟩, ⟨m, ry⟩ => exact ⟨⟨some m.val, fun b hb => by cases hb; exact m.isLt⟩, ry⟩
        | ⟨3, _⟩, ry => exact ⟨⟨none, fun b hb => nomatch hb⟩, ry⟩
      · obtain ⟨gs, hgl, q11'⟩ := lst_choose q11
        have g011 := g010.trans g11
        have hv11 := g11.gr.h _ _ nmd hv10
        have n11 := g11.out hv10 n10
        show RunS X _ _ [some v1, some v2, some u2, some u3, some u4, some u5, some u6, some (.ref u), x, some (.ref d), some w10, some u11, none, none] H11
        refine st_dset (l := d) (kvs := kvs) (z := zs[i]) (R := exR fun m : { m : Mn // OkM cn sz m } => mnR m.val) (by omega) g011.ok (J.imp' (jcallM (kn_pick T) (S.gl _ rfl) hr (r, ns, [isS "back", isS "keep", tupR (gs.map fun g => optR g.val), tupR (gs.map fun g => optR g.val), tupR (gs.map fun g => optR g.val)]) rfl ⟨Nat.zero_lt_succ _, show (5 : Nat) ≤ 1000000 by decide⟩ (ja (nm S 0 (mv g011 r1')) (ja (jlst (ja jstr (ja jstr (ja (vtupL v (nm S 11 q11')) (ja (vtupL v (nm S 11 q11')) (ja (vtupL v (nm S 11 q11')) ja0))))) (by simp)) ja0))) ?_) (nm S 9 (R := isV (.ref d)) rfl) (nm S 10 (mv g11 r10)) hv11 nmd hkl fun y G12 H12 g12 ⟨m, ry⟩ hv12 => st0 ⟨G12, ms ++ [m.val], putK kvs (Sum.inr zs[i]) y, _, _, rfl, (g011.trans g12).set' nmd (g12.out hv11 n11) hd0, sg'.trans (gr10.g.trans (g11.g.trans g12.g)), upd_same, g12.out hv11 n11, ?_, ?_, fun m' hm => ?_⟩
        · rintro y G12 H12 g12 ⟨n, ry⟩
          have hseat : OkM cn sz (.seat (gs.map (·.val))) := ⟨by rw [List.length_map, hgl, hol], fun b hb => by
            obtain ⟨g, _, e⟩ := List.mem_map.mp hb
            exact g.property b e⟩
          have es : tupR (gs.map fun g => optR g.val) = mnR (.seat (gs.map (·.val))) := by
            show _ = tupR ((gs.map (·.val)).map optR)
            rw [List.map_map]
            rfl
          match n, ry with
          | ⟨0, _⟩, ry => exact ⟨⟨.back, trivial⟩, ry⟩
          | ⟨1, _⟩, ry => exact ⟨⟨.keep, trivial⟩, ry⟩
          | ⟨2, _⟩, ry => exact ⟨⟨_, hseat⟩, by show (mnR (.seat (gs.map (·.val)))).p y G12; rw [← es]; exact ry⟩
          | ⟨3, _⟩, ry => exact ⟨⟨_, hseat⟩, by show (mnR (.seat (gs.map (·.val)))).p y G12; rw [← es]; exact ry⟩
          | ⟨4, _⟩, ry => exact ⟨⟨_, hseat⟩, by show (mnR (.seat (gs.map (·.val)))).p y G12; rw [← es]; exact ry⟩
        · have := putK_D (z := zs[i]) (PD.mo (gr10.g.trans (g11.g.trans g12.g)) pd) ry
          have hml' : ms.length = i := by rw [hml]; omega
          have en : putD ((zs.take i).zip (ms.map mnR)) zs[i] (mnR m.val) = (zs.take (i + 1)).zip ((ms ++ [m.val]).map mnR) := by
            unfold putD
            rw [if_neg]
            · rw [List.take_succ, List.getElem?_eq_getElem hi, List.map_append]
              show _ = (zs.take i ++ [zs[i]]).zip _
              rw [List.zip_append (by rw [List.length_take, List.length_map, hml']; omega)]
              rfl
            · intro z
              obtain ⟨q, hq, e⟩ := List.any_eq_true.mp z
              have e' : q.1 = zs[i] := of_decide_eq_true e
              obtain ⟨q1, q2⟩ := q
              have hm1 := (List.of_mem_zip hq).1
              obtain ⟨t, ht, et⟩ := List.getElem_of_mem hm1
              rw [List.getElem_take] at et
              rw [List.length_take] at ht
              have := (List.getElem_inj hzn).mp (et.trans e')
              omega
          rw [← en]
          exact this
        · rw [List.length_append, hml]; simp; omega
        · rcases List.mem_append.mp hm with q | q
          · exact hms m' q
          · rw [List.mem_singleton.mp q]; exact m.property
    · rintro σ' Ga Ha ⟨ms, kvs, a, b, rfl, g', sg', hv, nd, pd, hml, hms⟩
      rw [List.length_map, List.take_length] at pd
      rw [List.length_map, Nat.min_self, hzl] at hml
      obtain ⟨g10, s10⟩ := g'.fin nmd hv nd hd0
      have q9 : (dctR (waysD zs ms)).p (.ref d) (upd Ga d (.dK kvs)) := ⟨d, kvs, rfl, upd_same, PD.mo s10 pd⟩
      have g8A := g9.g.trans (sg'.trans s10)
      exact st_ret g10.ok (R := planR) (J.imp' (R := pnR ⟨zs, ps, ms, o⟩) (jtup (ja (vtupL v (nm S 4 (Rel.mo _ (g58.trans g8A) q4'))) (ja (vtupL v (nm S 7 (Rel.mo _ g8A q7))) (ja (nm S 9 q9) (ja (nm S 6 (Rel.mo _ (g58.trans g8A) q6')) ja0)))) (by simp)) fun x G11 H11 g11 rx => ⟨⟨_, scheme_ok h1 h4 hcs h5 hw hz hs hq ho hpl hps hml hms⟩, rx⟩) fun x G11 H11 g11 r => k0 x G11 H11 (g10.trans g11) r
end Lp
/-! ## D23 -/
set_option Elab.async false
set_option linter.all false
set_option maxRecDepth 100000
set_option maxHeartbeats 2000000
/-! Plain: an order is among all that fit if it fits. -/
namespace Lp
open PySem PySem.Spec PyProof.Rows L2
/-- a row grown by one box a name -/
def ExtP (ps : List Str) : List Str → List Nat → List Nat → Prop
  | [], _, u => u = []
  | n :: ns, t, u => ∃ b u', u = b :: u' ∧ b < ps.length ∧ goesP (ps.getD b "") n = true ∧ ¬ b ∈ t ∧ ExtP ps ns (t ++ [b]) u'
theorem mem_extP {g s l : List Nat} : l ∈ extP g s ↔ ∃ b ∈ g, ¬ b ∈ s ∧ l = s ++ [b] := by
  unfold extP
  rw [List.mem_map]
  constructor
  · rintro ⟨b, hb, e⟩
    obtain ⟨h1, h2⟩ := List.mem_filter.mp hb
    exact ⟨b, h1, by simpa using h2, e.symm⟩
  · rintro ⟨b, hb, h2, e⟩
    exact ⟨b, List.mem_filter.mpr ⟨hb, by simpa using h2⟩, e.symm⟩
theorem mem_goodP {ps : List Str} {n : Str} {b : Nat} : b ∈ goodP ps n ↔ b < ps.length ∧ goesP (ps.getD b "") n = true := by
  unfold goodP
  rw [List.mem_filter, List.mem_range]
theorem mem_fold {ps : List Str} : ∀ (ns : List Str) (F : List (List Nat)) (s : List Nat), s ∈ ns.foldl (growP ps) F ↔ ∃ t ∈ F, ∃ u, s = t ++ u ∧ ExtP ps ns t u
  | [], F, s => by
    constructor
    · intro h
      exact ⟨s, h, [], by simp, rfl⟩
    · rintro ⟨t, h, u, rfl, rfl⟩
      rw [List.append_nil]
      exact h
  | n :: ns, F, s => by
    rw [List.foldl_cons, mem_fold ns]
    constructor
    · rintro ⟨t2, h, u, rfl, hu⟩
      obtain ⟨t, ht, hl⟩ := List.mem_flatMap.mp h
      obtain ⟨b, hb, hn, rfl⟩ := mem_extP.mp hl
      obtain ⟨h1, h2⟩ := mem_goodP.mp hb
      exact ⟨t, ht, b :: u, by simp, b, u, rfl, h1, h2, hn, hu⟩
    · rintro ⟨t, ht, u, rfl, b, u', rfl, h1, h2, hn, hu⟩
      exact ⟨t ++ [b], List.mem_flatMap.mpr ⟨t, ht, mem_extP.mpr ⟨b, mem_goodP.mpr ⟨h1, h2⟩, hn, rfl⟩⟩, u', by simp, hu⟩
theorem ext_iff {ps : List Str} : ∀ (ns : List Str) (t u : List Nat), (t ++ u).Nodup → (∀ b ∈ u, b < ps.length) → u.length = ns.length → (ExtP ps ns t u ↔ ∀ j, j < ns.length → goesP (ps.getD (u.getD j 0) "") (ns.getD j "") = true)
  | [], t, u, _, _, hl => by
    constructor
    · intro _ j hj
      exact absurd hj (Nat.not_lt_zero j)
    · intro _
      exact List.eq_nil_of_length_eq_zero hl
  | n :: ns, t, [], _, _, hl => by simp at hl
  | n :: ns, t, b :: u, hd, hlt, hl => by
    have hd' : ((t ++ [b]) ++ u).Nodup := by simpa using hd
    have hbt : ¬ b ∈ t := fun h => (List.nodup_append.mp hd).2.2 b h b List.mem_cons_self rfl
    have ih := ext_iff ns (t ++ [b]) u hd' (fun c hc => hlt c (List.mem_cons_of_mem _ hc)) (by simpa using hl)
    constructor
    · rintro ⟨b', u', e, h1, h2, h3, h4⟩
      cases e
      intro j hj
      cases j with
      | zero => exact h2
      | succ j =>
        have := ih.mp h4 j (by simpa using hj)
        simpa using this
    · intro h
      refine ⟨b, u, rfl, hlt b List.mem_cons_self, ?_, hbt, ih.mpr fun j hj => ?_⟩
      · have := h 0 (by simp)
        simpa using this
      · have := h (j + 1) (by simpa using hj)
        simpa using this
theorem orders_fit {ns ps : List Str} {o : List Nat} (oo : OkO ns.length ps.length o) : decide (o ∈ ordersP ns ps) = fitP ns ps o := by
  have hol := oo.len
  have key : o ∈ ordersP ns ps ↔ (∀ j, j < ns.length → goesP (ps.getD (o.getD j 0) "") (ns.getD j "") = true) ∧ ∀ b, b < ps.length → ¬ ps.getD b "" = "" → b ∈ o := by
    unfold ordersP
    rw [List.mem_filter, mem_fold]
    constructor
    · rintro ⟨⟨t, ht, u, e, hu⟩, hs⟩
      rw [List.mem_singleton.mp ht, List.nil_append] at e
      subst e
      rw [List.mem_singleton.mp ht] at hu
      refine ⟨(ext_iff ns [] o (by simpa using oo.nd) oo.lt hol).mp hu, fun b hb hne => ?_⟩
      rw [filter_empty, List.all_eq_true] at hs
      have hb2 : b ∈ signedP ps := by
        unfold signedP
        rw [List.mem_filter, List.mem_range]
        exact ⟨hb, by simpa using hne⟩
      have := hs b hb2
      simpa using this
    · rintro ⟨h1, h2⟩
      refine ⟨⟨[], List.mem_singleton.mpr rfl, o, rfl, (ext_iff ns [] o (by simpa using oo.nd) oo.lt hol).mpr h1⟩, ?_⟩
      rw [filter_empty, List.all_eq_true]
      intro b hb
      unfold signedP at hb
      obtain ⟨h3, h4⟩ := List.mem_filter.mp hb
      have := h2 b (List.mem_range.mp h3) (by simpa using h4)
      simpa using this
  have ix : ∀ j, j < o.length → o.idxOf (o.getD j 0) = j ∧ o.getD j 0 ∈ o := fun j hj => by
    have e : o.getD j 0 = o[j] := by rw [List.getD_eq_getElem?_getD, List.getElem?_eq_getElem hj]; rfl
    rw [e]
    have hm := List.getElem_mem hj
    refine ⟨?_, hm⟩
    have hl := List.idxOf_lt_length_of_mem hm
    exact (List.getElem_inj oo.nd).mp (List.getElem_idxOf hl)
  have key2 : fitP ns ps o = true ↔ (∀ j, j < ns.length → goesP (ps.getD (o.getD j 0) "") (ns.getD j "") = true) ∧ ∀ b, b < ps.length → ¬ ps.getD b "" = "" → b ∈ o := by
    unfold fitP
    rw [List.all_eq_true]
    constructor
    · intro h
      refine ⟨fun j hj => ?_, fun b hb hne => ?_⟩
      · obtain ⟨e1, e2⟩ := ix j (by omega)
        have := h (o.getD j 0) (List.mem_range.mpr (oo.lt _ e2))
        unfold fitAt at this
        rw [e1] at this
        unfold goesP
        rcases Bool.or_eq_true_iff.mp this with q | q
        · rw [q]; rfl
        · rw [(Bool.and_eq_true_iff.mp q).2, Bool.or_true]
      · have := h b (List.mem_range.mpr hb)
        unfold fitAt at this
        rcases Bool.or_eq_true_iff.mp this with q | q
        · exact absurd (of_decide_eq_true q) hne
        · exact of_decide_eq_true (Bool.and_eq_true_iff.mp q).1
    · rintro ⟨h1, h2⟩ b hb
      have hb' := List.mem_range.mp hb
      unfold fitAt
      by_cases hne : ps.getD b "" = ""
      · rw [decide_eq_true hne]; rfl
      · have hbo := h2 b hb' hne
        have hl := List.idxOf_lt_length_of_mem hbo
        have := h1 (o.idxOf b) (by omega)
        have e : o.getD (o.idxOf b) 0 = b := by rw [List.getD_eq_getElem?_getD, List.getElem?_eq_getElem hl]; exact List.getElem_idxOf hl
        rw [e] at this
        unfold goesP at this
        rw [decide_eq_false hne, Bool.false_or] at this
        rw [decide_eq_true hbo, this]
        simp
  cases hf : fitP ns ps o with
  | true => exact decide_eq_true (key.mpr (key2.mp hf))
  | false => exact decide_eq_false fun h => by rw [key2.mpr (key.mp h)] at hf; cases hf
end Lp
/-! ## D24 -/
set_option Elab.async false
set_option linter.all false
set_option maxRecDepth 100000
set_option maxHeartbeats 2000000
/-! The law's scenes; a shift, a swap, a teaching. -/
namespace Lp
open PySem PySem.Spec PyProof.Rows L2
variable {P : Program} {w : World} {K : PySem.W.Frag} {mg : Str → Option Value} {base : Heap} {HC SC LC TC : Addr}
/-- a scene's facts, as the law keeps them -/
def lfRs (ns : List Str) (f : Fc) : List Rel := [dctR (waysD ns f.ms), ordR f.o, isB f.on, lstR (f.lets.map ltR)]
def lfR (ns : List Str) (f : Fc) : Rel := tupR (lfRs ns f)
def lsR (ns : List Str) (sh : Shf) : Rel := dctR (sh.map fun q => (q.1, lfR ns q.2))
def scnR (ns : List Str) (f : Fc) (sh : Shf) : Rel := tupR [dctR (waysD ns f.ms), ordR f.o, isB f.on, lstR (f.lets.map ltR), lsR ns sh]
/-- (operation, the scene behind it, its result) -/
def stpR (ns ps : List Str) (f : Fc) (sh : Shf) (q : Op) : Rel := tupR [opR q, scnR ns (stepF ns ps f sh q).1 (stepF ns ps f sh q).2, rsR (resF ns ps f sh q)]
def stepR (ns ps : List Str) (f : Fc) (sh : Shf) : Rel := exR fun q : { q : Op // OpOk ns ps f sh q } => stpR ns ps f sh q.val
theorem idx_at {ns : List Str} {i : Nat} (hn : ns.Nodup) (hi : i < ns.length) : ns.idxOf ns[i] = i := (List.getElem_inj hn).mp (List.getElem_idxOf (List.idxOf_lt_length_of_mem (List.getElem_mem hi)))
theorem dat_ord {o : List Nat} : Dat (ordR o) (.tuple (o.map fun i : Nat => .int (i : Int))) := dat_tup (dats_map (fun _ => dat_int) o)
theorem pd_ord {o : List Nat} : Pd 2 (.tuple (o.map fun i : Nat => .int (i : Int))) := Pd.tup (Pd.map fun _ _ => Pd.int _)
theorem any_eqv {os : List (List Nat)} {o : List Nat} : ((os.map fun s => PyData.tuple (s.map fun i : Nat => .int (i : Int))).any fun z => PyData.eqv z (.tuple (o.map fun i : Nat => .int (i : Int)))) = decide (o ∈ os) := by
  rw [List.any_map]
  induction os with
  | nil => rfl
  | cons s os ih =>
    rw [List.any_cons, ih]
    have e : ((fun z => PyData.eqv z (.tuple (o.map fun i : Nat => .int (i : Int)))) ∘ fun s : List Nat => PyData.tuple (s.map fun i : Nat => .int (i : Int))) s = decide (s = o) := by
      show PyData.eqv (.tuple _) (.tuple _) = _
      simp only [PyData.eqv]
      exact eqv_ints s o
    rw [e]
    by_cases h : s = o
    · subst h; simp
    · rw [decide_eq_false h, Bool.false_or]
      have : (o ∈ s :: os) ↔ o ∈ os := by
        rw [List.mem_cons]
        exact ⟨fun q => q.resolve_left fun z => h z.symm, .inr⟩
      exact decide_eq_decide.mpr this.symm
theorem kn_swapped (T : Txt K mg w HC SC LC TC) : Kn P w K mg base 3 "_law_swapped" (spM (fun i : Addr × List Int × Pn × Fc × Shf × Int => RowM K i.2.1 i.1) (fun i => PnOk i.2.2.1 ∧ OkO i.2.2.1.ns.length i.2.2.1.ps.length i.2.2.2.1.o) (fun i => [isV (.ref i.1), pnR i.2.2.1, scnR i.2.2.1.ns i.2.2.2.1 i.2.2.2.2.1, isI i.2.2.2.2.2])
    (fun i => stepR i.2.2.1.ns i.2.2.1.ps i.2.2.2.1 i.2.2.2.2.1)) := by
  refine kn_body T.swapped sc_law_swapped lo_law_swapped (fun _ => rfl) ?_
  rintro X S rfl rfl rfl rfl rfl hx hr vs G H Q ⟨r, nn, p, f, sh, bk⟩ s ⟨pok, oo⟩ pr k
  obtain ⟨v1, v2, v3, v4, rfl, r1, r2, r3, r4⟩ := PR.four pr
  have v := S.vw T.b hr
  have s' : Ok (RowM X.K nn r) G H := s
  have r1' : (isV (.ref r)).p v1 G := r1
  have r2' : (tupR [tupR (p.ns.map isS), tupR (p.ps.map isS), dctR (waysD p.ns p.ms), ordR p.o]).p v2 G := r2
  have r2p : (pnR p).p v2 G := r2
  have r3' : (tupR [dctR (waysD p.ns f.ms), ordR f.o, isB f.on, lstR (f.lets.map ltR), lsR p.ns sh]).p v3 G := r3
  have r4' : (isI bk).p v4 G := r4
  have oo' : OkO p.ns.length p.ps.length f.o := oo
  have k0 : ∀ u G' H', Gw (RowM X.K nn r) G H G' H' → (stepR p.ns p.ps f sh).p u G' → Q u H' := k
  clear k r1 r2 r3 r4 oo
  have n1 : 1 ≤ p.ns.length := pok.ok.n.l1
  have n6 : p.ns.length ≤ 6 := pok.ok.n.l6
  have p6 : p.ps.length ≤ 6 := pok.ok.p.l6
  have hd := asc_nodup pok.ok.n.asc
  have hol : f.o.length = p.ns.length := oo'.len
  have hu : X.A.units + 64 < cLine := by have := hr.un; omega
  refine st_unp5 S 4 5 6 7 8 s' (nm S 2 r3') fun u4 u5 u6 u7 u8 G1 H1 g1 q4 q5 q6 q7 q8 => ?_
  show RunS X _ _ [some v1, some v2, some v3, some v4, some u4, some u5, some u6, some u7, some u8, none, none, none, none, none, none, none, none] H1
  let fr : List Nat := (List.range p.ps.length).filter fun b => !decide (b ∈ f.o)
  refine st_slci S 9 11 (List.range p.ps.length) isN (fun b => !decide (b ∈ f.o)) isN g1.ok (jiRange v.b.range (S.gl _ rfl) ((vlenT v (jixT (nm S 1 (mv g1 r2')) jint at1)).eq (by rw [List.length_map])) (by omega)) (by rw [List.length_range]; omega) (fun b u G2 H2 hb g2 rb X' B => jtcmp op_notIn_seq (nb B.S 11 rb) (nb B.S 5 (mv g2 q5)) tw_ninN) (fun b u G2 H2 hb _ g2 rb X' B => nb B.S 11 rb) fun u9 G2 H2 g2 q9 => ?_
  have q9' : (lstR (fr.map isN)).p u9 G2 := q9
  have g02 := g1.trans g2
  have hfr : ∀ b ∈ fr, b < p.ps.length ∧ ¬ b ∈ f.o := fun b hb => by
    obtain ⟨h1, h2⟩ := List.mem_filter.mp hb
    exact ⟨List.mem_range.mp h1, by simpa using h2⟩
  have hfl : fr.length ≤ 6 := Nat.le_trans (List.length_filter_le _ _) (by rw [List.length_range]; exact p6)
  clear_value fr
  refine st_set S 10 g2.ok (R := ltN f.o.length) (jcallM (kn_taken T) (S.gl _ rfl) (hr.mono (by decide)) (r, nn, f.o.length) rfl ⟨show 0 < f.o.length by omega, show f.o.length ≤ 1000000 by omega⟩ (ja (nm S 0 (mv g02 r1')) (ja ((vlenT v (nm S 5 (mv g2 q5))).eq (by rw [List.length_map])) ja0))) fun u10 G3 H3 g3 ⟨sp, q10⟩ => ?_
  have g03 := g02.trans g3
  have g13 := g2.trans g3
  obtain ⟨i, ei, hi⟩ : ∃ i, i = sp.val ∧ i < f.o.length := ⟨_, rfl, sp.isLt⟩
  have q10' : (isN i).p u10 G3 := by rw [ei]; exact q10
  clear q10 ei
  have hin : i < p.ns.length := by omega
  have enm := idx_at hd hin
  have e1 : (((i : Nat) : Int) + 1) = ((i + 1 : Nat) : Int) := by omega
  refine st_if g3.ok (t := decide (V.int bk = V.int 0) && !(fr.map isN).isEmpty) (jtw (jwa (jtcmp op_eq (nm S 3 (mv g03 r4')) jint (tw_eq rfl)) fun _ => jw1a (jtcmp (op_ne0 (by omega)) (nm S 9 (mv g3 q9')) (jlst ja0 (Nat.zero_le _)) tw_ne0))) (fun t G4 H4 g4 => ?_) fun t G4 H4 g4 => st0 ?_
  · have hne : 0 < fr.length := by
      have := (Bool.and_eq_true_iff.mp t).2
      cases hq : fr with
      | nil => rw [hq] at this; cases this
      | cons a b => simp
    have g14 := g13.trans g4
    have g04 := g1.trans g14
    refine st_set S 11 g4.ok (jcallM (kn_pick T) (S.gl _ rfl) (hr.mono (by decide)) (r, nn, fr.map isN) rfl ⟨show 0 < (fr.map isN).length by rw [List.length_map]; exact hne, show (fr.map isN).length ≤ 1000000 by rw [List.length_map]; omega⟩ (ja (nm S 0 (mv g04 r1')) (ja (nm S 9 (mv (g3.trans g4) q9')) ja0))) fun u11 G5 H5 g5 ⟨n, q11⟩ => ?_
    have hnl : n.val < fr.length := Nat.lt_of_lt_of_eq (show n.val < (fr.map isN).length from n.isLt) (List.length_map ..)
    have q11' : (isN fr[n.val]).p u11 G5 := by
      have : ((fr.map isN)[n.val]'n.isLt).p u11 G5 := q11
      rw [List.getElem_map] at this
      exact this
    obtain ⟨hb1, hb2⟩ := hfr _ (List.getElem_mem hnl)
    generalize fr[n.val] = b at q11' hb1 hb2
    have g15 := g14.trans g5
    have g05 := g1.trans g15
    have g35 := g4.trans g5
    have eo : (cutR (f.o.map isN) none (some ((i : Nat) : Int)) ++ [isN b]) ++ cutR (f.o.map isN) (some (((i + 1 : Nat) : Int))) none = (f.o.set i b).map isN := by
      rw [cutR_to, cutR_from, ← set_cut (by omega)]
      simp [List.map_take, List.map_drop]
    refine st_set S 12 g5.ok (R := ordR (f.o.set i b)) (J.eq (jcatT (jcatT (jslT (nm S 5 (mv g15 q5)) jo0 (jo1 (nm S 10 (mv g35 q10')))) (jtup (ja (nm S 11 q11') ja0) (by simp)) ?_) (jslT (nm S 5 (mv g15 q5)) (jo1 (jadd (nm S 10 (mv g35 q10')) jint)) jo0) ?_) ?_) fun u12 G6 H6 g6 q12 => ?_
    · rw [cutR_to]; simp; omega
    · rw [cutR_to, e1, cutR_from]; simp; omega
    · rw [e1]
      exact congrArg tupR eo
    · have g16 := g15.trans g6
      have g06 := g1.trans g16
      have g36 := g35.trans g6
      have q12' : (ordR (f.o.set i b)).p u12 G6 := q12
      refine st_ret g6.ok (R := stpR p.ns p.ps f sh (.shift p.ns[i] b)) (J.eq (R := tupR [tupR [isS "shift", isS p.ns[i], isN b], tupR [dctR (waysD p.ns f.ms), ordR (f.o.set i b), isB f.on, lstR (f.lets.map ltR), lsR p.ns sh], isN f.o[i]]) (jtup (ja (jtup (ja jstr (ja (jixN (jixT (nm S 1 (mv g06 r2')) jint at0) (nm S 10 (mv g36 q10')) (List.getElem?_eq_getElem hin)) (ja (nm S 11 (mv g6 q11')) ja0))) (by simp)) (ja (jtup (ja (nm S 4 (mv g16 q4)) (ja (nm S 12 q12') (ja (nm S 6 (mv g16 q6)) (ja (nm S 7 (mv g16 q7)) (ja (nm S 8 (mv g16 q8)) ja0))))) (by simp)) (ja (jixN (f := isN) (xs := f.o) (nm S 5 (mv g16 q5)) (nm S 10 (mv g36 q10')) (List.getElem?_eq_getElem hi)) ja0))) (by simp)) ?_) fun u G7 H7 g7 rr => k0 u G7 H7 (g06.trans g7) ⟨⟨.shift p.ns[i] b, List.getElem_mem hin, hb1, hb2⟩, rr⟩
      unfold stpR stepF resF scnR
      dsimp only
      rw [enm, List.getD_eq_getElem?_getD, List.getElem?_eq_getElem hi]
      rfl
  · have g14 := g13.trans g4
    have g04 := g1.trans g14
    have g34 := g4
    refine st_if g4.ok (t := decide (V.int bk = V.int 1) && decide ((1 : Int) < (f.o.length : Int))) (jtw (jwa (jtcmp op_eq (nm S 3 (mv g04 r4')) jint (tw_eq rfl)) fun _ => jw1a (jtcmp op_gt ((vlenT v (nm S 5 (mv g14 q5))).eq (by rw [List.length_map])) jint tw_gt))) (fun t2 G5 H5 g5 => ?_) fun t2 G5 H5 g5 => st0 ?_
    · have hl2 : 1 < f.o.length := by have := of_decide_eq_true (Bool.and_eq_true_iff.mp t2).2; omega
      have g15 := g14.trans g5
      have g05 := g1.trans g15
      have g35 := g34.trans g5
      obtain ⟨j, ej, hj⟩ : ∃ j, j = (i + 1) % f.o.length ∧ j < f.o.length := ⟨_, rfl, Nat.mod_lt _ (by omega)⟩
      have hij : i ≠ j := fun e => by
        rw [ej] at e
        by_cases h : i + 1 < f.o.length
        · rw [Nat.mod_eq_of_lt h] at e; omega
        · have h2 : i + 1 = f.o.length := by omega
          rw [h2, Nat.mod_self] at e; omega
      refine st_set S 13 g5.ok (R := isN j) (J.eq (jmod (jadd (nm S 10 (mv g35 q10')) jint) ((vlenT v (nm S 5 (mv g15 q5))).eq (show isN _ = isN f.o.length by rw [List.length_map])) (by omega)) ?_) fun u13 G6 H6 g6 q13 => ?_
      · show isI _ = isI _
        rw [ej]
        congr 2 <;> omega
      have g16 := g15.trans g6
      have g06 := g1.trans g16
      have g36 := g35.trans g6
      have hjn : j < p.ns.length := by omega
      have enj := idx_at hd hjn
      show RunS X _ _ [some v1, some v2, some v3, some v4, some u4, some u5, some u6, some u7, some u8, some u9, some u10, none, none, some u13, none, none, none] H6
      refine st (ps_set (i := 14) S.nd (by rw [S.hN]; rfl) (S.loc _ (by simp)) sE rfl (.inl (S.fn _))) (glistT v g6.ok (nm S 5 (mv g16 q5)) fun vs0 l G7 H7 g7 pr7 hl => ?_)
      show RunS X _ _ [some v1, some v2, some v3, some v4, some u4, some u5, some u6, some u7, some u8, some u9, some u10, none, none, some u13, some (.ref l), none, none] (upd H7 l (.lst vs0))
      have g7r := g7.raw (o := .lst vs0) hl
      have nml : ¬ (RowM X.K nn r).m l := g7.nm hl
      have nl := sub_none g7.s hl
      have hvl : vs0.length = f.o.length := by rw [pr7.len, List.length_map]
      have g67 := g7.trans g7r
      have g17 := g16.trans g67
      have g37 := g36.trans g67
      have g07 := g06.trans g67
      have hl0 : H l = none := (g06.trans g7).gr.free hl
      refine st_lset2 S g7r.ok (jtup (ja (jixN (f := isN) (xs := f.o) (nm S 5 (mv g17 q5)) (nm S 13 (mv g67 q13)) (List.getElem?_eq_getElem hj)) (ja (jixN (f := isN) (xs := f.o) (nm S 5 (mv g17 q5)) (nm S 10 (mv g37 q10')) (List.getElem?_eq_getElem hi)) ja0)) (by simp)) (nm S 14 (R := isV (.ref l)) rfl) (nm S 10 (mv g37 q10')) (nm S 14 (R := isV (.ref l)) rfl) (nm S 13 (mv g67 q13))
        (fun G8 H8 vs' g8 Q' q => rnm S 14 q) (fun G8 H8 vs' g8 Q' q => rnm S 13 (v := u13) ((show u13 = V.int (j : Int) from q13) ▸ q)) upd_same nml (show i < vs0.length by omega) (show j < vs0.length by omega) fun a c G8 H8 g8 ra rc => ?_
      have h8 : H8 l = some (.lst vs0) := g8.gr.h _ _ nml upd_same
      have n8 : G8 l = none := g8.out upd_same nl
      have g9 : Gw (RowM X.K nn r) G H G8 (upd H8 l (.lst ((vs0.set i a).set j c))) := (g07.trans g8).set' nml n8 hl0
      have pr9 : PR G8 ((vs0.set i a).set j c) ((swapP f.o i j).map isN) := by
        have := (((PR.mo g8.g pr7).set (i := i) ra).set (i := j) rc)
        unfold swapP
        rw [List.map_set, List.map_set, List.getD_eq_getElem?_getD, List.getElem?_eq_getElem hj, List.getD_eq_getElem?_getD, List.getElem?_eq_getElem hi]
        exact this
      obtain ⟨gf, sf⟩ := g9.fin nml upd_same n8 hl0
      have ql : (lstR ((swapP f.o i j).map isN)).p (.ref l) (upd G8 l (.lst ((vs0.set i a).set j c))) := ⟨l, _, rfl, upd_same, PR.mo sf pr9⟩
      have s18 : Same G1 (upd G8 l (.lst ((vs0.set i a).set j c))) := (g17.trans g8).g.trans sf
      have s38 : Same G3 (upd G8 l (.lst ((vs0.set i a).set j c))) := (g37.trans g8).g.trans sf
      have s68 : Same G6 (upd G8 l (.lst ((vs0.set i a).set j c))) := (g67.trans g8).g.trans sf
      generalize upd G8 l (.lst ((vs0.set i a).set j c)) = GA at gf sf ql s18 s38 s68
      generalize upd H8 l (.lst ((vs0.set i a).set j c)) = HA at g9 gf
      have okS := okO_swap (i := i) (j := j) oo' hi hj
      have hsl : (swapP f.o i j).length ≤ 6 := by rw [okS.len]; exact n6
      have horl : (ordersP p.ns p.ps).length ≤ 46656 := by
        unfold ordersP
        refine Nat.le_trans (List.length_filter_le _ _) ?_
        have h1 := fold_len p6 p.ns [[]] 0 (by simp)
        have h2 := pow66 n6
        rw [Nat.zero_add] at h1
        omega
      refine st_set S 15 gf.ok (R := isB (fitP p.ns p.ps (swapP f.o i j))) (J.eq (jcmp (op_inD (by have := hr.un; omega)) (vtupL v (nm S 14 ql)) (jcall (kn_orders T) (S.gl _ rfl) hr p pok (ja (nm S 1 (Rel.mo _ gf.g r2p)) ja0)) (tw_inD dat_ord (dat_lst (dats_map (fun _ => dat_ord) _)) (pd_ord.sh (by decide)) ((Pd.lst (Pd.map fun _ _ => pd_ord)).sh (by decide)))) ?_) fun u15 G10 H10 g10 q15 => ?_
      · rw [any_eqv, orders_fit okS]
      have s110 := s18.trans g10.g
      have s310 := s38.trans g10.g
      have s610 := s68.trans g10.g
      refine st_ret g10.ok (R := stpR p.ns p.ps f sh (.swap p.ns[i] p.ns[j])) (J.eq (R := tupR [tupR [isS "swap", isS p.ns[i], isS p.ns[j]], tupR [dctR (waysD p.ns f.ms), ordR (swapP f.o i j), isB f.on, lstR (f.lets.map ltR), lsR p.ns sh], isB (fitP p.ns p.ps (swapP f.o i j))]) (jtup (ja (jtup (ja jstr (ja (jixN (jixT (nm S 1 (Rel.mo _ (gf.g.trans g10.g) r2')) jint at0) (nm S 10 (Rel.mo _ s310 q10')) (List.getElem?_eq_getElem hin)) (ja (jixN (jixT (nm S 1 (Rel.mo _ (gf.g.trans g10.g) r2')) jint at0) (nm S 13 (Rel.mo _ s610 q13)) (List.getElem?_eq_getElem hjn)) ja0))) (by simp)) (ja (jtup (ja (nm S 4 (Rel.mo _ s110 q4)) (ja (vtupL v (nm S 14 (mv g10 ql))) (ja (nm S 6 (Rel.mo _ s110 q6)) (ja (nm S 7 (Rel.mo _ s110 q7)) (ja (nm S 8 (Rel.mo _ s110 q8)) ja0))))) (by simp)) (ja (nm S 15 q15) ja0))) (by simp)) ?_) fun u G11 H11 g11 rr => k0 u G11 H11 ((gf.trans g10).trans g11) ⟨⟨.swap p.ns[i] p.ns[j], List.getElem_mem hin, List.getElem_mem hjn, fun e => hij ((List.getElem_inj hd).mp e)⟩, rr⟩
      unfold stpR stepF resF scnR
      dsimp only
      rw [enm, enj]
      rfl
    · have g15 := g14.trans g5
      have g05 := g1.trans g15
      refine st_set S 16 g5.ok (R := exR fun t : Bool => isB t) (jcmp op_gt (jcallM (kn_taken T) (S.gl _ rfl) (hr.mono (by decide)) (r, nn, 3) rfl ⟨show (0 : Nat) < 3 by decide, show (3 : Nat) ≤ 1000000 by decide⟩ (ja (nm S 0 (mv g05 r1')) (ja (jint (i := 3)) ja0))) (jint (i := 0)) tw_gtX) fun u16 G6 H6 g6 ⟨y, q16⟩ => ?_
      have g16 := g15.trans g6
      have g06 := g1.trans g16
      refine st_ret g6.ok (R := stpR p.ns p.ps f sh (.teach y)) (jtup (ja (jtup (ja jstr (ja (nm S 16 q16) ja0)) (show 2 ≤ 100000 by decide)) (ja (jtup (ja (nm S 4 (mv g16 q4)) (ja (nm S 5 (mv g16 q5)) (ja (nm S 16 q16) (ja (nm S 7 (mv g16 q7)) (ja (nm S 8 (mv g16 q8)) ja0))))) (by simp)) (ja (nm S 6 (mv g16 q6)) ja0))) (by simp)) fun u G7 H7 g7 rr => k0 u G7 H7 (g06.trans g7) ⟨⟨.teach y, trivial⟩, rr⟩
end Lp
/-! ## D25 -/
set_option Elab.async false
set_option linter.all false
set_option maxRecDepth 100000
set_option maxHeartbeats 2000000
/-! The law: one operation drawn. -/
namespace Lp
open PySem PySem.Spec PyProof.Rows L2
section
variable {W : Md} {X : Cx} {σ : L2.St} {G H G' H' : Hp} {e : Expr} {es : List Expr} {R : Rel} {Rs : List Rel} {pos p : Pos}
/-- a call whose arguments are drawn -/
theorem jcallMX {ι α : Type} {Wd : ι → Md} {cc : ι → Prop} {pre : ι → List Rel} {post : ι → Rel} {k : Nat} {x : Str} (h : Kn X.prog X.w X.K X.mg X.base k x (spM Wd cc pre post)) (hg : Gl X x) (hr : Room k X.A) (i : α → ι) (hW : ∀ a, Wd (i a) = W) (hc : ∀ a, cc (i a)) (ha : JA W X (e :: es) σ G H Rs) (hpr : ∀ vs G1, PR G1 vs Rs → ∃ a, PR G1 vs (pre (i a))) (hpost : ∀ a, post (i a) = R) (hdb : (x == ("__debug__" : Str)) = false := by decide)
    (he : starEach (e :: es) X.env = (false, eval e X.env) :: starEach es X.env := by rfl) (hpl : (backTo pos (starEach es X.env)).any (·.1) = false := by rfl) : J W X (.Call (.Name x p) (e :: es) [] pos) σ G H R := fun G1 H1 g Q q =>
  gcall h hg hr (ha G1 H1 g _ fun vs G2 H2 g2 pr => by
    obtain ⟨a, pr2⟩ := hpr vs G2 pr
    exact ⟨i a, G2, (hW a).symm ▸ g2.ok, hc a, pr2, fun v G3 H3 g3 r => q v G3 H3 (g2.trans (hW a ▸ g3)) (hpost a ▸ r)⟩) hdb he hpl
end
theorem ls_lookup {ns : List Str} {z : Str} : ∀ sh : Shf, (sh.map fun q => (q.1, lfR ns q.2)).lookup z = (sh.lookup z).map (lfR ns)
  | [] => rfl
  | (y, f) :: sh => by
    show ((y, lfR ns f) :: sh.map fun q => (q.1, lfR ns q.2)).lookup z = _
    rw [List.lookup_cons, List.lookup_cons, ls_lookup sh]
    cases z == y <;> rfl
theorem letters_len {ps : List Str} : ∀ ns : List Str, (lettersP ns ps).length = ns.length * ps.length
  | [] => by simp [lettersP]
  | x :: l => by
    have : lettersP (x :: l) ps = ((List.range ps.length).map fun b => (x, b)) ++ lettersP l ps := rfl
    rw [this, List.length_append, letters_len l]
    simp
    rw [Nat.add_mul]
    omega
theorem letters_mem {ns ps : List Str} {l : Str × Nat} (h : l ∈ lettersP ns ps) : l.1 ∈ ns ∧ l.2 < ps.length := by
  obtain ⟨n, hn, h2⟩ := List.mem_flatMap.mp h
  obtain ⟨b, hb, e⟩ := List.mem_map.mp h2
  subst e
  exact ⟨hn, List.mem_range.mp hb⟩
variable {P : Program} {w : World} {K : PySem.W.Frag} {mg : Str → Option Value} {base : Heap} {HC SC LC TC : Addr}
theorem kn_step (T : Txt K mg w HC SC LC TC) : Kn P w K mg base 4 "_law_step" (spM (fun i : Addr × List Int × Pn × Fc × Shf => RowM K i.2.1 i.1) (fun i => PnOk i.2.2.1 ∧ OkH i.2.2.1.ns i.2.2.1.ps i.2.2.2.1.ms ∧ OkO i.2.2.1.ns.length i.2.2.1.ps.length i.2.2.2.1.o ∧ i.2.2.2.1.lets.length ≤ 1000 ∧ i.2.2.2.2.length ≤ 1000) (fun i => [isV (.ref i.1), pnR i.2.2.1, scnR i.2.2.1.ns i.2.2.2.1 i.2.2.2.2])
    (fun i => stepR i.2.2.1.ns i.2.2.1.ps i.2.2.2.1 i.2.2.2.2)) := by
  refine kn_body T.step sc_law_step lo_law_step (fun _ => rfl) ?_
  rintro X S rfl rfl rfl rfl rfl hx hr vs G H Q ⟨r, nn, p, f, sh⟩ s ⟨pok, ok, oo, hll, hsl⟩ pr k
  obtain ⟨v1, v2, v3, rfl, r1, r2, r3⟩ := PR.three pr
  have v := S.vw T.b hr
  have s' : Ok (RowM X.K nn r) G H := s
  have r1' : (isV (.ref r)).p v1 G := r1
  have r2' : (tupR [tupR (p.ns.map isS), tupR (p.ps.map isS), dctR (waysD p.ns p.ms), ordR p.o]).p v2 G := r2
  have r2p : (pnR p).p v2 G := r2
  have r3p : (scnR p.ns f sh).p v3 G := r3
  have r3' : (tupR [dctR (waysD p.ns f.ms), ordR f.o, isB f.on, lstR (f.lets.map ltR), lsR p.ns sh]).p v3 G := r3
  have ok' : OkH p.ns p.ps f.ms := ok
  have oo' : OkO p.ns.length p.ps.length f.o := oo
  have hll' : f.lets.length ≤ 1000 := hll
  have hsl' : sh.length ≤ 1000 := hsl
  have k0 : ∀ u G' H', Gw (RowM X.K nn r) G H G' H' → (stepR p.ns p.ps f sh).p u G' → Q u H' := k
  clear k r1 r2 r3 oo ok hll hsl
  have n1 : 1 ≤ p.ns.length := pok.ok.n.l1
  have n6 : p.ns.length ≤ 6 := pok.ok.n.l6
  have p6 : p.ps.length ≤ 6 := pok.ok.p.l6
  have p1 : p.ns.length ≤ p.ps.length := pok.ok.p.lk
  have hu : X.A.units + 64 < cLine := by have := hr.un; omega
  have hr2 : Room 2 X.A := hr.mono (by decide)
  have hr1 : Room 1 X.A := hr.mono (by decide)
  refine st_unp5 S 3 4 5 6 7 s' (nm S 2 r3') fun u3 u4 u5 u6 u7 G1 H1 g1 q3 q4 q5 q6 q7 => ?_
  show RunS X _ _ [some v1, some v2, some v3, some u3, some u4, some u5, some u6, some u7, none, none, none, none, none, none, none, none, none] H1
  refine st_par S 8 9 g1.ok (R1 := ltN 8) (R2 := exR fun z : { z : Str // OkT z LET } => isS z.val) (ja (jcallM (kn_taken T) (S.gl _ rfl) hr1 (r, nn, 8) rfl ⟨show (0 : Nat) < 8 by decide, show (8 : Nat) ≤ 1000000 by decide⟩ (ja (nm S 0 (mv g1 r1')) (ja (jint (i := 8)) ja0))) (ja (J.imp' (jcallM (kn_pick T) (S.gl _ rfl) hr2 (r, nn, [isS "x", isS "y"]) rfl ⟨Nat.zero_lt_succ _, show (2 : Nat) ≤ 1000000 by decide⟩ (ja (nm S 0 (mv g1 r1')) (ja (jlst (ja jstr (ja jstr ja0)) (show (2 : Nat) ≤ 100000 by decide)) ja0))) ?_) ja0)) fun u8 u9 G2 H2 g2 ⟨kd, q8⟩ ⟨⟨z, hz⟩, q9⟩ => ?_
  · rintro x G2 H2 g2 ⟨n, rx⟩
    match n, rx with
    | ⟨0, _⟩, rx => exact ⟨⟨"x", by unfold OkT; decide +kernel⟩, rx⟩
    | ⟨1, _⟩, rx => exact ⟨⟨"y", by unfold OkT; decide +kernel⟩, rx⟩
  have g02 := g1.trans g2
  have q8' : (isI (kd.val : Int)).p u8 G2 := q8
  have q9' : (isS z).p u9 G2 := q9
  clear q8 q9
  generalize (kd.val : Int) = kk at q8'
  show RunS X _ _ [some v1, some v2, some v3, some u3, some u4, some u5, some u6, some u7, some u8, some u9, none, none, none, none, none, none, none] H2
  refine st_if g2.ok (t := decide (kk < 4)) (jtcmp op_lt (nm S 8 q8') jint tw_lt) (fun t G3 H3 g3 => ?_) fun t G3 H3 g3 => st0 ?_
  · have g03 := g02.trans g3
    have g13 := g2.trans g3
    refine st_set S 10 g3.ok (R := pnR ⟨p.ns, p.ps, f.ms, f.o⟩) (jtup (ja (jixT (nm S 1 (mv g03 r2')) jint at0) (ja (jixT (nm S 1 (mv g03 r2')) jint at1) (ja (nm S 3 (mv g13 q3)) (ja (nm S 4 (mv g13 q4)) ja0)))) (by simp)) fun u10 G4 H4 g4 q10 => ?_
    have g04 := g03.trans g4
    have g14 := g13.trans g4
    have hlt : 0 < (lettersP p.ns p.ps).length ∧ (lettersP p.ns p.ps).length ≤ 36 := by
      rw [letters_len]
      exact ⟨Nat.mul_pos (by omega) (by omega), Nat.mul_le_mul n6 p6⟩
    refine st_set S 11 g4.ok (R := exR fun l : { l : Str × Nat // l.1 ∈ p.ns ∧ l.2 < p.ps.length } => lttR l.val) (J.imp' (jcallM (kn_pick T) (S.gl _ rfl) hr2 (r, nn, (lettersP p.ns p.ps).map lttR) rfl ⟨by show 0 < ((lettersP p.ns p.ps).map lttR).length; rw [List.length_map]; exact hlt.1, by show ((lettersP p.ns p.ps).map lttR).length ≤ 1000000; rw [List.length_map]; omega⟩ (ja (nm S 0 (mv g04 r1')) (ja (jcall (kn_letters T) (S.gl _ rfl) hr1 p pok (ja (nm S 1 (mv g04 r2p)) ja0)) ja0))) ?_) fun u11 G5 H5 g5 ⟨⟨⟨n, b⟩, hn, hb⟩, q11⟩ => ?_
    · rintro x G5 H5 g5 ⟨n, rx⟩
      have hnl : n.val < (lettersP p.ns p.ps).length := Nat.lt_of_lt_of_eq (show n.val < ((lettersP p.ns p.ps).map lttR).length from n.isLt) (List.length_map ..)
      have rx' : (((lettersP p.ns p.ps).map lttR)[n.val]'n.isLt).p x G5 := rx
      rw [List.getElem_map] at rx'
      exact ⟨⟨_, letters_mem (List.getElem_mem hnl)⟩, rx'⟩
    have g05 := g04.trans g5
    have g15 := g14.trans g5
    have q11' : (tupR [isS n, isN b]).p u11 G5 := q11
    have hn' : n ∈ p.ns := hn
    have hb' : b < p.ps.length := hb
    have pok2 : PnOk ⟨p.ns, p.ps, f.ms, f.o⟩ := ⟨ok', oo'⟩
    refine st_unp2 S 12 13 g5.ok (R1 := ordR (wayP p.ns f.ms f.o n b).1) (R2 := isS (wayP p.ns f.ms f.o n b).2) (jcall (kn_way T) (S.gl _ rfl) hr1 (⟨p.ns, p.ps, f.ms, f.o⟩, n, b) ⟨pok2, hn', hb'⟩ (ja (nm S 10 (mv g5 q10)) (ja (nm S 4 (mv g15 q4)) (ja (jixT (nm S 11 q11') jint at0) (ja (jixT (nm S 11 q11') jint at1) ja0))))) fun u12 u13 G6 H6 g6 q12 q13 => ?_
    have wok := wayP_ok (n := n) ok' oo' hb'
    have g06 := g05.trans g6
    have g16 := g15.trans g6
    have kP : ∀ u G' H', Gw (RowM X.K nn r) G6 H6 G' H' → (stpR p.ns p.ps f sh (.post n b)).p u G' → Q u H' := fun u G' H' g rr => k0 u G' H' (g06.trans g) ⟨⟨.post n b, hn', hb'⟩, rr⟩
    unfold stpR stepF resF at kP
    dsimp only at kP
    generalize wayP p.ns f.ms f.o n b = rw at q12 q13 wok kP
    obtain ⟨⟨pre, here, e, hse⟩, hblt, _⟩ := wok
    obtain ⟨bs, wd⟩ := rw
    obtain rfl : bs = pre ++ [here] := e
    have hh : here < p.ps.length := hblt here (by simp)
    have q12' : (ordR (pre ++ [here])).p u12 G6 := q12
    have q13' : (isS wd).p u13 G6 := q13
    have q11'' : (tupR [isS n, isN b]).p u11 G6 := mv g6 q11'
    refine st_set S 14 g6.ok (R := dctR (waysD p.ns (if f.on = true then behindP p.ns f.ms f.o n (pre ++ [here], wd) else f.ms))) (jif (jtval (nm S 5 (mv g16 q5))) (fun t5 => (jcall (kn_taught T) (S.gl _ rfl) hr1 (p, f.ms, f.o, n, (pre, here), wd) ⟨ok', oo', hn', hse, hh⟩ (ja (nm S 1 (mv g06 r2p)) (ja (nm S 3 (mv g16 q3)) (ja (nm S 4 (mv g16 q4)) (ja (jixT (nm S 11 q11'') jint at0) (ja (nm S 12 q12') (ja (nm S 13 q13') ja0))))))).eq (by rw [if_pos t5])) fun t5 => (nm S 3 (mv g16 q3)).eq (by rw [if_neg (by rw [t5]; decide)])) fun u14 G7 H7 g7 q14 => ?_
    have g07 := g06.trans g7
    have g17 := g16.trans g7
    refine st_set S 15 g7.ok (R := optR (answerP (pre ++ [here], wd))) (jif (t := decide (V.str wd = V.str "back")) (jtcmp op_eq (nm S 13 (mv g7 q13')) jstr (tw_eq rfl)) (fun t5 => ?_) fun t5 => ?_) fun u15 G8 H8 g8 q15 => ?_
    · have ew : wd = sBack := V.str.inj (of_decide_eq_true t5)
      have ea : answerP (pre ++ [here], wd) = some pre.length := by unfold answerP; rw [if_pos ew]; simp
      rw [ea]
      refine (jsub ((vlenT v (nm S 12 (mv g7 q12'))).eq (show isN _ = isN (pre.length + 1) by simp)) jint).eq ?_
      show isI _ = isI _
      congr 2
      omega
    · have ew : ¬ wd = sBack := fun q => of_decide_eq_false t5 (congrArg V.str q)
      have ea : answerP (pre ++ [here], wd) = none := by unfold answerP; rw [if_neg ew]
      rw [ea]
      exact jnon
    · have g18 := g17.trans g8
      have g68 := g7.trans g8
      refine st_ret g8.ok (J.eq (R := tupR [tupR ([isS "post"] ++ [isS n, isN b]), tupR [dctR (waysD p.ns (if f.on = true then behindP p.ns f.ms f.o n (pre ++ [here], wd) else f.ms)), ordR f.o, isB f.on, lstR (f.lets.map ltR ++ [tupR ([isS n, isN b] ++ [isS wd])]), lsR p.ns sh], optR (answerP (pre ++ [here], wd))]) (jtup (ja (jcatT (jtup (ja jstr ja0) (by simp)) (nm S 11 (mv g68 q11'')) (by simp)) (ja (jtup (ja (nm S 14 (mv g8 q14)) (ja (nm S 4 (mv g18 q4)) (ja (nm S 5 (mv g18 q5)) (ja (jcatL (nm S 6 (mv g18 q6)) (jlst (ja (jcatT (nm S 11 (mv g68 q11'')) (jtup (ja (nm S 13 (mv g68 q13')) ja0) (by simp)) (by simp)) ja0) (by simp)) (by simp; omega)) (ja (nm S 7 (mv g18 q7)) ja0))))) (by simp)) (ja (nm S 15 q15) ja0))) (by simp)) ?_) fun u G9 H9 g9 rr => kP u G9 H9 (g68.trans g9) rr
      unfold scnR
      dsimp only
      rw [List.map_append]
      rfl
  · have g03 := g02.trans g3
    have g13 := g2.trans g3
    have q7l : (dctR (sh.map fun q => (q.1, lfR p.ns q.2))).p u7 G1 := q7
    refine st_if g3.ok (t := decide (V.int kk = V.int 7) && ((sh.map fun q => (q.1, lfR p.ns q.2)).lookup z).isSome) (jtw (jwa (jtcmp op_eq (nm S 8 (mv g3 q8')) jint (tw_eq rfl)) fun _ => jw1a (vtinD v (nm S 9 (mv g3 q9')) (nm S 7 (mv g13 q7l))))) (fun t2 G4 H4 g4 => ?_) fun t2 G4 H4 g4 => st0 ?_
    · have g04 := g03.trans g4
      have g14 := g13.trans g4
      have hs : ((sh.map fun q => (q.1, lfR p.ns q.2)).lookup z).isSome = true := (Bool.and_eq_true_iff.mp t2).2
      rw [ls_lookup, Option.isSome_map] at hs
      obtain ⟨f2, hf2⟩ := Option.isSome_iff_exists.mp hs
      have hlk : (sh.map fun q => (q.1, lfR p.ns q.2)).lookup z = some (lfR p.ns f2) := by rw [ls_lookup, hf2]; rfl
      have ef : fetchF sh z = f2 := by unfold fetchF; rw [hf2]; rfl
      refine st_ret g4.ok (R := stpR p.ns p.ps f sh (.fetch z)) (J.eq (R := tupR [tupR [isS "fetch", isS z], tupR (lfRs p.ns f2 ++ [lsR p.ns sh]), isN (f2.lets.map ltR).length]) (jtup (ja (jtup (ja jstr (ja (nm S 9 (mv (g3.trans g4) q9')) ja0)) (show (2 : Nat) ≤ 100000 by decide)) (ja (jcatT (vixD (R := tupR (lfRs p.ns f2)) v (nm S 7 (mv g14 q7l)) (nm S 9 (mv (g3.trans g4) q9')) hlk) (jtup (ja (nm S 7 (mv g14 q7)) ja0) (by simp)) (by simp [lfRs])) (ja (vlenL v (jixT (R := lstR (f2.lets.map ltR)) (vixD (R := tupR (lfRs p.ns f2)) v (nm S 7 (mv g14 q7l)) (nm S 9 (mv (g3.trans g4) q9')) hlk) jint at3)) ja0))) (by simp)) ?_) fun u G5 H5 g5 rr => k0 u G5 H5 (g04.trans g5) ⟨⟨.fetch z, by show (sh.lookup z).isSome = true; rw [hf2]; rfl⟩, rr⟩
      unfold stpR stepF resF
      dsimp only
      rw [ef, List.length_map]
      rfl
    · have g04 := g03.trans g4
      have g14 := g13.trans g4
      have g24 := g3.trans g4
      refine st_if g4.ok (t := decide (5 < kk)) (jtcmp op_gt (nm S 8 (mv g24 q8')) jint tw_gt) (fun t3 G5 H5 g5 => ?_) fun t3 G5 H5 g5 => st0 ?_
      · have g05 := g04.trans g5
        have g15 := g14.trans g5
        have g25 := g24.trans g5
        show RunS X _ _ [some v1, some v2, some v3, some u3, some u4, some u5, some u6, some u7, some u8, some u9, none, none, none, none, none, none, none] H5
        refine st (ps_set (i := 16) S.nd (by rw [S.hN]; rfl) (S.loc _ (by simp)) sE rfl (.inl (S.fn _))) (gdictD v g5.ok (nm S 7 (mv g15 q7l)) fun kvs d G6 H6 g6 pd hdl => ?_)
        show RunS X _ _ [some v1, some v2, some v3, some u3, some u4, some u5, some u6, some u7, some u8, some u9, none, none, none, none, none, none, some (.ref d)] (upd H6 d (.dK kvs))
        have nmd : ¬ (RowM X.K nn r).m d := g6.nm hdl
        have nd := sub_none g6.s hdl
        have hd0 : H d = none := (g05.trans g6).gr.free hdl
        have g6r := g6.raw (o := .dK kvs) hdl
        have g56 := g6.trans g6r
        have g06 := g05.trans g56
        have g16 := g15.trans g56
        have g26 := g25.trans g56
        have hkl : kvs.length ≤ 1000 := by rw [pd.len, List.length_map]; exact hsl'
        refine st_dset (l := d) (kvs := kvs) (z := z) (R := lfR p.ns f) (by have := hr.un; omega) g6r.ok (jtup (ja (nm S 3 (mv g16 q3)) (ja (nm S 4 (mv g16 q4)) (ja (nm S 5 (mv g16 q5)) (ja (nm S 6 (mv g16 q6)) ja0)))) (by simp [lfRs])) (nm S 16 (R := isV (.ref d)) rfl) (nm S 9 (mv g26 q9')) upd_same nmd hkl fun y G7 H7 g7 ry hv7 => ?_
        have n7 : G7 d = none := g7.out upd_same nd
        have g7s : Gw (RowM X.K nn r) G H G7 (upd H7 d (.dK (putK kvs (Sum.inr z) y))) := (g06.trans g7).set' nmd n7 hd0
        obtain ⟨gf, sf⟩ := g7s.fin nmd upd_same n7 hd0
        have pd7 := putK_D (z := z) (PD.mo g7.g pd) ry
        rw [← putD_map (g := lfR p.ns)] at pd7
        have qm : (lsR p.ns (putD sh z f)).p (.ref d) (upd G7 d (.dK (putK kvs (Sum.inr z) y))) := ⟨d, _, rfl, upd_same, PD.mo sf pd7⟩
        have s17 : Same G1 (upd G7 d (.dK (putK kvs (Sum.inr z) y))) := (g16.trans g7).g.trans sf
        have s27 : Same G2 (upd G7 d (.dK (putK kvs (Sum.inr z) y))) := (g26.trans g7).g.trans sf
        generalize upd G7 d (.dK (putK kvs (Sum.inr z) y)) = GA at gf qm s17 s27
        generalize upd H7 d (.dK (putK kvs (Sum.inr z) y)) = HA at gf
        refine st_ret gf.ok (R := stpR p.ns p.ps f sh (.keepAs z)) (J.eq (R := tupR [tupR [isS "keep_as", isS z], tupR [dctR (waysD p.ns f.ms), ordR f.o, isB f.on, lstR (f.lets.map ltR), lsR p.ns (putD sh z f)], isB ((sh.map fun q => (q.1, lfR p.ns q.2)).lookup z).isSome]) (jtup (ja (jtup (ja jstr (ja (nm S 9 (Rel.mo _ s27 q9')) ja0)) (show (2 : Nat) ≤ 100000 by decide)) (ja (jtup (ja (nm S 3 (Rel.mo _ s17 q3)) (ja (nm S 4 (Rel.mo _ s17 q4)) (ja (nm S 5 (Rel.mo _ s17 q5)) (ja (nm S 6 (Rel.mo _ s17 q6)) (ja (nm S 16 qm) ja0))))) (by simp)) (ja (vinD v (nm S 9 (Rel.mo _ s27 q9')) (nm S 7 (Rel.mo _ s17 q7l))) ja0))) (by simp)) ?_) fun u G8 H8 g8 rr => k0 u G8 H8 (gf.trans g8) ⟨⟨.keepAs z, hz⟩, rr⟩
        unfold stpR stepF resF scnR
        dsimp only
        rw [ls_lookup, Option.isSome_map]
        rfl
      · have g05 := g04.trans g5
        have g15 := g14.trans g5
        have g25 := g24.trans g5
        refine st_ret g5.ok (R := stepR p.ns p.ps f sh) (jcallMX (kn_swapped T) (S.gl _ rfl) hr (fun bk : Int => (r, nn, p, f, sh, bk)) (fun _ => rfl) (fun _ => ⟨pok, oo'⟩) (ja (nm S 0 (mv g05 r1')) (ja (nm S 1 (mv g05 r2p)) (ja (nm S 2 (mv g05 r3p)) (ja (R := exR fun bk : Int => isI bk) (jifX (jtcmpX op_gt (jcallM (kn_taken T) (S.gl _ rfl) hr1 (r, nn, 4) rfl ⟨show (0 : Nat) < 4 by decide, show (4 : Nat) ≤ 1000000 by decide⟩ (ja (nm S 0 (mv g05 r1')) (ja (jint (i := 4)) ja0))) (jint (i := 0)) tw_gtX) (J.imp' (jsub (nm S 8 (mv g25 q8')) jint) fun _ _ _ _ rx => ⟨_, rx⟩) (J.imp' (jint (i := 2)) fun _ _ _ _ rx => ⟨_, rx⟩)) ja0)))) (fun vs G6 pr6 => ?_) (fun _ => rfl)) fun u G6 H6 g6 rr => k0 u G6 H6 (g05.trans g6) rr
        obtain ⟨a1, a2, a3, a4, rfl, b1, b2, b3, bk, b4⟩ := PR.four pr6
        exact ⟨bk, .cons b1 (.cons b2 (.cons b3 (.cons b4 .nil)))⟩
end Lp
/-! ## D26 -/
set_option Elab.async false
set_option linter.all false
set_option maxRecDepth 100000
set_option maxHeartbeats 2000000
/-! The law: whether a hall shows a scene. -/
namespace Lp
open PySem PySem.Spec PyProof.Rows L2
open SlX (Slt SlO SCls Slot1 slH putS SIsi)
section
variable {X : Cx} {σ : L2.St} {G H : Hp} {e : Expr} {pos : Pos} {HC SC LC TC h dh s ds : Addr} {d : Sd} {f : Str} {c : Sd → Prop} {g : Sd → Rel} {k : Nat}
/-- a hall's property -/
theorem jpr (T : Txt X.K X.mg X.w HC SC LC TC) (K1 : KnP X.prog X.w X.K X.mg X.base k LC f (spPr HC SC LC c g)) (hr : Room (k + 1) X.A) (a : HlOk HC SC LC G H h dh s ds d) (hc : c d) (he : J pureM X e σ G H (isV (.ref h))) (hb : attributeBase e f X.env (eval e X.env) = eval e X.env := by rfl) : J pureM X (.Attribute e f pos) σ G H (g d) := fun G1 H1 g1 Q q =>
  gprop T.ls K1 hr (he G1 H1 g1 _ fun v G2 H2 g2 r => by
    obtain rfl : v = V.ref h := r
    have a2 := a.up0 (g1.trans g2).to0
    exact ⟨h, dh, _, rfl, a2.at_, h, dh, s, ds, G2, d, rfl, g2.s, a2, hc, fun v G3 H3 g3 r3 => q v G3 H3 (g2.trans (Gw.up0 g2.ok g3)) r3⟩) hb
theorem tw_neHouse {ns ps : List Str} {ms : List Mn} {C : Addr} {K : PySem.W.Frag} (ok : OkH ns ps ms) : Tw pureM (rNeOwn K C (spP (fun i : List Str × List Str × List Mn => OkH i.1 i.2.1 i.2.2) (fun i => [hsR C i.1 i.2.1 i.2.2, hsR C i.1 i.2.1 i.2.2]) (fun _ => isB true))) G H (hsR C ns ps ms) (hsR C ns ps ms) (isB false) := fun x y G1 H1 g1 rx ry Q k => by
  obtain ⟨a, dx, us, rfl, h1, h2, p1⟩ := rx
  obtain ⟨b, dy, ws, rfl, h3, h4, p2⟩ := ry
  refine ⟨a, dx, us.map some, b, dy, ws.map some, rfl, rfl, .inr ⟨g1.s _ _ h1, g1.s _ _ h2⟩, .inr ⟨g1.s _ _ h3, g1.s _ _ h4⟩, (ns, ps, ms), G1, .pure g1.s, ok, .cons ⟨a, dx, us, rfl, h1, h2, p1⟩ (.cons ⟨b, dy, ws, rfl, h3, h4, p2⟩ .nil), fun v G' H' g' r' => ⟨true, r', k _ G' H' (Gw.up0 g1.ok g'.to0) rfl⟩⟩
end
def ltD (l : Lt) : PyData := .tuple [.str l.1, .int (l.2.1 : Int), .str l.2.2]
theorem dat_lt (l : Lt) : Dat (ltR l) (ltD l) := dat_tup (.cons dat_str (.cons dat_int (.cons dat_str .nil)))
theorem dat_lets {ls : List Lt} : Dat (lstR (ls.map ltR)) (.list (ls.map ltD)) := dat_lst (dats_map dat_lt ls)
theorem pd_lets {ls : List Lt} (h : ∀ l ∈ ls, PyData.strOk l.1 = true ∧ PyData.strOk l.2.2 = true) : Pd 3 (.list (ls.map ltD)) :=
  Pd.lst (Pd.map fun l hl => Pd.tup fun d hd => by
    simp only [List.mem_cons, List.not_mem_nil, or_false] at hd
    rcases hd with rfl | rfl | rfl
    · exact Pd.str (h l hl).1
    · exact Pd.int _
    · exact Pd.str (h l hl).2)
theorem tw_eqSrt {K : PySem.W.Frag} {G H : Hp} {ks : List Str} (hd : ks.Nodup) (hk : ∀ z ∈ ks, PyData.strOk z = true) : Tw pureM (rEqD K) G H (srtR ks) (srtR ks) (isB true) := fun x y G1 H1 g rx ry Q k => by
  obtain ⟨ys, p1, s1, r1⟩ := rx
  obtain ⟨zs, p2, s2, r2⟩ := ry
  obtain rfl : ys = zs := sorted_same (p1.trans p2.symm) s1 (sorted_asc s2 (p2.nodup_iff.mpr hd))
  exact tw_eqS (W := pureM) (G := G1) (H := H1) (d := .list (ys.map .str)) (dat_lst (dats_map (fun _ => dat_str) ys)) (dat_lst (dats_map (fun _ => dat_str) ys)) (Pd.lst (Pd.map fun z hz => Pd.str (hk z (p1.mem_iff.mp hz)))) (by decide) x y G1 H1 g.rf r1 r2 Q fun v G2 H2 g2 r => k v G2 H2 g2 r
variable {P : Program} {w : World} {K : PySem.W.Frag} {mg : Str → Option Value} {base : Heap} {HC SC LC TC : Addr}
def spShow (HC SC LC : Addr) : Sp := fun vs H Q _ => ∃ h dh s ds G d p vp vc, vs = [.ref h, vp, vc] ∧ Same G H ∧ HlOk HC SC LC G H h dh s ds d ∧ PnOk p ∧ p.ns = d.ns ∧ p.ps = d.ps ∧ FcOk 1000 d.ns d.ps d.f ∧ ShOk 60 d.ns d.ps d.sh ∧ (pnR p).p vp G ∧ (scnR d.ns d.f d.sh).p vc G ∧ ∀ G' H', Gr0 G H G' H' → Q (.bl true) H'
theorem kn_shows (T : Txt K mg w HC SC LC TC) : Kn P w K mg base 7 "_law_shows" (spShow HC SC LC) := by
  refine kn_bodyS T.shows sc_law_shows lo_law_shows (fun vs H Q E ⟨h, dh, s, ds, G, d, p, vp, vc, e, _⟩ => by rw [e]; rfl) ?_
  rintro X S rfl rfl rfl rfl rfl hx hr vs H Q E ⟨h, dh, s, ds, G, d, p, vp, vc, rfl, s0, a, pok, en, ep, fok, sok, rp, rc, k⟩
  have v := S.vw T.b hr
  have hu : X.A.units + 64 < cLine := by have := hr.un; omega
  obtain ⟨ge, Me, Fe⟩ := kn_House_eq (P := X.prog) (w := X.w) (base := X.base) T
  have rp' : (tupR [tupR (d.ns.map isS), tupR (d.ps.map isS), dctR (waysD p.ns p.ms), ordR p.o]).p vp G := by
    have : (tupR [tupR (p.ns.map isS), tupR (p.ps.map isS), dctR (waysD p.ns p.ms), ordR p.o]).p vp G := rp
    rw [← en, ← ep]
    exact this
  have rc' : (tupR [dctR (waysD d.ns d.f.ms), ordR d.f.o, isB d.f.on, lstR (d.f.lets.map ltR), lsR d.ns d.sh]).p vc G := rc
  have hm : (J pureM X (.Name "_law_hall" ⟨0, 0, 0, 0⟩) (start (L_law_shows ++ C_law_shows) [V.ref h, vp, vc]) G H (isV (.ref h))) := nm S 0 rfl
  refine st_ifn (.pure s0) (jtcmp (op_neOwn T.hnf T.hmro Me.at_ Me.fn T.hne Fe (hr.mono (by decide))) (jpr (k := 1) T (kn_Hall_house_now T) (hr.mono (by decide)) a trivial (nm S 0 rfl)) (jHouse T (S.gl _ rfl) hr fok.ok (ja (jixT (nm S 1 rp') jint at0) (ja (jixT (nm S 1 rp') jint at1) (ja (jixT (nm S 2 rc') jint at0) ja0)))) (tw_neHouse fok.ok)) fun G1 H1 g1 => ?_
  have a1 := a.up0 g1.to0
  refine st_ifn g1.ok (jtcmp (op_neD (by omega)) (jpr (k := 1) T (kn_Hall_living T) (hr.mono (by decide)) a1 trivial (nm S 0 rfl)) (jixT (nm S 2 (mv g1 rc')) jint at1) (tw_neS dat_ord dat_ord pd_ord)) fun G2 H2 g2 => ?_
  have a2 := a1.up0 g2.to0
  have g02 := g1.trans g2
  refine st_ifn g2.ok (JT.eq (jtcmp op_ne (jpr (k := 1) T (kn_Hall_teaches T) (hr.mono (by decide)) a2 trivial (nm S 0 rfl)) (jixT (nm S 2 (mv g02 rc')) jint at2) (tw_ne rfl)) (by simp)) fun G3 H3 g3 => ?_
  have a3 := a2.up0 g3.to0
  have g03 := g02.trans g3
  have ek : (d.sh.map fun q => (q.1, lfR d.ns q.2)).map (·.1) = d.sh.map (·.1) := by rw [List.map_map]; rfl
  refine st_ret g3.ok (R := isB (true && true)) (jand (jcmp (op_eqD (by omega)) (jpr (k := 1) T (kn_Hall_posted T) (hr.mono (by decide)) a3 trivial (nm S 0 rfl)) (jixT (nm S 2 (mv g03 rc')) jint at3) (tw_eqS dat_lets dat_lets (pd_lets fun l hl => ⟨okN_str fok.ok.n (fok.lt l hl).1, (fok.lt l hl).2⟩))) fun _ => j1 (jcmp (op_eqD (by omega)) (jpr (k := 1) T (kn_Hall_kept_under T) (hr.mono (by decide)) a3 (by have := sok.sz; show d.sh.length < 64; omega) (nm S 0 rfl)) (vsortedD v (jixT (R := lsR d.ns d.sh) (nm S 2 (mv g03 rc')) jint at4) (R' := srtR (d.sh.map (·.1))) (by rw [List.length_map]; have := sok.sz; omega) fun ys hp hs v G1 q => ⟨ys, by rw [ek] at hp; exact hp, hs, q⟩) (tw_eqSrt sok.nd fun z hz => by
      obtain ⟨q, hq, rfl⟩ := List.mem_map.mp hz
      exact sok.ky q hq))) fun u G4 H4 g4 r => ?_
  obtain rfl : u = V.bl true := r
  exact k G4 H4 (g03.trans g4).to0
end Lp
/-! ## D27 -/
set_option Elab.async false
set_option linter.all false
set_option maxRecDepth 100000
set_option maxHeartbeats 2000000
/-! Plain: the states that a history goes through. -/
namespace Lp
open PySem PySem.Spec PyProof.Rows L2
theorem fc_mono {N M : Nat} {ns ps : List Str} {f : Fc} (h : FcOk N ns ps f) (e : N ≤ M) : FcOk M ns ps f := ⟨h.ok, h.oo, Nat.le_trans h.ll e, h.lt⟩
theorem sh_mono {N M : Nat} {ns ps : List Str} {sh : Shf} (h : ShOk N ns ps sh) (e : N ≤ M) : ShOk M ns ps sh := ⟨Nat.le_trans h.sz e, h.nd, h.ky, fun p hp => fc_mono (h.fc p hp) e⟩
theorem okH_learn {ns ps : List Str} {o : List Nat} {n : Str} {g : Option Nat} (hol : o.length = ns.length) (hg : ∀ b, g = some b → b < ps.length) : ∀ (bs : List Nat) (ms : List Mn), OkH ns ps ms → (∀ b ∈ bs, b ∈ o) → OkH ns ps (learnP ns o n ms bs g)
  | [], ms, h, _ => h
  | b :: bs, ms, h, hb => by
    have hl := List.idxOf_lt_length_of_mem (hb b List.mem_cons_self)
    exact okH_learn hol hg bs (learn1 o (ns.idxOf n) g ms b) (okH_learn1 h (by omega) hg) fun c hc => hb c (List.mem_cons_of_mem _ hc)
theorem okH_behind {ns ps : List Str} {ms : List Mn} {o : List Nat} {n : Str} {b : Nat} (ok : OkH ns ps ms) (oo : OkO ns.length ps.length o) (hb : b < ps.length) : OkH ns ps (behindP ns ms o n (wayP ns ms o n b)) := by
  obtain ⟨⟨pre, here, e, hse⟩, hlt, _⟩ := wayP_ok (n := n) ok oo hb
  generalize wayP ns ms o n b = r at e hlt
  unfold behindP
  have ebut : r.1.dropLast = pre := by rw [e]; simp
  have elast : r.1.getLastD 0 = here := by rw [e]; simp
  rw [ebut, elast]
  have hh : here < ps.length := hlt here (by rw [e]; simp)
  by_cases h1 : r.2 = sKept
  · rw [if_pos h1]
    exact okH_learn oo.len (fun b hb => by cases hb; exact hh) pre ms ok fun b hb => (hse b hb).1
  · rw [if_neg h1]
    by_cases h2 : r.2 = sBack
    · rw [if_pos h2]
      exact okH_learn oo.len (fun b hb => by cases hb) pre ms ok fun b hb => (hse b hb).1
    · rw [if_neg h2]
      exact ok
theorem okO_set {k n : Nat} {o : List Nat} {i b : Nat} (h : OkO k n o) (hb : b < n) (hno : ¬ b ∈ o) : OkO k n (o.set i b) := by
  refine ⟨by rw [List.length_set]; exact h.len, ?_, fun c hc => (List.mem_or_eq_of_mem_set hc).elim (h.lt c) fun e => e ▸ hb⟩
  refine List.pairwise_iff_getElem.mpr fun x y hx hy hxy => ?_
  have hx' : x < o.length := by simpa using hx
  have hy' : y < o.length := by simpa using hy
  rw [List.getElem_set, List.getElem_set]
  split
  · split
    · omega
    · exact fun e => hno (e ▸ List.getElem_mem hy')
  · split
    · exact fun e => hno (e ▸ List.getElem_mem hx')
    · exact fun e => by
        have := (List.getElem_inj h.nd).mp e
        omega
theorem putD_keys {α : Type} {sh : List (Str × α)} {z : Str} {f : α} (hd : (sh.map (·.1)).Nodup) : ((putD sh z f).map (·.1)).Nodup ∧ (putD sh z f).length ≤ sh.length + 1 ∧ ∀ p ∈ putD sh z f, p ∈ sh ∨ p = (z, f) := by
  unfold putD
  by_cases h : (sh.any fun p => decide (p.1 = z)) = true
  · rw [if_pos h]
    refine ⟨?_, by rw [List.length_map]; omega, fun p hp => ?_⟩
    · have e : (sh.map fun p => if p.1 = z then (p.1, f) else p).map (·.1) = sh.map (·.1) := by
        rw [List.map_map]
        refine List.map_congr_left fun p _ => ?_
        show (if p.1 = z then (p.1, f) else p).1 = p.1
        split <;> rfl
      rw [e]
      exact hd
    · obtain ⟨q, hq, rfl⟩ := List.mem_map.mp hp
      by_cases hz : q.1 = z
      · rw [if_pos hz, hz]; exact .inr rfl
      · rw [if_neg hz]; exact .inl hq
  · rw [if_neg h]
    refine ⟨?_, by rw [List.length_append]; simp, fun p hp => ?_⟩
    · rw [List.map_append, List.nodup_append]
      refine ⟨hd, by simp, fun a ha b hb e => h ?_⟩
      have hb' : b = z := List.mem_singleton.mp hb
      obtain ⟨p, hp, e2⟩ := List.mem_map.mp ha
      have e2' : p.1 = a := e2
      exact List.any_eq_true.mpr ⟨p, hp, decide_eq_true (e2'.trans (e.trans hb'))⟩
    · rcases List.mem_append.mp hp with q | q
      · exact .inl q
      · exact .inr (List.mem_singleton.mp q)
theorem step_ok {N : Nat} {ns ps : List Str} {f : Fc} {sh : Shf} {q : Op} (hf : FcOk N ns ps f) (hs : ShOk N ns ps sh) (hq : OpOk ns ps f sh q) : FcOk (N + 1) ns ps (stepF ns ps f sh q).1 ∧ ShOk (N + 1) ns ps (stepF ns ps f sh q).2 := by
  have hf' := fc_mono hf (Nat.le_succ N)
  have hs' := sh_mono hs (Nat.le_succ N)
  have hol := hf.oo.len
  cases q with
  | post n b =>
    obtain ⟨hn, hb⟩ := hq
    refine ⟨⟨?_, hf.oo, ?_, fun l hl => ?_⟩, hs'⟩
    · show OkH ns ps (if f.on = true then _ else f.ms)
      by_cases h : f.on = true
      · rw [if_pos h]; exact okH_behind hf.ok hf.oo hb
      · rw [if_neg h]; exact hf.ok
    · show (f.lets ++ [(n, b, (wayP ns f.ms f.o n b).2)]).length ≤ N + 1
      rw [List.length_append]
      have := hf.ll
      simp
      exact this
    · rcases List.mem_append.mp hl with q | q
      · exact hf.lt l q
      · rw [List.mem_singleton.mp q]
        refine ⟨hn, ?_⟩
        show PyData.strOk (wayP ns f.ms f.o n b).2 = true
        rcases (wayP_ok (n := n) hf.ok hf.oo hb).word with e | e | e | e <;> rw [e] <;> decide +kernel
  | swap n m =>
    obtain ⟨hn, hm, _⟩ := hq
    have h1 := List.idxOf_lt_length_of_mem hn
    have h2 := List.idxOf_lt_length_of_mem hm
    exact ⟨⟨hf.ok, okO_swap hf.oo (by omega) (by omega), hf'.ll, hf.lt⟩, hs'⟩
  | shift n b =>
    obtain ⟨hn, hb, hno⟩ := hq
    exact ⟨⟨hf.ok, okO_set hf.oo hb hno, hf'.ll, hf.lt⟩, hs'⟩
  | teach y => exact ⟨⟨hf.ok, hf.oo, hf'.ll, hf.lt⟩, hs'⟩
  | keepAs z =>
    obtain ⟨h1, h2, h3⟩ := putD_keys (z := z) (f := f) hs.nd
    refine ⟨hf', ⟨by have := hs.sz; show (putD sh z f).length ≤ N + 1; omega, h1, fun p hp => ?_, fun p hp => ?_⟩⟩
    · rcases h3 p hp with q | q
      · exact hs.ky p q
      · rw [q]; exact okT_str hq let_lt
    · rcases h3 p hp with q | q
      · exact hs'.fc p q
      · rw [q]; exact hf'
  | fetch z =>
    have hz : (sh.lookup z).isSome = true := hq
    obtain ⟨f2, h2⟩ := Option.isSome_iff_exists.mp hz
    refine ⟨?_, hs'⟩
    show FcOk (N + 1) ns ps (fetchF sh z)
    have e : fetchF sh z = f2 := by unfold fetchF; rw [h2]; rfl
    rw [e]
    obtain ⟨l1, l2, e1, _⟩ := List.lookup_eq_some_iff.mp h2
    exact hs'.fc (z, f2) (by rw [e1]; simp)
/-! ### histories -/
def OpsOk (d : Sd) (L : List Op) : Prop := ∀ i (hi : i < L.length), OpOk d.ns d.ps (runD d (L.take i)).f (runD d (L.take i)).sh L[i]
theorem runD_snoc {d : Sd} {L : List Op} {q : Op} : runD d (L ++ [q]) = nxt (runD d L) q := by
  unfold runD
  rw [List.foldl_append]
  rfl
theorem opsOk_snoc {d : Sd} {L : List Op} {q : Op} (h : OpsOk d L) (hq : OpOk d.ns d.ps (runD d L).f (runD d L).sh q) : OpsOk d (L ++ [q]) := fun i hi => by
  by_cases hl : i < L.length
  · have e1 : (L ++ [q]).take i = L.take i := by rw [List.take_append_of_le_length (by omega)]
    have e2 : (L ++ [q])[i] = L[i] := List.getElem_append_left hl
    rw [e1, e2]
    exact h i hl
  · have hi' : i = L.length := by rw [List.length_append] at hi; simp at hi; omega
    subst hi'
    have e1 : (L ++ [q]).take L.length = L := by rw [List.take_append_of_le_length (Nat.le_refl _), List.take_length]
    have e2 : (L ++ [q])[L.length] = q := by simp
    rw [e1, e2]
    exact hq
theorem opsOk_init {d : Sd} {L : List Op} {q : Op} (h : OpsOk d (L ++ [q])) : OpsOk d L ∧ OpOk d.ns d.ps (runD d L).f (runD d L).sh q := by
  refine ⟨fun i hi => ?_, ?_⟩
  · have := h i (by rw [List.length_append]; omega)
    rw [List.take_append_of_le_length (by omega), List.getElem_append_left hi] at this
    exact this
  · have := h L.length (by rw [List.length_append]; simp)
    rw [List.take_append_of_le_length (Nat.le_refl _), List.take_length] at this
    have e2 : (L ++ [q])[L.length]'(by rw [List.length_append]; simp) = q := by simp
    rw [e2] at this
    exact this
theorem run_ok {d : Sd} (hf : FcOk 0 d.ns d.ps d.f) (hs : ShOk 0 d.ns d.ps d.sh) (hp : d.past = []) (hu : d.und = []) : ∀ (n : Nat) (L : List Op), L.length = n → OpsOk d L → FcOk n d.ns d.ps (runD d L).f ∧ ShOk n d.ns d.ps (runD d L).sh ∧ (runD d L).past.map (·.1) = L ∧ (runD d L).und = []
  | 0, L, hl, _ => by
    obtain rfl := List.eq_nil_of_length_eq_zero hl
    exact ⟨hf, hs, by show d.past.map _ = []; rw [hp]; rfl, hu⟩
  | n + 1, L, hl, h => by
    have hne : L ≠ [] := fun e => by rw [e] at hl; cases hl
    have e := (List.dropLast_concat_getLast hne).symm
    generalize L.getLast hne = q at e
    generalize L.dropLast = L2 at e
    subst e
    obtain ⟨h1, h2⟩ := opsOk_init h
    obtain ⟨i1, i2, i3, i4⟩ := run_ok hf hs hp hu n L2 (by simpa using hl) h1
    have ens := runD_ns L2 d
    rw [runD_snoc]
    obtain ⟨j1, j2⟩ := step_ok i1 i2 h2
    refine ⟨?_, ?_, ?_, rfl⟩
    · show FcOk (n + 1) d.ns d.ps (stepF (runD d L2).ns (runD d L2).ps _ _ q).1
      rw [ens.1, ens.2]
      exact j1
    · show ShOk (n + 1) d.ns d.ps (stepF (runD d L2).ns (runD d L2).ps _ _ q).2
      rw [ens.1, ens.2]
      exact j2
    · show ((runD d L2).past ++ [(q, (runD d L2).f, (runD d L2).sh)]).map (·.1) = L2 ++ [q]
      rw [List.map_append, i3]
      rfl
/-- what was undone comes again -/
def UnOk (ns ps : List Str) : Fc → Shf → Pst → Prop
  | _, _, [] => True
  | f, sh, (q, f2, sh2) :: r => OpOk ns ps f sh q ∧ stepF ns ps f sh q = (f2, sh2) ∧ UnOk ns ps f2 sh2 r
structure Good (d0 : Sd) (n : Nat) (d : Sd) : Prop where
  ex : ∃ L : List Op, runD d0 L = { d with und := [] } ∧ OpsOk d0 L ∧ L.length + d.und.length ≤ n
  un : UnOk d.ns d.ps d.f d.sh d.und.reverse
theorem Good.up {d0 d : Sd} {n m : Nat} (h : Good d0 n d) (e : n ≤ m) : Good d0 m d := by
  obtain ⟨L, h1, h2, h3⟩ := h.ex
  exact ⟨⟨L, h1, h2, by omega⟩, h.un⟩
theorem Good.ns {d0 d : Sd} {n : Nat} (h : Good d0 n d) : d.ns = d0.ns ∧ d.ps = d0.ps := by
  obtain ⟨L, h1, _, _⟩ := h.ex
  have := runD_ns L d0
  rw [h1] at this
  exact this
theorem good_op {d0 d : Sd} {n : Nat} {q : Op} (h : Good d0 n d) (hq : OpOk d.ns d.ps d.f d.sh q) : Good d0 (n + 1) (nxt d q) := by
  have ens := h.ns
  obtain ⟨L, h1, h2, h3⟩ := h.ex
  refine ⟨⟨L ++ [q], ?_, opsOk_snoc h2 ?_, ?_⟩, trivial⟩
  · rw [runD_snoc, h1]
    rfl
  · rw [h1, ← ens.1, ← ens.2]
    exact hq
  · rw [List.length_append]
    show L.length + 1 + 0 ≤ n + 1
    omega
theorem good_back {d0 d : Sd} {n : Nat} (hp0 : d0.past = []) (hu0 : d0.und = []) (hf : FcOk 0 d0.ns d0.ps d0.f) (hs : ShOk 0 d0.ns d0.ps d0.sh) (h : Good d0 n d) {l : Pst} {p : Op} {f : Fc} {sh : Shf} (e : d.past = l ++ [(p, f, sh)]) : Good d0 n { d with f := f, sh := sh, past := l, und := d.und ++ [(p, d.f, d.sh)] } := by
  have ens := h.ns
  obtain ⟨L, h1, h2, h3⟩ := h.ex
  have hL : L ≠ [] := fun z => by
    rw [z] at h1
    have h4 : d0.past = d.past := by
      have h5 : (runD d0 []).past = ({ d with und := [] } : Sd).past := by rw [h1]
      exact h5
    rw [hp0, e] at h4
    have := congrArg List.length h4
    simp at this
  have eL := (List.dropLast_concat_getLast hL).symm
  generalize L.getLast hL = q at eL
  generalize L.dropLast = L2 at eL
  subst eL
  obtain ⟨h5, h6⟩ := opsOk_init h2
  obtain ⟨_, _, _, i4⟩ := run_ok hf hs hp0 hu0 _ L2 rfl h5
  have ens2 := runD_ns L2 d0
  rw [runD_snoc] at h1
  generalize hd1 : runD d0 L2 = d1 at h1 h6 i4 ens2
  obtain ⟨ns1, ps1, f1, sh1, past1, und1⟩ := d1
  obtain ⟨ns, ps, fc, shc, past, und⟩ := d
  unfold nxt at h1
  simp only [Sd.mk.injEq] at h1
  obtain ⟨e1, e2, e3, e4, e5, _⟩ := h1
  dsimp only at e i4 ens ens2 h6 e1 e2 e3 e4 e5
  rw [e] at e5
  obtain ⟨e6, e7⟩ := List.append_inj' e5 rfl
  simp only [List.cons.injEq, Prod.mk.injEq, and_true] at e7
  obtain ⟨e8, e9, e10⟩ := e7
  subst e1 e2 e6 e8 e9 e10 i4
  have hun := h.un
  dsimp only at hun
  refine ⟨⟨L2, ?_, h5, ?_⟩, ?_⟩
  · exact hd1
  · rw [List.length_append] at h3 ⊢
    dsimp only at h3
    simp at h3 ⊢
    omega
  · show UnOk ns1 ps1 f1 sh1 (und ++ [(q, fc, shc)]).reverse
    rw [List.reverse_append]
    show OpOk ns1 ps1 f1 sh1 q ∧ stepF ns1 ps1 f1 sh1 q = (fc, shc) ∧ UnOk ns1 ps1 fc shc und.reverse
    refine ⟨?_, ?_, hun⟩
    · rw [ens2.1, ens2.2]; exact h6
    · rw [← e3, ← e4]
theorem good_again {d0 d : Sd} {n : Nat} (h : Good d0 n d) {l : Pst} {p : Op} {f : Fc} {sh : Shf} (e : d.und = l ++ [(p, f, sh)]) : Good d0 n { d with f := f, sh := sh, past := d.past ++ [(p, d.f, d.sh)], und := l } := by
  have ens := h.ns
  obtain ⟨L, h1, h2, h3⟩ := h.ex
  have hun := h.un
  rw [e, List.reverse_append] at hun
  obtain ⟨u1, u2, u3⟩ := (show OpOk d.ns d.ps d.f d.sh p ∧ stepF d.ns d.ps d.f d.sh p = (f, sh) ∧ UnOk d.ns d.ps f sh l.reverse from hun)
  refine ⟨⟨L ++ [p], ?_, opsOk_snoc h2 ?_, ?_⟩, u3⟩
  · rw [runD_snoc, h1]
    show ({ d with f := (stepF d.ns d.ps d.f d.sh p).1, sh := (stepF d.ns d.ps d.f d.sh p).2, past := d.past ++ [(p, d.f, d.sh)], und := [] } : Sd) = _
    rw [u2]
  · rw [h1, ← ens.1, ← ens.2]
    exact u1
  · rw [List.length_append]
    rw [e, List.length_append] at h3
    simp at h3 ⊢
    omega
/-! ### the law's past -/
abbrev Pe := Fc × Shf × Option Op
def pastE : Option Op → Pst → Fc → Shf → List Pe
  | q, [], f, sh => [(f, sh, q)]
  | q, (p, f0, sh0) :: r, f, sh => (f0, sh0, q) :: pastE (some p) r f sh
theorem pastE_snoc : ∀ (l : Pst) (q : Option Op) (p : Op) (f0 f : Fc) (sh0 sh : Shf), pastE q (l ++ [(p, f0, sh0)]) f sh = pastE q l f0 sh0 ++ [(f, sh, some p)]
  | [], q, p, f0, f, sh0, sh => rfl
  | (p1, f1, sh1) :: l, q, p, f0, f, sh0, sh => by
    show (f1, sh1, q) :: pastE (some p1) (l ++ [(p, f0, sh0)]) f sh = _
    rw [pastE_snoc l]
    rfl
theorem pastE_len : ∀ (l : Pst) (q : Option Op) (f : Fc) (sh : Shf), (pastE q l f sh).length = l.length + 1
  | [], q, f, sh => rfl
  | (p1, f1, sh1) :: l, q, f, sh => by
    show (pastE (some p1) l f sh).length + 1 = l.length + 1 + 1
    rw [pastE_len l]
theorem pastE_last : ∀ (l : Pst) (q : Option Op) (f : Fc) (sh : Shf), ∃ x q', pastE q l f sh = x ++ [(f, sh, q')]
  | [], q, f, sh => ⟨[], q, rfl⟩
  | (p1, f1, sh1) :: l, q, f, sh => by
    obtain ⟨x, q', e⟩ := pastE_last l (some p1) f sh
    exact ⟨(f1, sh1, q) :: x, q', by show _ :: pastE (some p1) l f sh = _; rw [e]; rfl⟩
theorem pastE_ops : ∀ (l : Pst) (q : Option Op) (f : Fc) (sh : Shf), ((pastE q l f sh).drop 1).map (·.2.2) = l.map fun e => some e.1
  | [], q, f, sh => rfl
  | (p1, f1, sh1) :: l, q, f, sh => by
    show (pastE (some p1) l f sh).map (·.2.2) = some p1 :: l.map fun e => some e.1
    have h : ∀ (l : Pst) (q : Option Op), (pastE q l f sh).map (·.2.2) = q :: l.map fun e => some e.1 := by
      intro l
      induction l with
      | nil => intro q; rfl
      | cons a l ih => intro q; obtain ⟨p2, f2, sh2⟩ := a; show q :: (pastE (some p2) l f sh).map (·.2.2) = _; rw [ih]; rfl
    exact h l _
end Lp
/-! ## D28 -/
set_option Elab.async false
set_option linter.all false
set_option maxRecDepth 100000
set_option maxHeartbeats 2000000
/-! The law's turn: rules, the invariant, whether the hall shows the scene. -/
namespace Lp
open PySem PySem.Spec PyProof.Rows L2
open SlX (Slt SlO SCls Slot1 slH putS SIsi)
section
variable {W : Md} {X : Cx} {σ : L2.St} {G H G' H' : Hp} {a e : Expr} {es : List Expr} {R R1 : Rel} {Rs : List Rel} {pos p p2 tpos p1' p2' p3' : Pos} {sc : Scope} {N C : List Str} {rest : List Stmt} {D : Ends} {x1 x2 x3 : Str} {kt : Nat}
/-- for x in range(n), n drawn -/
theorem st_forR {tg : Expr} {body : List Stmt} {g : TG} {m : Nat} (s : Ok W G H) (calm : X.calm = true) (hx : X.xe = fun _ _ => False) (hm : X.mg "range" = none) (hgl : Gl X "range") (h : J W X e σ G H (ltN m)) (hn : m ≤ 100000) (hg : PG X tg g)
    (k : ∀ n, n < m → ∀ G2 H2, Gw W G H G2 H2 → ∃ Pv : Nat → L2.St → Hp → Hp → Prop, Pv 0 σ G2 H2 ∧ (∀ i σ' G' H', Pv i σ' G' H' → Same G2 G' ∧ Same G' H') ∧
      (∀ i v σ' G' H' G3 H3, i < n → Pv i σ' G' H' → Gr0 G' H' G3 H3 → (isN i).p v G3 → g v σ' H3 fun σ2 H3 => RunS X body { D with nx := fun σ4 H4 => ∃ G4, Pv (i + 1) σ4 G4 H4, ct := fun σ4 H4 => ∃ G4, Pv (i + 1) σ4 G4 H4, bk := RunS X rest D } σ2 H3) ∧
      ∀ σ' G' H', Pv n σ' G' H' → RunS X rest D σ' H') (hs : starEach [e] X.env = [(false, eval e X.env)] := by rfl) (hf : ∀ x, foldedSetIterable (.Call (.Name "range" p) [e] [] p2) X.env x = pure x := by intro _; rfl) : RunS X (.For tg (.Call (.Name "range" p) [e] [] p2) body [] pos :: rest) D σ H := by
  refine st (ps_for (by rw [hx]; exact PassesOwn.never) calm sI hg sS hf) (jiRangeX (Rs := []) hm hgl h hn hs G H s.rf _ fun n Jt Gc Y G2 H2 g2 w hG gv => ?_)
  obtain ⟨Pv, h0, hs, hstep, hd⟩ := k n.val n.isLt G2 H2 g2
  refine for_it w (fun i σ' H' => ∃ G', Pv i σ' G' H') ⟨G2, h0⟩ (fun i σ' H' _ ⟨G', q⟩ => hG H' ((hs _ _ _ _ q).1.trans (hs _ _ _ _ q).2)) ?_ ?_
  · rintro i v σ' H' H'' hi' ⟨G', q⟩ yv
    obtain ⟨G3, g3, r⟩ := gv i (isN i) G' H' v H'' (by rw [List.getElem?_map, List.getElem?_range hi']; rfl) (hs _ _ _ _ q).1 (hs _ _ _ _ q).2 yv
    exact hstep i v σ' G' H' G3 H'' hi' q g3 r
  · rintro σ' H' ⟨G', q⟩
    exact hd σ' G' H' q
theorem rslL {lo hi : Option Expr} {l u : Option Int} (hL : IsL W G H R1 Rs) (ha : J W X a σ G H R1) (hl : JO W X lo σ G H l) (hu : JO W X hi σ G H u) : J W X (.Subscript a (.Slice lo hi none p2) pos) σ G H (lstR (cutR Rs l u)) := by
  obtain ⟨tl, pl, ql⟩ := hl
  obtain ⟨tu, pu, qu⟩ := hu
  refine J.pe (pe_slice sl_list sE pl pu) fun G1 H1 g Q q => ha G1 H1 g _ fun x G2 H2 g2 r => ql G2 H2 (g.trans g2) _ fun G3 H3 g3 => qu G3 H3 ((g.trans g2).trans g3) _ fun G4 H4 g4 => ?_
  have gg : Gw W G1 H1 G4 H4 := (g2.trans g3).trans g4
  obtain ⟨t, vs, e, h4, pr4⟩ := hL x G4 H4 (g.trans gg) (R1.mo (g3.trans g4).g r)
  exact ⟨t, vs, e, SqL.of h4, fun n hn => q _ _ _ (gg.trans (gg.nw hn)) ⟨n, _, rfl, upd_same, PR.mo (Gr.new (m := no) gg.s hn).g (pr4.cut l u)⟩⟩
theorem st_unpX3 {α : Type} {Ra Rb Rc : α → Rel} (S : Sees X N C sc) (i1 i2 i3 : Nat) (s : Ok W G H) (h : J W X e σ G H (exR fun x => tupR [Ra x, Rb x, Rc x])) (k : ∀ x v1 v2 v3 G' H', Gw W G H G' H' → (Ra x).p v1 G' → (Rb x).p v2 G' → (Rc x).p v3 G' → RunS X rest D (((σ.set i1 (some v1)).set i2 (some v2)).set i3 (some v3)) H')
    (h1 : N[i1]? = some x1 := by rfl) (h2 : N[i2]? = some x2 := by rfl) (h3 : N[i3]? = some x3 := by rfl)
    (hs : swapsWithSole [.Tuple [.Name x1 p1', .Name x2 p2', .Name x3 p3'] kt tpos] e pos.line X.env = pure false := by rfl) (hw : swappedStores [.Tuple [.Name x1 p1', .Name x2 p2', .Name x3 p3'] kt tpos] e X.env = pure none := by rfl) :
    RunS X (.Assign [.Tuple [.Name x1 p1', .Name x2 p2', .Name x3 p3'] kt tpos] e pos :: rest) D σ H :=
  st (ps_asg sE (pg_tup S.calm (pgs_cons (S.pg i1 h1) (pgs_cons (S.pg i2 h2) (pgs_cons (S.pg i3 h3) pgs_nil)))) hs hw) (h.here s fun v G' H' g ⟨x, t, vs, e, h, pr⟩ => by
    obtain ⟨v1, v2, v3, rfl, r1, r2, r3⟩ := PR.three pr
    exact ⟨t, [v1, v2, v3], e, sqT g h, rfl, v1, [v2, v3], rfl, v2, [v3], rfl, v3, [], rfl, rfl, k x v1 v2 v3 G' H' g r1 r2 r3⟩)
end
/-! ### the invariant -/
def oopR : Option Op → Rel
  | none => isO
  | some q => opR q
def peR (ns : List Str) (e : Pe) : Rel := tupR [scnR ns e.1 e.2.1, oopR e.2.2]
def unE (e : Op × Fc × Shf) : Pe := (e.2.1, e.2.2, some e.1)
structure LInv (K : PySem.W.Frag) (HC SC LC : Addr) (nn : List Int) (r h dh s ds a b : Addr) (d : Sd) (pl fl : List Rel) (G H : Hp) : Prop where
  sm : Same G H
  row : RowAt K nn r G H
  hl : HlOk HC SC LC G H h dh s ds d
  pa : ∃ pv, H a = some (.lst pv) ∧ PR G pv pl
  na : G a = none
  fa : ∃ fv, H b = some (.lst fv) ∧ PR G fv fl
  nb : G b = none
  ra : a ≠ r
  rb : b ≠ r
  ab : a ≠ b
section
variable {K : PySem.W.Frag} {HC SC LC : Addr} {nn : List Int} {r h dh s ds a b : Addr} {d d' : Sd} {pl fl : List Rel} {G H G' H' : Hp}
theorem RowAt.up0 (x : RowAt K nn r G H) (s : Same G H) (g : Gr0 G H G' H') : RowAt K nn r G' H' := (Gw.up0 (W := RowM K nn r) ⟨s, x⟩ g).i
theorem HlOk.neL (x : HlOk HC SC LC G H h dh s ds d) {c : Addr} {vs : List V} (hc : H c = some (.lst vs)) : h ≠ c ∧ s ≠ c ∧ ds ≠ c := by
  obtain ⟨us, q, _⟩ := x.st.ex
  refine ⟨fun e => ?_, fun e => ?_, fun e => ?_⟩
  · rw [← e, x.at_] at hc; cases hc
  · rw [← e, q.at_] at hc; cases hc
  · rw [← e, q.dx] at hc; cases hc
theorem LInv.okR (i : LInv K HC SC LC nn r h dh s ds a b d pl fl G H) : Ok (RowM K nn r) G H := ⟨i.sm, i.row⟩
theorem LInv.okP (i : LInv K HC SC LC nn r h dh s ds a b d pl fl G H) : Ok pureM G H := .pure i.sm
theorem LInv.up0 (i : LInv K HC SC LC nn r h dh s ds a b d pl fl G H) (g : Gr0 G H G' H') : LInv K HC SC LC nn r h dh s ds a b d pl fl G' H' := by
  obtain ⟨pv, h1, p1⟩ := i.pa
  obtain ⟨fv, h2, p2⟩ := i.fa
  exact ⟨g.s, i.row.up0 i.sm g, i.hl.up0 g, ⟨pv, g.H _ _ h1, PR.mo g.g p1⟩, g.out h1 i.na, ⟨fv, g.H _ _ h2, PR.mo g.g p2⟩, g.out h2 i.nb, i.ra, i.rb, i.ab⟩
theorem LInv.up (i : LInv K HC SC LC nn r h dh s ds a b d pl fl G H) (g : Gw pureM G H G' H') : LInv K HC SC LC nn r h dh s ds a b d pl fl G' H' := i.up0 g.to0
/-- behind a draw -/
theorem LInv.upR (i : LInv K HC SC LC nn r h dh s ds a b d pl fl G H) (g : Gw (RowM K nn r) G H G' H') : LInv K HC SC LC nn r h dh s ds a b d pl fl G' H' := by
  obtain ⟨pv, h1, p1⟩ := i.pa
  obtain ⟨fv, h2, p2⟩ := i.fa
  obtain ⟨vs, _, _, _, hr, _⟩ := i.row.ex
  obtain ⟨n1, n2, n3⟩ := i.hl.neL hr
  exact ⟨g.s, g.i, i.hl.up g.gr n1 n2 n3, ⟨pv, g.gr.h _ _ i.ra h1, PR.mo g.g p1⟩, g.out h1 i.na, ⟨fv, g.gr.h _ _ i.rb h2, PR.mo g.g p2⟩, g.out h2 i.nb, i.ra, i.rb, i.ab⟩
/-- behind an operation of the hall -/
theorem LInv.upH {m : Addr → Prop} (i : LInv K HC SC LC nn r h dh s ds a b d pl fl G H) (g : Gr m G H G' H') (hm : ∀ x, m x → x = h ∨ x = s ∨ x = ds) (hl : HlOk HC SC LC G' H' h dh s ds d') : LInv K HC SC LC nn r h dh s ds a b d' pl fl G' H' := by
  obtain ⟨pv, h1, p1⟩ := i.pa
  obtain ⟨fv, h2, p2⟩ := i.fa
  obtain ⟨vs, a', b', c', hr, pr, h0⟩ := i.row.ex
  have ne : ∀ {c : Addr} {vs : List V}, H c = some (.lst vs) → ¬ m c := fun hc z => by
    obtain ⟨n1, n2, n3⟩ := i.hl.neL hc
    rcases hm _ z with e | e | e
    · exact n1 e.symm
    · exact n2 e.symm
    · exact n3 e.symm
  exact ⟨g.s, ⟨g.out hr i.row.n, vs, a', b', c', g.h _ _ (ne hr) hr, PR.mo g.g pr, h0⟩, hl, ⟨pv, g.h _ _ (ne h1) h1, PR.mo g.g p1⟩, g.out h1 i.na, ⟨fv, g.h _ _ (ne h2) h2, PR.mo g.g p2⟩, g.out h2 i.nb, i.ra, i.rb, i.ab⟩
theorem LInv.swap (i : LInv K HC SC LC nn r h dh s ds a b d pl fl G H) : LInv K HC SC LC nn r h dh s ds b a d fl pl G H := ⟨i.sm, i.row, i.hl, i.fa, i.nb, i.pa, i.na, i.rb, i.ra, Ne.symm i.ab⟩
/-- a raw list written or made anew, apart from the others -/
theorem LInv.putA (i : LInv K HC SC LC nn r h dh s ds a b d pl fl G H) {c : Addr} {vs : List V} {Rs : List Rel} (nc : G c = none) (hc : H c = none ∨ c = a) (cr : c ≠ r) (cb : c ≠ b) (pr : PR G vs Rs) : LInv K HC SC LC nn r h dh s ds c b d Rs fl G (upd H c (.lst vs)) := by
  obtain ⟨pv, h1, p1⟩ := i.pa
  obtain ⟨fv, h2, p2⟩ := i.fa
  obtain ⟨rs, a', b', c', hr, prr, h0⟩ := i.row.ex
  have g : Gr (· = c) G H G (upd H c (.lst vs)) := Gr.set i.sm nc rfl
  have hne : h ≠ c ∧ s ≠ c ∧ ds ≠ c := by
    rcases hc with z | z
    · obtain ⟨us, q, _⟩ := i.hl.st.ex
      refine ⟨fun e => ?_, fun e => ?_, fun e => ?_⟩
      · rw [← e, i.hl.at_] at z; cases z
      · rw [← e, q.at_] at z; cases z
      · rw [← e, q.dx] at z; cases z
    · rw [z]; exact i.hl.neL h1
  exact ⟨g.s, ⟨i.row.n, rs, a', b', c', by rw [upd_ne (Ne.symm cr)]; exact hr, prr, h0⟩, i.hl.up g hne.1 hne.2.1 hne.2.2, ⟨vs, upd_same, pr⟩, nc, ⟨fv, by rw [upd_ne (Ne.symm cb)]; exact h2, p2⟩, i.nb, cr, i.rb, cb⟩
end
def lawFor : List Stmt := match (defBody s_law).getD 4 (.Pass ⟨0, 0, 0, 0⟩) with
  | .For _ _ body _ _ => body
  | _ => []
def lawTail : List Stmt := lawFor.drop 2
section
variable {X : Cx} {σ : L2.St} {G H : Hp} {e1 e2 e3 : Expr} {pos q : Pos} {HC SC LC TC h dh s ds : Addr} {d : Sd} {p : Pn}
theorem jshows (T : Txt X.K X.mg X.w HC SC LC TC) (hg : Gl X "_law_shows") (hr : Room 7 X.A) (hl : HlOk HC SC LC G H h dh s ds d) (pok : PnOk p) (en : p.ns = d.ns) (ep : p.ps = d.ps) (f1 : FcOk 1000 d.ns d.ps d.f) (s1 : ShOk 60 d.ns d.ps d.sh)
    (ha : JA pureM X [e1, e2, e3] σ G H [isV (.ref h), pnR p, scnR d.ns d.f d.sh]) (he : starEach [e1, e2, e3] X.env = (false, eval e1 X.env) :: starEach [e2, e3] X.env := by rfl) (hpl : (backTo pos (starEach [e2, e3] X.env)).any (·.1) = false := by rfl) : J pureM X (.Call (.Name "_law_shows" q) [e1, e2, e3] [] pos) σ G H (isB true) := fun G1 H1 g1 Q k =>
  gcall (kn_shows T) hg hr (ha G1 H1 g1 _ fun vs G2 H2 g2 pr => by
    obtain ⟨x, y, z, rfl, rx, ry, rz⟩ := PR.three pr
    obtain rfl : x = V.ref h := rx
    exact ⟨h, dh, s, ds, G2, d, p, y, z, rfl, g2.s, hl.up0 (g1.trans g2).to0, pok, en, ep, f1, s1, ry, rz, fun G' H' g => k _ G' H' (g2.trans (Gw.up0 g2.ok g)) rfl⟩) (by decide) he hpl
end
section
variable {X : Cx} {HC SC LC TC : Addr} {nn : List Int} {r h dh s ds a b : Addr} {d d0 : Sd} {G H : Hp} {D : Ends} {vs vr vp vg vb : V} {o7 o8 o9 o10 o11 o12 o13 o14 : Option V} {n : Nat} {p : Pn}
/-- behind a turn: the hall shows the scene -/
theorem law_tail (T : Txt X.K X.mg X.w HC SC LC TC) (S : Sees X L_law C_law (defScope s_law)) (hr : Room 7 X.A) (pok : PnOk p) (en : p.ns = d.ns) (ep : p.ps = d.ps) (f1 : FcOk 1000 d.ns d.ps d.f) (s1 : ShOk 60 d.ns d.ps d.sh) (rp : (pnR p).p vp G)
    (i : LInv X.K HC SC LC nn r h dh s ds a b d ((pastE none d.past d.f d.sh).map (peR d.ns)) (d.und.map fun e => peR d.ns (unE e)) G H) (k : ∀ G' H', Gr0 G H G' H' → D.nx [some vs, some vr, some vp, some vg, some (.ref h), some (.ref a), some vb, o7, o8, o9, o10, o11, o12, o13, o14] H') :
    RunS X lawTail D [some vs, some vr, some vp, some vg, some (.ref h), some (.ref a), some vb, o7, o8, o9, o10, o11, o12, o13, o14] H := by
  obtain ⟨pv, hpv, prv⟩ := i.pa
  obtain ⟨xs, q', el⟩ := pastE_last d.past none d.f d.sh
  have elast : atI ((pastE none d.past d.f d.sh).map (peR d.ns)) (-1) = some (tupR [scnR d.ns d.f d.sh, oopR q']) := by
    rw [el]
    exact atI_map (f := peR d.ns) (x := (d.f, d.sh, q')) atI_last
  refine st_ifn i.okP (JT.eq (jtnot (jtval (jshows T (S.gl _ rfl) hr i.hl pok en ep f1 s1 (ja (nm S 4 (R := isV (.ref h)) rfl) (ja (nm S 2 rp) (ja (jixT (rixL (isL_raw hpv (fun z => z) prv) (nm S 5 (R := isV (.ref a)) rfl) (jneg jint) elast) jint at0) ja0)))))) rfl) fun G1 H1 g1 => st0 (k G1 H1 g1.to0)
end
end Lp
/-! ## D29 -/
set_option Elab.async false
set_option linter.all false
set_option maxRecDepth 100000
set_option maxHeartbeats 2000000
/-! The law's turn: undone, done again, a drawn operation. -/
namespace Lp
open PySem PySem.Spec PyProof.Rows L2
open SlX (Slt SlO SCls Slot1 slH putS SIsi)
def lawUndo : List Stmt := match lawFor.getD 1 (.Pass ⟨0, 0, 0, 0⟩) with
  | .If _ x _ _ => x
  | _ => []
def lawElse : Stmt := match lawFor.getD 1 (.Pass ⟨0, 0, 0, 0⟩) with
  | .If _ _ [y] _ => y
  | _ => .Pass ⟨0, 0, 0, 0⟩
def lawRedo : List Stmt := match lawElse with
  | .If _ x _ _ => x
  | _ => []
def lawStep : List Stmt := match lawElse with
  | .If _ _ y _ => y
  | _ => []
theorem PR.snoc {G : Hp} {R : Rel} : ∀ {A : List Rel} {vs : List V}, PR G vs (A ++ [R]) → ∃ us y, vs = us ++ [y] ∧ PR G us A ∧ R.p y G
  | [], _, .cons r .nil => ⟨[], _, rfl, .nil, r⟩
  | S :: A, _, .cons r t => by
    obtain ⟨us, y, rfl, h1, h2⟩ := PR.snoc (A := A) t
    exact ⟨_ :: us, y, rfl, .cons r h1, h2⟩
def rsD : Rs → PyData
  | .opt none => .none
  | .opt (some n) => .int (n : Int)
  | .b t => .bool t
  | .n k => .int (k : Int)
theorem dat_rs (x : Rs) : Dat (rsR x) (rsD x) := by
  match x with
  | .opt none => exact dat_non
  | .opt (some n) => exact dat_int
  | .b t => exact dat_bl
  | .n k => exact dat_int
theorem pd_rs (x : Rs) : Pd 1 (rsD x) := by
  match x with
  | .opt none => exact Pd.none
  | .opt (some n) => exact Pd.int _
  | .b t => exact Pd.bool _
  | .n k => exact Pd.int _
section
variable {X : Cx} {HC SC LC TC : Addr} {nn : List Int} {r h dh s ds a b : Addr} {d d0 : Sd} {G H : Hp} {D : Ends} {vs vp vg : V} {o7 o8 o9 o10 o11 o12 o13 o14 : Option V} {n : Nat} {p : Pn}
abbrev LI (X : Cx) (HC SC LC : Addr) (nn : List Int) (r h dh s ds a b : Addr) (d : Sd) (G H : Hp) : Prop := LInv X.K HC SC LC nn r h dh s ds a b d ((pastE none d.past d.f d.sh).map (peR d.ns)) (d.und.map fun e => peR d.ns (unE e)) G H
theorem law_undo (T : Txt X.K X.mg X.w HC SC LC TC) (S : Sees X L_law C_law (defScope s_law)) (hr : Room 2 X.A) (hp0 : d0.past = []) (hu0 : d0.und = []) (hf : FcOk 0 d0.ns d0.ps d0.f) (hs : ShOk 0 d0.ns d0.ps d0.sh) (gd : Good d0 n d) (hn : d.past.length ≤ 1000 ∧ d.und.length ≤ 1000)
    (i : LI X HC SC LC nn r h dh s ds a b d G H) (k : ∀ b' d' G' H', LI X HC SC LC nn r h dh s ds a b' d' G' H' → Good d0 n d' → Same G G' → D.nx [some vs, some (.ref r), some vp, some vg, some (.ref h), some (.ref a), some (.ref b'), o7, o8, o9, o10, o11, o12, o13, o14] H') :
    RunS X lawUndo D [some vs, some (.ref r), some vp, some vg, some (.ref h), some (.ref a), some (.ref b), o7, o8, o9, o10, o11, o12, o13, o14] H := by
  have v := S.vw T.b hr
  have hlen := pastE_len d.past none d.f d.sh
  refine st (ps_if sT sS sS) (gT (pt_cmpR op_ne sE sE (nomark _)) (gmeth0 T.ls (kn_Hall_undo T) hr ((nm S 4 (R := isV (.ref h)) rfl).here i.okP fun v1 G1 H1 g1 r1 => ?_)))
  obtain rfl : v1 = V.ref h := r1
  have i1 := i.up g1
  refine ⟨h, dh, _, rfl, i1.hl.at_, by rfl, h, dh, s, ds, G1, d, rfl, g1.s, i1.hl, by omega, by omega, fun G2 H2 g2 hl2 => ?_⟩
  have i2 := i1.upH g2 (fun x z => z.elim (fun e => .inr (.inl e)) (fun e => .inr (.inr e))) hl2
  obtain ⟨pv2, hpv2, prv2⟩ := i2.pa
  refine (jcmp op_gt (rlenL v (isL_raw hpv2 (fun z => z) prv2) (nm S 5 (R := isV (.ref a)) rfl)) (jint (i := 1)) tw_gt).here i2.okP fun y G3 H3 g3 r3 => ?_
  refine tw_ne (W := pureM) (G := G3) (H := H3) (x := V.bl (!d.past.isEmpty)) (y := V.bl (decide ((1 : Int) < (((pastE none d.past d.f d.sh).map (peR d.ns)).length : Int)))) rfl _ y G3 H3 g3.rf rfl r3 _ fun z G4 H4 g4 r4 => ⟨_, r4, ?_⟩
  have et : decide ((1 : Int) < (((pastE none d.past d.f d.sh).map (peR d.ns)).length : Int)) = !d.past.isEmpty := by
    rw [List.length_map, hlen]
    cases d.past with
    | nil => rfl
    | cons x l => exact decide_eq_true (by simp; omega)
  rw [et, decide_eq_true rfl]
  show RunS X [] _ _ H4
  refine st0 ?_
  have i4 := (i2.up g3).up g4
  have s04 : Same G G4 := (g1.g.trans g2.g).trans (g3.g.trans g4.g)
  obtain ⟨pv4, hpv4, prv4⟩ := i4.pa
  refine st1 (ps_set (i := 6) S.nd (by rw [S.hN]; rfl) (S.loc _ (by simp)) sE rfl (.inl (S.fn _))) (gE (pe_op op_cat sE sE) (rnm S 6 (v := .ref b) (gE (pe_ifExp sT sE sE) ((jtcmp op_gt (rlenL v (isL_raw hpv4 (fun z => z) prv4) (nm S 5 (R := isV (.ref a)) rfl)) (jint (i := 1)) tw_gt).here i4.okP fun G5 H5 g5 => ?_))))
  rw [et]
  have i5 := i4.up g5
  have s05 := s04.trans g5.g
  cases hemp : d.past.isEmpty with
  | true =>
    show RunE X _ _ H5 _
    have eb : backD d = d := by unfold backD; cases hq : d.past with | nil => rfl | cons x y => rw [hq] at hemp; cases hemp
    refine glst i5.okP ja0 (Nat.zero_le _) fun vs0 u G6 H6 g6 pr6 hu => ?_
    cases pr6
    have i6 := (i5.up g6).up0 (Gr.raw (o := .lst []) g6.s hu)
    obtain ⟨fv, hfv, pfv⟩ := i6.fa
    refine ⟨b, u, fv, [], rfl, rfl, hfv, upd_same, by rw [sizeLine_eq, pfv.len, List.length_map]; simp; omega, fun q hq => ?_⟩
    have hqr : q ≠ r := fun e => by obtain ⟨_, _, _, _, hh, _⟩ := i6.row.ex; have hz := hh.symm.trans ((congrArg _ e.symm).trans hq); cases hz
    have hqa : q ≠ a := fun e => by obtain ⟨_, hh, _⟩ := i6.pa; have hz := hh.symm.trans ((congrArg _ e.symm).trans hq); cases hz
    rw [List.append_nil]
    have i7 := (i6.swap.putA (i6.sm.free hq) (.inl hq) hqr hqa pfv).swap
    rw [eb] at i7
    exact k q d _ _ i7 gd (s05.trans g6.g)
  | false =>
    obtain ⟨l, ⟨qo, f, sh⟩, e1, e2, e3⟩ := last_split hemp
    have eb : backD d = { d with f := f, sh := sh, past := l, und := d.und ++ [(qo, d.f, d.sh)] } := by unfold backD; rw [e2, e3]
    have epl : (pastE none d.past d.f d.sh).map (peR d.ns) = (pastE none l f sh).map (peR d.ns) ++ [peR d.ns (d.f, d.sh, some qo)] := by rw [e1, pastE_snoc, List.map_append]; rfl
    show RunE X _ _ H5 _
    rw [epl, eb] at i5
    obtain ⟨pv5, hpv5, prv5⟩ := i5.pa
    obtain ⟨us, y5, rfl, pus, ry5⟩ := PR.snoc prv5
    refine gE (pe_lst sA) (gA (pa_cons sE sA) (gE (pe_bm0 PySem.F.plainAttrs_list PySem.F.slot_list_pop PySem.F.type_list_pop mt_pop sE) (rnm S 5 (v := .ref a) ⟨.inl ⟨rfl, _, SqL.of hpv5⟩, a, us ++ [y5], y5, rfl, rfl, hpv5, by simp, gA pa_nil ⟨by rw [sizeLine_eq]; simp, fun u hu => ?_⟩⟩)))
    have i6 := i5.putA (c := a) (vs := (us ++ [y5]).dropLast) i5.na (.inr rfl) i5.ra i5.ab (by rw [List.dropLast_concat]; exact pus)
    have i7 := i6.up0 (Gr.raw (o := .lst [y5]) i6.sm hu)
    obtain ⟨fv, hfv, pfv⟩ := i7.fa
    refine ⟨b, u, fv, [y5], rfl, rfl, hfv, upd_same, by rw [sizeLine_eq, pfv.len, List.length_map]; simp; omega, fun q hq => ?_⟩
    have hqr : q ≠ r := fun e => by obtain ⟨_, _, _, _, hh, _⟩ := i7.row.ex; have hz := hh.symm.trans ((congrArg _ e.symm).trans hq); cases hz
    have hqa : q ≠ a := fun e => by obtain ⟨_, hh, _⟩ := i7.pa; have hz := hh.symm.trans ((congrArg _ e.symm).trans hq); cases hz
    have i8 := (i7.swap.putA (c := q) (vs := fv ++ [y5]) (i7.sm.free hq) (.inl hq) hqr hqa (pfv.app (.cons ry5 .nil))).swap
    refine k q _ _ _ ?_ (good_back hp0 hu0 hf hs gd e1) s05
    show LInv X.K HC SC LC nn r h dh s ds a q { d with f := f, sh := sh, past := l, und := d.und ++ [(qo, d.f, d.sh)] } ((pastE none l f sh).map (peR d.ns)) ((d.und ++ [(qo, d.f, d.sh)]).map fun e => peR d.ns (unE e)) _ _
    rw [List.map_append]
    exact i8
theorem law_redo (T : Txt X.K X.mg X.w HC SC LC TC) (S : Sees X L_law C_law (defScope s_law)) (hr : Room 2 X.A) (gd : Good d0 n d) (hn : d.past.length ≤ 1000 ∧ d.und.length ≤ 1000)
    (i : LI X HC SC LC nn r h dh s ds a b d G H) (k : ∀ a' d' G' H', LI X HC SC LC nn r h dh s ds a' b d' G' H' → Good d0 n d' → Same G G' → D.nx [some vs, some (.ref r), some vp, some vg, some (.ref h), some (.ref a'), some (.ref b), o7, o8, o9, o10, o11, o12, o13, o14] H') :
    RunS X lawRedo D [some vs, some (.ref r), some vp, some vg, some (.ref h), some (.ref a), some (.ref b), o7, o8, o9, o10, o11, o12, o13, o14] H := by
  have v := S.vw T.b hr
  have hu' : X.A.units + 64 < cLine := by have := hr.un; omega
  have hlen := pastE_len d.past none d.f d.sh
  refine st (ps_if sT sS sS) (gT (pt_cmpR op_ne sE sE (nomark _)) (gmeth0 T.ls (kn_Hall_redo T) hr ((nm S 4 (R := isV (.ref h)) rfl).here i.okP fun v1 G1 H1 g1 r1 => ?_)))
  obtain rfl : v1 = V.ref h := r1
  have i1 := i.up g1
  refine ⟨h, dh, _, rfl, i1.hl.at_, by rfl, h, dh, s, ds, G1, d, rfl, g1.s, i1.hl, by omega, by omega, fun G2 H2 g2 hl2 => ?_⟩
  have i2 := i1.upH g2 (fun x z => z.elim (fun e => .inr (.inl e)) (fun e => .inr (.inr e))) hl2
  obtain ⟨fv2, hfv2, pfv2⟩ := i2.fa
  refine (jcmp (op_ne0 (by omega)) (nm S 6 (R := isV (.ref b)) rfl) (jlst ja0 (Nat.zero_le _)) (tw_ne0L (isL_raw hfv2 (fun z => z) pfv2))).here i2.okP fun y G3 H3 g3 r3 => ?_
  refine tw_ne (W := pureM) (G := G3) (H := H3) (x := V.bl (!d.und.isEmpty)) (y := V.bl (!(d.und.map fun e => peR d.ns (unE e)).isEmpty)) rfl _ y G3 H3 g3.rf rfl r3 _ fun z G4 H4 g4 r4 => ⟨_, r4, ?_⟩
  have et : (!(d.und.map fun e => peR d.ns (unE e)).isEmpty) = !d.und.isEmpty := by cases d.und <;> rfl
  rw [et, decide_eq_true rfl]
  show RunS X [] _ _ H4
  refine st0 ?_
  have i4 := (i2.up g3).up g4
  have s04 : Same G G4 := (g1.g.trans g2.g).trans (g3.g.trans g4.g)
  obtain ⟨fv4, hfv4, pfv4⟩ := i4.fa
  refine st1 (ps_set (i := 5) S.nd (by rw [S.hN]; rfl) (S.loc _ (by simp)) sE rfl (.inl (S.fn _))) (gE (pe_op op_cat sE sE) (rnm S 5 (v := .ref a) (gE (pe_ifExp sT sE sE) ((jtcmp (op_ne0 (by omega)) (nm S 6 (R := isV (.ref b)) rfl) (jlst ja0 (Nat.zero_le _)) (tw_ne0L (isL_raw hfv4 (fun z => z) pfv4))).here i4.okP fun G5 H5 g5 => ?_))))
  rw [et]
  have i5 := i4.up g5
  have s05 := s04.trans g5.g
  cases hemp : d.und.isEmpty with
  | true =>
    show RunE X _ _ H5 _
    have eb : againD d = d := by unfold againD; cases hq : d.und with | nil => rfl | cons x y => rw [hq] at hemp; cases hemp
    refine glst i5.okP ja0 (Nat.zero_le _) fun vs0 u G6 H6 g6 pr6 hu => ?_
    cases pr6
    have i6 := (i5.up g6).up0 (Gr.raw (o := .lst []) g6.s hu)
    obtain ⟨pv, hpv, ppv⟩ := i6.pa
    refine ⟨a, u, pv, [], rfl, rfl, hpv, upd_same, by rw [sizeLine_eq, ppv.len, List.length_map]; simp; omega, fun q hq => ?_⟩
    have hqr : q ≠ r := fun e => by obtain ⟨_, _, _, _, hh, _⟩ := i6.row.ex; have hz := hh.symm.trans ((congrArg _ e.symm).trans hq); cases hz
    have hqb : q ≠ b := fun e => by obtain ⟨_, hh, _⟩ := i6.fa; have hz := hh.symm.trans ((congrArg _ e.symm).trans hq); cases hz
    rw [List.append_nil]
    have i7 := i6.putA (i6.sm.free hq) (.inl hq) hqr hqb ppv
    rw [eb] at i7
    exact k q d _ _ i7 gd (s05.trans g6.g)
  | false =>
    obtain ⟨l, ⟨qo, f, sh⟩, e1, e2, e3⟩ := last_split hemp
    have eb : againD d = { d with f := f, sh := sh, past := d.past ++ [(qo, d.f, d.sh)], und := l } := by unfold againD; rw [e2, e3]
    have epl : (d.und.map fun e => peR d.ns (unE e)) = (l.map fun e => peR d.ns (unE e)) ++ [peR d.ns (f, sh, some qo)] := by rw [e1, List.map_append]; rfl
    show RunE X _ _ H5 _
    rw [epl, eb] at i5
    obtain ⟨fv5, hfv5, pfv5⟩ := i5.fa
    obtain ⟨us, y5, rfl, pus, ry5⟩ := PR.snoc pfv5
    refine gE (pe_lst sA) (gA (pa_cons sE sA) (gE (pe_bm0 PySem.F.plainAttrs_list PySem.F.slot_list_pop PySem.F.type_list_pop mt_pop sE) (rnm S 6 (v := .ref b) ⟨.inl ⟨rfl, _, SqL.of hfv5⟩, b, us ++ [y5], y5, rfl, rfl, hfv5, by simp, gA pa_nil ⟨by rw [sizeLine_eq]; simp, fun u hu => ?_⟩⟩)))
    have i6 := (i5.swap.putA (c := b) (vs := (us ++ [y5]).dropLast) i5.nb (.inr rfl) i5.rb (Ne.symm i5.ab) (by rw [List.dropLast_concat]; exact pus)).swap
    have i7 := i6.up0 (Gr.raw (o := .lst [y5]) i6.sm hu)
    obtain ⟨pv, hpv, ppv⟩ := i7.pa
    refine ⟨a, u, pv, [y5], rfl, rfl, hpv, upd_same, by rw [sizeLine_eq, ppv.len, List.length_map]; simp; omega, fun q hq => ?_⟩
    have hqr : q ≠ r := fun e => by obtain ⟨_, _, _, _, hh, _⟩ := i7.row.ex; have hz := hh.symm.trans ((congrArg _ e.symm).trans hq); cases hz
    have hqb : q ≠ b := fun e => by obtain ⟨_, hh, _⟩ := i7.fa; have hz := hh.symm.trans ((congrArg _ e.symm).trans hq); cases hz
    have i8 := i7.putA (c := q) (vs := pv ++ [y5]) (i7.sm.free hq) (.inl hq) hqr hqb (ppv.app (.cons ry5 .nil))
    refine k q _ _ _ ?_ (good_again gd e1) s05
    show LInv X.K HC SC LC nn r h dh s ds q b { d with f := f, sh := sh, past := d.past ++ [(qo, d.f, d.sh)], und := l } ((pastE none (d.past ++ [(qo, d.f, d.sh)]) f sh).map (peR d.ns)) (l.map fun e => peR d.ns (unE e)) _ _
    rw [pastE_snoc, List.map_append]
    exact i8
theorem law_step (T : Txt X.K X.mg X.w HC SC LC TC) (S : Sees X L_law C_law (defScope s_law)) (hr : Room 12 X.A) (gd : Good d0 n d) (hn : d.past.length ≤ 1000 ∧ d.und.length ≤ 1000) (pok : PnOk p) (en : p.ns = d.ns) (ep : p.ps = d.ps) (rp : (pnR p).p vp G) (f1 : FcOk 1000 d.ns d.ps d.f) (s1 : ShOk 60 d.ns d.ps d.sh)
    (i : LI X HC SC LC nn r h dh s ds a b d G H) (k : ∀ a' b' d' G' H' o9 o10 o11, LI X HC SC LC nn r h dh s ds a' b' d' G' H' → Good d0 (n + 1) d' → Same G G' → D.nx [some vs, some (.ref r), some vp, some vg, some (.ref h), some (.ref a'), some (.ref b'), o7, o8, o9, o10, o11, o12, o13, o14] H') :
    RunS X lawStep D [some vs, some (.ref r), some vp, some vg, some (.ref h), some (.ref a), some (.ref b), o7, o8, o9, o10, o11, o12, o13, o14] H := by
  obtain ⟨ns, ps, f, sh, past, und⟩ := d
  dsimp only at en ep hn f1 s1
  subst en ep
  have v := S.vw T.b hr
  have hu' : X.A.units + 64 < cLine := by have := hr.un; omega
  have hlen := pastE_len past none f sh
  obtain ⟨pv, hpv, prv⟩ := i.pa
  have prv' : PR G pv ((pastE none past f sh).map (peR p.ns)) := prv
  obtain ⟨xs, q', el⟩ := pastE_last past none f sh
  have elast : atI ((pastE none past f sh).map (peR p.ns)) (-1) = some (tupR [scnR p.ns f sh, oopR q']) := by
    rw [el]
    exact atI_map (f := peR p.ns) (x := (f, sh, q')) atI_last
  refine st_unpX3 (α := { q : Op // OpOk p.ns p.ps f sh q }) (Ra := fun q => opR q.val) (Rb := fun q => scnR p.ns (stepF p.ns p.ps f sh q.val).1 (stepF p.ns p.ps f sh q.val).2) (Rc := fun q => rsR (resF p.ns p.ps f sh q.val)) S 9 10 11 i.okR (show J _ X _ _ G H (stepR p.ns p.ps f sh) from jcallM (kn_step T) (S.gl _ rfl) (hr.mono (by decide)) (r, nn, p, f, sh) rfl ⟨pok, f1.ok, f1.oo, f1.ll, by have := s1.sz; show sh.length ≤ 1000; omega⟩ (ja (nm S 1 (R := isV (.ref r)) rfl) (ja (nm S 2 rp) (ja (jixT (rixL (isL_raw hpv i.ra prv') (nm S 5 (R := isV (.ref a)) rfl) (jneg jint) elast) jint at0) ja0)))) fun ⟨q, hq⟩ v9 v10 v11 G1 H1 g1 q9 q10 q11 => ?_
  have q9' : (opR q).p v9 G1 := q9
  have q10' : (scnR p.ns (stepF p.ns p.ps f sh q).1 (stepF p.ns p.ps f sh q).2).p v10 G1 := q10
  have q11' : (rsR (resF p.ns p.ps f sh q)).p v11 G1 := q11
  clear q9 q10 q11
  have i1 := i.upR g1
  show RunS X _ _ [some vs, some (.ref r), some vp, some vg, some (.ref h), some (.ref a), some (.ref b), o7, o8, some v9, some v10, some v11, o12, o13, o14] H1
  refine st (ps_if sT sS sS) (gT (pt_cmpR (op_neD (by omega)) sE sE (nomark _)) (gmeth T.ls (kn_Hall_apply_all T) hr ((nm S 4 (R := isV (.ref h)) rfl).here i1.okP fun v1 G2 H2 g2 r2 => ?_)))
  obtain rfl : v1 = V.ref h := r2
  have i2 := i1.up g2
  refine ⟨h, dh, _, rfl, i2.hl.at_, by rfl, (ja (jlst (ja (nm S 9 (mv g2 q9')) ja0) (by simp)) ja0).here g2.ok fun ws G3 H3 g3 pw => ?_⟩
  obtain ⟨w1, rfl, rw1⟩ := PR.one pw
  have i3 := i2.up g3
  have sdok : SdOk 5000 ⟨p.ns, p.ps, f, sh, past, und⟩ := ⟨fc_mono f1 (by decide), sh_mono s1 (by decide), by show past.length ≤ 5000; omega, by show und.length ≤ 5000; omega⟩
  refine ⟨h, dh, s, ds, G3, ⟨p.ns, p.ps, f, sh, past, und⟩, [q], w1, rfl, g3.s, i3.hl, by simp, rw1, fun j hj => ?_, fun v4 G4 H4 g4 hl4 r4 => ?_⟩
  · obtain rfl : j = 0 := by simp at hj; omega
    exact ⟨sdok, hq⟩
  have i4 := i3.upH g4 (fun x z => z) hl4
  have s14 : Same G1 G4 := (g2.g.trans g3.g).trans g4.g
  refine (jlst (ja (nm S 11 (Rel.mo _ s14 q11')) ja0) (by simp)).here i4.okP fun y G5 H5 g5 r5 => ?_
  have r4' : (lstR [rsR (resF p.ns p.ps f sh q)]).p v4 G5 := Rel.mo _ g5.g r4
  refine tw_neS (W := pureM) (G := G5) (H := H5) (d := .list [rsD (resF p.ns p.ps f sh q)]) (dat_lst (.cons (dat_rs _) .nil)) (dat_lst (.cons (dat_rs _) .nil)) (Pd.lst (pd_rs (resF p.ns p.ps f sh q)).one) (by decide) v4 y G5 H5 g5.rf r4' r5 _ fun z G6 H6 g6 r6 => ⟨false, r6, ?_⟩
  show RunS X [] _ _ H6
  refine st0 ?_
  have i6 := (i4.up g5).up g6
  have s16 : Same G1 G6 := s14.trans (g5.g.trans g6.g)
  refine st_parA S 5 6 (gA (pa_cons sE sA) (gE (pe_op op_cat sE sE) (rnm S 5 (v := .ref a) (glst i6.okP (ja (jtup (ja (nm S 10 (Rel.mo _ s16 q10')) (ja (nm S 9 (Rel.mo _ s16 q9')) ja0)) (by simp)) ja0) (by simp) fun vs0 u G7 H7 g7 pr7 hu => ?_))))
  have i7 := (i6.up g7).up0 (Gr.raw (o := .lst vs0) g7.s hu)
  obtain ⟨pv7, hpv7, ppv7⟩ := i7.pa
  have hvl : vs0.length = 1 := pr7.len
  refine ⟨a, u, pv7, vs0, rfl, rfl, hpv7, upd_same, by rw [sizeLine_eq, ppv7.len, List.length_map, hvl]; show (pastE none past f sh).length + 1 ≤ _; omega, fun a' ha' => ?_⟩
  have hqr : a' ≠ r := fun e => by obtain ⟨_, _, _, _, hh, _⟩ := i7.row.ex; have hz := hh.symm.trans ((congrArg _ e.symm).trans ha'); cases hz
  have hqb : a' ≠ b := fun e => by obtain ⟨_, hh, _⟩ := i7.fa; have hz := hh.symm.trans ((congrArg _ e.symm).trans ha'); cases hz
  have i8 := i7.putA (c := a') (vs := pv7 ++ vs0) (i7.sm.free ha') (.inl ha') hqr hqb (ppv7.app pr7)
  refine gA (pa_cons sE sA) (gE (pe_lst sA) (gA pa_nil ⟨by simp, fun b' hb' => gA pa_nil ⟨_, _, rfl, st0 ?_⟩⟩))
  have hbr : b' ≠ r := fun e => by obtain ⟨_, _, _, _, hh, _⟩ := i8.row.ex; have hz := hh.symm.trans ((congrArg _ e.symm).trans hb'); cases hz
  have hba : b' ≠ a' := fun e => by obtain ⟨_, hh, _⟩ := i8.pa; have hz := hh.symm.trans ((congrArg _ e.symm).trans hb'); cases hz
  have i9 := (i8.swap.putA (c := b') (vs := []) (Rs := []) (i8.sm.free hb') (.inl hb') hbr hba .nil).swap
  refine k a' b' (nxt ⟨p.ns, p.ps, f, sh, past, und⟩ q) G7 _ _ _ _ ?_ (good_op gd hq) (g1.g.trans (s16.trans g7.g))
  show LInv X.K HC SC LC nn r h dh s ds a' b' (nxt ⟨p.ns, p.ps, f, sh, past, und⟩ q) ((pastE none (past ++ [(q, f, sh)]) (stepF p.ns p.ps f sh q).1 (stepF p.ns p.ps f sh q).2).map (peR p.ns)) [] _ _
  rw [pastE_snoc, List.map_append]
  exact i9
end
end Lp
/-! ## D30 -/
set_option Elab.async false
set_option linter.all false
set_option maxRecDepth 100000
set_option maxHeartbeats 2000000
/-! The law. -/
namespace Lp
open PySem PySem.Spec PyProof.Rows L2
open SlX (Slt SlO SCls Slot1 slH putS SIsi)
open ClX (CRead CMet)
def opD : Op → PyData
  | .post n b => .tuple [.str "post", .str n, .int (b : Int)]
  | .swap n m => .tuple [.str "swap", .str n, .str m]
  | .shift n b => .tuple [.str "shift", .str n, .int (b : Int)]
  | .teach y => .tuple [.str "teach", .bool y]
  | .keepAs z => .tuple [.str "keep_as", .str z]
  | .fetch z => .tuple [.str "fetch", .str z]
theorem dat_op (q : Op) : Dat (opR q) (opD q) := by
  cases q with
  | post n b => exact dat_tup (.cons dat_str (.cons dat_str (.cons dat_int .nil)))
  | swap n m => exact dat_tup (.cons dat_str (.cons dat_str (.cons dat_str .nil)))
  | shift n b => exact dat_tup (.cons dat_str (.cons dat_str (.cons dat_int .nil)))
  | teach y => exact dat_tup (.cons dat_str (.cons dat_bl .nil))
  | keepAs z => exact dat_tup (.cons dat_str (.cons dat_str .nil))
  | fetch z => exact dat_tup (.cons dat_str (.cons dat_str .nil))
theorem pd3 {a b c : PyData} (h1 : Pd 1 a) (h2 : Pd 1 b) (h3 : Pd 1 c) : Pd 2 (.tuple [a, b, c]) := Pd.tup fun d hd => by
  simp only [List.mem_cons, List.not_mem_nil, or_false] at hd
  rcases hd with rfl | rfl | rfl
  · exact h1
  · exact h2
  · exact h3
theorem pd2 {a b : PyData} (h1 : Pd 1 a) (h2 : Pd 1 b) : Pd 2 (.tuple [a, b]) := Pd.tup fun d hd => by
  simp only [List.mem_cons, List.not_mem_nil, or_false] at hd
  rcases hd with rfl | rfl
  · exact h1
  · exact h2
theorem pd_op {N : Nat} {ns ps : List Str} {f : Fc} {sh : Shf} {q : Op} (hf : FcOk N ns ps f) (hs : ShOk N ns ps sh) (hq : OpOk ns ps f sh q) : Pd 2 (opD q) := by
  cases q with
  | post n b => exact pd3 (Pd.str (by decide +kernel)) (Pd.str (okN_str hf.ok.n hq.1)) (Pd.int _)
  | swap n m => exact pd3 (Pd.str (by decide +kernel)) (Pd.str (okN_str hf.ok.n hq.1)) (Pd.str (okN_str hf.ok.n hq.2.1))
  | shift n b => exact pd3 (Pd.str (by decide +kernel)) (Pd.str (okN_str hf.ok.n hq.1)) (Pd.int _)
  | teach y => exact pd2 (Pd.str (by decide +kernel)) (Pd.bool _)
  | keepAs z => exact pd2 (Pd.str (by decide +kernel)) (Pd.str (okT_str hq let_lt))
  | fetch z =>
    have hz : (sh.lookup z).isSome = true := hq
    obtain ⟨f2, h2⟩ := Option.isSome_iff_exists.mp hz
    obtain ⟨l1, l2, e1, _⟩ := List.lookup_eq_some_iff.mp h2
    exact pd2 (Pd.str (by decide +kernel)) (Pd.str (hs.ky (z, f2) (by rw [e1]; simp)))
theorem opsOk_take {d : Sd} {L : List Op} (h : OpsOk d L) (k : Nat) : OpsOk d (L.take k) := fun i hi => by
  have hi' : i < L.length ∧ i < k := by rw [List.length_take] at hi; omega
  have e1 : (L.take k).take i = L.take i := by rw [List.take_take, Nat.min_eq_left (by omega)]
  have e2 : (L.take k)[i] = L[i]'hi'.1 := List.getElem_take
  rw [e1, e2]
  exact h i hi'.1
theorem init_f {ns ps : List Str} {ms : List Mn} {o : List Nat} (ok : OkH ns ps ms) (oo : OkO ns.length ps.length o) : FcOk 0 ns ps (initD ns ps ms o).f := ⟨ok, oo, Nat.le_refl _, fun l hl => nomatch hl⟩
theorem init_s {ns ps : List Str} {ms : List Mn} {o : List Nat} : ShOk 0 ns ps (initD ns ps ms o).sh := ⟨Nat.le_refl _, List.nodup_nil, fun p hp => (nomatch hp), fun p hp => (nomatch hp)⟩
variable {P : Program} {w : World} {K : PySem.W.Frag} {mg : Str → Option Value} {base : Heap} {HC SC LC TC : Addr}
def spLaw (K : PySem.W.Frag) : Sp := fun vs H Q _ => ∃ (a : Addr) (ns : List Int), vs = [.ref a] ∧ SqL K H a (ns.map V.int) ∧ ∀ H', Q (.bl true) H'
theorem law_ok {fa : Addr} {fd : FuncData} (F : Fun K "law" "law" s_law fa fd) (T : Txt K mg w HC SC LC TC) : FnOk P w K mg base CX0 14 fa fd ["_law_script"] (spLaw K) := by
  refine fn_body (N := L_law) (C := C_law) F sc_law lo_law (fun vs H Q E ⟨a, ns, e, _⟩ => by rw [e]; rfl) ?_
  rintro X S rfl rfl rfl rfl rfl hx hr vs H Q E ⟨sa, nn, rfl, hsq, k⟩
  have v := S.vw T.b hr
  have hu' : X.A.units + 64 < cLine := by have := hr.un; omega
  have hr1 : Room 1 X.A := hr.mono (by decide)
  have hr3 : Room 3 X.A := hr.mono (by decide)
  have s0 : Ok pureM H H := .pure (Same.refl _)
  refine st (ps_set (i := 1) S.nd (by rw [S.hN]; rfl) (S.loc _ (by simp)) sE rfl (.inl (S.fn _))) (glst s0 (ja (nm S 0 (R := ScR X.K nn) ⟨sa, rfl, hsq⟩) (ja (jint (i := 0)) (ja (jint (i := 0)) (ja (jint (i := 0)) ja0)))) (by simp) fun vs0 r G1 H1 g1 pr1 hr1' => ?_)
  show RunS X _ _ [some (.ref sa), some (.ref r), none, none, none, none, none, none, none, none, none, none, none, none, none] (upd H1 r (.lst vs0))
  have row0 : RowAt X.K nn r G1 (upd H1 r (.lst vs0)) := ⟨sub_none g1.s hr1', vs0, 0, 0, 0, upd_same, pr1, Int.le_refl _⟩
  have okR : Ok (RowM X.K nn r) G1 (upd H1 r (.lst vs0)) := ⟨(Gr.raw (m := no) g1.s hr1').s, row0⟩
  refine st_set S 2 okR (R := planR) (jifX (jtcmpX op_gt (jcallM (kn_taken T) (S.gl _ rfl) hr1 (r, nn, 3) rfl ⟨show (0 : Nat) < 3 by decide, show (3 : Nat) ≤ 1000000 by decide⟩ (ja (nm S 1 (R := isV (.ref r)) rfl) (ja (jint (i := 3)) ja0))) (jint (i := 0)) tw_gtX) (jcallM (kn_scheme T) (S.gl _ rfl) hr3 (r, nn) rfl trivial (ja (nm S 1 (R := isV (.ref r)) rfl) (ja (jint (i := 5)) ja0))) (jcallM (kn_rowhouse T) (S.gl _ rfl) hr3 (r, nn) rfl trivial (ja (nm S 1 (R := isV (.ref r)) rfl) ja0))) fun vp G2 H2 g2 ⟨⟨p, pok⟩, rp⟩ => ?_
  have rp' : (pnR p).p vp G2 := rp
  have rpt : (tupR [tupR (p.ns.map isS), tupR (p.ps.map isS), dctR (waysD p.ns p.ms), ordR p.o]).p vp G2 := rp
  let d0 : Sd := initD p.ns p.ps p.ms p.o
  refine st_set S 3 (Ok.pure g2.s) (R := scnR d0.ns d0.f d0.sh) (jtup (ja (vdict v (jixT (nm S 2 rpt) jint at2)) (ja (jixT (nm S 2 rpt) jint at3) (ja jbl (ja (jlst ja0 (Nat.zero_le _)) (ja jd0 ja0))))) (by simp)) fun vg G3 H3 g3 rg => ?_
  have row3 : RowAt X.K nn r G3 H3 := (show RowAt X.K nn r G2 H2 from g2.i).up0 g2.s g3.to0
  refine st_par3A S 4 5 6 (gA (pa_cons sE sA) (gHall (ns := p.ns) (ps := p.ps) (ms := p.ms) (o := p.o) T (S.gl _ rfl) (hr.mono (by decide)) g3.s pok.ok pok.oo (ja (jcall (kn_built T) (S.gl _ rfl) (hr.mono (by decide)) p pok (ja (nm S 2 (mv g3 rp')) ja0)) (ja (jixT (nm S 2 (mv g3 rpt)) jint at3) ja0)) fun h dh s ds G4 H4 g4 e1 e2 e3 hl4 => ?_))
  have row4 := row3.up0 g3.s g4
  refine gA (pa_cons sE sA) (glst (Ok.pure g4.s) (ja (jtup (ja (nm S 3 (Rel.mo _ g4.g rg)) (ja jnon ja0)) (by simp)) ja0) (by simp) fun pv a G5 H5 g5 ppv ha => gA (pa_cons sE sA) (gE (pe_lst sA) (gA pa_nil ⟨by simp, fun b hb => gA pa_nil ⟨_, _, _, rfl, ?_⟩⟩)))
  show RunS X _ _ [some (.ref sa), some (.ref r), some vp, some vg, some (.ref h), some (.ref a), some (.ref b), none, none, none, none, none, none, none, none] (upd (upd H5 a (.lst pv)) b (.lst []))
  have row5 := row4.up0 g4.s g5.to0
  have hl5 := hl4.up0 g5.to0
  obtain ⟨rs, x1, x2, x3, hrr, prr, hx1⟩ := row5.ex
  have har : a ≠ r := fun e => by rw [e, hrr] at ha; cases ha
  have hab : a ≠ b := fun e => by rw [← e, upd_same] at hb; cases hb
  have hb5 : H5 b = none := by rw [upd_ne (Ne.symm hab)] at hb; exact hb
  have hbr : b ≠ r := fun e => by rw [e, hrr] at hb5; cases hb5
  have inv0 : LI X HC SC LC nn r h dh s ds a b d0 G5 (upd (upd H5 a (.lst pv)) b (.lst [])) := by
    have gA1 : Gr0 G5 H5 G5 (upd H5 a (.lst pv)) := Gr.raw g5.s ha
    have gB1 : Gr0 G5 (upd H5 a (.lst pv)) G5 (upd (upd H5 a (.lst pv)) b (.lst [])) := Gr.raw gA1.s hb
    have gg := gA1.trans gB1
    exact ⟨gg.s, row5.up0 g5.s gg, hl5.up0 gg, ⟨pv, by rw [upd_ne hab, upd_same], ppv⟩, sub_none g5.s ha, ⟨[], upd_same, .nil⟩, sub_none g5.s hb5, har, hbr, hab⟩
  have rp5 : (pnR p).p vp G5 := Rel.mo _ (g3.g.trans (g4.g.trans g5.g)) rp'
  have good0 : Good d0 0 d0 := ⟨⟨[], rfl, (fun i hi => absurd hi (Nat.not_lt_zero i)), Nat.le_refl _⟩, trivial⟩
  have ff : FcOk 0 d0.ns d0.ps d0.f := init_f pok.ok pok.oo
  have fs : ShOk 0 d0.ns d0.ps d0.sh := init_s
  -- what a good state is
  have gd_ok : ∀ {n : Nat} {d : Sd}, n ≤ 50 → Good d0 n d → (p.ns = d.ns ∧ p.ps = d.ps) ∧ FcOk 1000 d.ns d.ps d.f ∧ ShOk 60 d.ns d.ps d.sh ∧ d.past.length ≤ 1000 ∧ d.und.length ≤ 1000 := fun {n d} hn gd => by
    have ens := gd.ns
    obtain ⟨L, h1, h2, h3⟩ := gd.ex
    obtain ⟨i1, i2, i3, _⟩ := run_ok ff fs rfl rfl _ L rfl h2
    rw [h1] at i1 i2 i3
    have hpl : d.past.length = L.length := by rw [← i3, List.length_map]
    refine ⟨⟨ens.1.symm, ens.2.symm⟩, ?_, ?_, by omega, by omega⟩
    · rw [ens.1, ens.2]
      exact fc_mono i1 (by omega)
    · rw [ens.1, ens.2]
      exact sh_mono i2 (by omega)
  refine st_forR (m := 41) inv0.okR S.calm hx v.b.range (S.gl _ rfl) (jcallM (kn_taken T) (S.gl _ rfl) hr1 (r, nn, 41) rfl ⟨show (0 : Nat) < 41 by decide, show (41 : Nat) ≤ 1000000 by decide⟩ (ja (nm S 1 (R := isV (.ref r)) rfl) (ja (jint (i := 41)) ja0))) (by decide) (S.pg 7) fun n hn G6 H6 g6 => ?_
  have inv6 := inv0.upR g6
  let Pv : Nat → L2.St → Hp → Hp → Prop := fun i σ' G' H' => ∃ a' b' d o7 o8 o9 o10 o11, σ' = [some (.ref sa), some (.ref r), some vp, some vg, some (.ref h), some (.ref a'), some (.ref b'), o7, o8, o9, o10, o11, none, none, none] ∧ Same G6 G' ∧ LI X HC SC LC nn r h dh s ds a' b' d G' H' ∧ Good d0 i d
  refine ⟨Pv, ⟨a, b, d0, none, none, none, none, none, rfl, Same.refl _, inv6, good0⟩, fun i σ' G' H' ⟨_, _, _, _, _, _, _, _, _, h1, h2, _⟩ => ⟨h1, h2.sm⟩, ?_, ?_⟩
  · rintro i w7 σ' G' H' G7 H7 hi ⟨a', b', d, o7, o8, o9, o10, o11, rfl, sg, inv, gd⟩ g7 r7
    have inv7 := inv.up0 g7
    have s67 : Same G6 G7 := sg.trans g7.g
    have hi50 : i + 1 ≤ 50 := by omega
    obtain ⟨⟨en, ep⟩, fk, sk, hpl, hul⟩ := gd_ok (by omega) gd
    have rp7 : (pnR p).p vp G7 := Rel.mo _ (g6.g.trans s67) rp5
    show RunS X _ _ [some (.ref sa), some (.ref r), some vp, some vg, some (.ref h), some (.ref a'), some (.ref b'), some w7, o8, o9, o10, o11, none, none, none] H7
    refine st_set S 8 inv7.okR (jcallM (kn_taken T) (S.gl _ rfl) hr1 (r, nn, 6) rfl ⟨show (0 : Nat) < 6 by decide, show (6 : Nat) ≤ 1000000 by decide⟩ (ja (nm S 1 (R := isV (.ref r)) rfl) (ja (jint (i := 6)) ja0))) fun w8 G8 H8 g8 ⟨kd, q8⟩ => ?_
    have inv8 := inv7.upR g8
    have q8' : (isI (kd.val : Int)).p w8 G8 := q8
    generalize (kd.val : Int) = kk at q8'
    have rp8 : (pnR p).p vp G8 := Rel.mo _ g8.g rp7
    -- behind the turn
    have tail : ∀ {D : Ends} {a2 b2 : Addr} {d2 : Sd} {G9 H9 : Hp} {y9 y10 y11 : Option V}, (∀ σ H, (∃ G4, Pv (i + 1) σ G4 H) → D.nx σ H) → Same G8 G9 → LI X HC SC LC nn r h dh s ds a2 b2 d2 G9 H9 → Good d0 (i + 1) d2 →
        RunS X lawTail D [some (.ref sa), some (.ref r), some vp, some vg, some (.ref h), some (.ref a2), some (.ref b2), some w7, some w8, y9, y10, y11, none, none, none] H9 := fun {D a2 b2 d2 G9 H9 y9 y10 y11} hD s9 i9 gd9 => by
      obtain ⟨⟨en2, ep2⟩, fk2, sk2, _, _⟩ := gd_ok hi50 gd9
      exact law_tail T S (hr.mono (by decide)) pok en2 ep2 fk2 sk2 (Rel.mo _ s9 rp8) i9 fun G10 H10 g10 => hD _ _ ⟨G10, a2, b2, d2, _, _, _, _, _, rfl, s67.trans (g8.g.trans (s9.trans g10.g)), i9.up0 g10, gd9⟩
    show RunS X _ _ [some (.ref sa), some (.ref r), some vp, some vg, some (.ref h), some (.ref a'), some (.ref b'), some w7, some w8, o9, o10, o11, none, none, none] H8
    refine st_if inv8.okP (t := decide (V.int kk = V.int 0)) (jtcmp op_eq (nm S 8 q8') jint (tw_eq rfl)) (fun _ G9 H9 g9 => ?_) fun _ G9 H9 g9 => ?_
    · exact law_undo T S (hr.mono (by decide)) rfl rfl ff fs gd ⟨hpl, hul⟩ (inv8.up g9) fun b2 d2 G10 H10 i10 gd10 s10 => tail (fun _ _ z => z) (g9.g.trans s10) i10 (gd10.up (Nat.le_succ _))
    · have inv9 := inv8.up g9
      refine st_if inv9.okP (t := decide (V.int kk = V.int 1)) (jtcmp op_eq (nm S 8 (mv g9 q8')) jint (tw_eq rfl)) (fun _ G10 H10 g10 => ?_) fun _ G10 H10 g10 => ?_
      · exact law_redo T S (hr.mono (by decide)) gd ⟨hpl, hul⟩ (inv9.up g10) fun a2 d2 G11 H11 i11 gd11 s11 => st0 (tail (fun _ _ z => z) ((g9.g.trans g10.g).trans s11) i11 (gd11.up (Nat.le_succ _)))
      · exact law_step T S (hr.mono (by decide)) gd ⟨hpl, hul⟩ pok en ep (Rel.mo _ (g9.g.trans g10.g) rp8) fk sk (inv9.up g10) fun a2 b2 d2 G11 H11 y9 y10 y11 i11 gd11 s11 => st0 (tail (fun _ _ z => z) ((g9.g.trans g10.g).trans s11) i11 gd11)
  · rintro σ' G' H' ⟨a', b', d, o7, o8, o9, o10, o11, rfl, sg, inv, gd⟩
    obtain ⟨⟨en, ep⟩, fk, sk, hpl, hul⟩ := gd_ok (by omega) gd
    obtain ⟨L, h1, h2, h3⟩ := gd.ex
    obtain ⟨_, _, i3, _⟩ := run_ok ff fs rfl rfl _ L rfl h2
    rw [h1] at i3
    have i3' : d.past.map (·.1) = L := i3
    obtain ⟨pv', hpv', ppv'⟩ := inv.pa
    have ecut : cutR ((pastE none d.past d.f d.sh).map (peR d.ns)) (some ((1 : Nat) : Int)) none = ((pastE none d.past d.f d.sh).drop 1).map (peR d.ns) := by rw [cutR_from, List.map_drop]
    have hplen := pastE_len d.past none d.f d.sh
    refine st_slc S 12 14 ((pastE none d.past d.f d.sh).drop 1) (peR d.ns) (fun e => oopR e.2.2) inv.okP (jiL ((rslL (isL_raw hpv' (fun z => z) ppv') (nm S 5 (R := isV (.ref a')) rfl) (jo1 (jint (i := 1))) jo0).eq (congrArg lstR ecut))) (by rw [List.length_drop]; omega) (fun e u G7 H7 he g7 ru X' B => jixT (nb B.S 14 (R := tupR [scnR d.ns e.1 e.2.1, oopR e.2.2]) ru) jint at1) fun w12 G7 H7 g7 q12 => ?_
    have edone : ((pastE none d.past d.f d.sh).drop 1).map (fun e => oopR e.2.2) = L.map opR := by
      have e1 : ((pastE none d.past d.f d.sh).drop 1).map (fun e => oopR e.2.2) = (((pastE none d.past d.f d.sh).drop 1).map (·.2.2)).map oopR := by rw [List.map_map]; rfl
      rw [e1, pastE_ops, ← i3', List.map_map, List.map_map]
      rfl
    have q12' : (lstR (L.map opR)).p w12 G7 := by rw [← edone]; exact q12
    have inv7 := inv.up g7
    have pdL : Pd 3 (.list (L.map opD)) := Pd.lst (Pd.map fun q hq => by
      obtain ⟨j, hj, rfl⟩ := List.getElem_of_mem hq
      obtain ⟨j1, j2, _, _⟩ := run_ok ff fs rfl rfl _ (L.take j) rfl (opsOk_take h2 j)
      exact pd_op j1 j2 (h2 j hj))
    have datL : Dat (lstR (L.map opR)) (.list (L.map opD)) := dat_lst (dats_map dat_op L)
    have ehist : (d.past.map fun q => opR q.1) = L.map opR := by rw [← i3', List.map_map]; rfl
    show RunS X _ _ [some (.ref sa), some (.ref r), some vp, some vg, some (.ref h), some (.ref a'), some (.ref b'), o7, o8, o9, o10, o11, some w12, none, none] H7
    refine st_ifn inv7.okP (jtcmp (op_neD (by omega)) ((jpr (k := 1) T (kn_Hall_history T) (hr.mono (by decide)) inv7.hl (by show d.past.length ≤ 5000; omega) (nm S 4 (R := isV (.ref h)) rfl)).eq (congrArg lstR ehist)) (nm S 12 q12') (tw_neS datL datL pdL)) fun G8 H8 g8 => ?_
    have inv8 := inv7.up g8
    obtain ⟨mc, pm, gm, cr, cm, FR⟩ := kn_Hall_replay (P := X.prog) (w := X.w) (base := X.base) T
    have s58 : Same G5 G8 := g6.g.trans (sg.trans (g7.g.trans g8.g))
    have rp8 : (pnR p).p vp G8 := Rel.mo _ s58 rp5
    have rpt8 : (tupR [tupR (p.ns.map isS), tupR (p.ps.map isS), dctR (waysD p.ns p.ms), ordR p.o]).p vp G8 := rp8
    refine st (ps_set (i := 13) S.nd (by rw [S.hN]; rfl) (S.loc _ (by simp)) sE rfl (.inl (S.fn _))) (gE (ClX.pe_cmeth (E := E0) sE cr cm FR hr pass0 sA) ((jglob (v := .ref LC) (S.gl _ rfl) T.mHall rfl).here inv8.okP fun v9 G9 H9 g9 r9 => ⟨r9, ?_⟩))
    have inv9 := inv8.up g9
    refine (ja (jcall (kn_built T) (S.gl _ rfl) (hr.mono (by decide)) p pok (ja (nm S 2 (mv g9 rp8)) ja0)) (ja (jixT (nm S 2 (mv g9 rpt8)) jint at3) (ja (nm S 12 (mv (g8.trans g9) q12')) ja0))).here inv9.okP fun ws G10 H10 g10 pw => ?_
    obtain ⟨vh, vo, vl, rfl, rh, ro, rl⟩ := PR.three pw
    have inv10 := inv9.up g10
    refine ⟨G10, p.ns, p.ps, p.ms, p.o, L, vh, vo, vl, rfl, g10.s, pok.ok, pok.oo, by omega, rh, ro, rl, fun j hj => ?_, fun h2' dh2 s2 ds2 G11 H11 g11 hl11 => ?_⟩
    · obtain ⟨j1, j2, j3, j4⟩ := run_ok ff fs rfl rfl _ (L.take j) rfl (opsOk_take h2 j)
      have ens := runD_ns (L.take j) d0
      have hjl : (L.take j).length ≤ 50 := by rw [List.length_take]; omega
      refine ⟨⟨?_, ?_, ?_, ?_⟩, h2 j hj⟩
      · show FcOk 5000 (runD d0 (L.take j)).ns (runD d0 (L.take j)).ps (runD d0 (L.take j)).f
        rw [ens.1, ens.2]; exact fc_mono j1 (by omega)
      · show ShOk 5000 (runD d0 (L.take j)).ns (runD d0 (L.take j)).ps (runD d0 (L.take j)).sh
        rw [ens.1, ens.2]; exact sh_mono j2 (by omega)
      · have : (runD d0 (L.take j)).past.length = (L.take j).length := by rw [← List.length_map (f := fun e : Op × Fc × Shf => e.1), j3]
        show (runD d0 (L.take j)).past.length ≤ 5000
        omega
      · show (runD d0 (L.take j)).und.length ≤ 5000
        rw [j4]; decide
    · have inv11 := inv10.up0 g11
      have hl11' : HlOk HC SC LC G11 H11 h2' dh2 s2 ds2 { d with und := [] } := by rw [← h1]; exact hl11
      obtain ⟨pv11, hpv11, ppv11⟩ := inv11.pa
      obtain ⟨xs, q', el⟩ := pastE_last d.past none d.f d.sh
      have elast : atI ((pastE none d.past d.f d.sh).map (peR d.ns)) (-1) = some (tupR [scnR d.ns d.f d.sh, oopR q']) := by
        rw [el]
        exact atI_map (f := peR d.ns) (x := (d.f, d.sh, q')) atI_last
      have s811 : Same G8 G11 := (g9.g.trans g10.g).trans g11.g
      show RunS X _ _ [some (.ref sa), some (.ref r), some vp, some vg, some (.ref h), some (.ref a'), some (.ref b'), o7, o8, o9, o10, o11, some w12, some (.ref h2'), none] H11
      refine st_ret inv11.okP (R := isB (true && true)) (jand (jshows (d := { d with und := [] }) T (S.gl _ rfl) (hr.mono (by decide)) hl11' pok en ep fk sk (ja (nm S 13 (R := isV (.ref h2')) rfl) (ja (nm S 2 (Rel.mo _ s811 rp8)) (ja (jixT (rixL (isL_raw hpv11 (fun z => z) ppv11) (nm S 5 (R := isV (.ref a')) rfl) (jneg jint) elast) jint at0) ja0)))) fun _ => j1 (jcmp (op_eqD (by omega)) ((jpr (k := 1) T (kn_Hall_history T) (hr.mono (by decide)) hl11' (by show d.past.length ≤ 5000; omega) (nm S 13 (R := isV (.ref h2')) rfl)).eq (congrArg lstR ehist)) (nm S 12 (Rel.mo _ (g8.g.trans s811) q12')) (tw_eqS datL datL pdL))) fun u G12 H12 g12 ru => ?_
      obtain rfl : u = V.bl true := ru
      exact k H12
end Lp
/-! ## Hh -/
set_option Elab.async false
set_option linter.all false
set_option maxRecDepth 100000
set_option maxHeartbeats 2000000
/-! The head: what is known of the text, from the row. Printed by gen_hd.py. -/
namespace Lp
open PySem PySem.Spec PyProof.Rows L2
open SlX (Slt SlO SCls Slot1 slH putS SIsi)
open ClX (CRead CMet)
abbrev Frg := PySem.W.Frag
/-! ### a class's facts, as tests -/
def gt (K : Frg) (p : Addr) (T : String) : Addr := match PySem.W.recIn K p T with
  | some (.ref g :: _) => g
  | _ => 0
def recB (K : Frg) (p : Addr) (T : String) : Bool := match PySem.W.recIn K p T with
  | some (.ref _ :: _) => true
  | _ => false
theorem rec_ok {K : Frg} {p : Addr} {T : String} (h : recB K p T = true) : ∃ rest, PySem.W.recIn K p T = some (.ref (gt K p T) :: rest) := by
  unfold recB at h
  unfold gt
  split at h
  · rename_i g rest e
    rw [e]
    exact ⟨rest, rfl⟩
  · cases h
def sclsB (K : Frg) (C : Addr) : Bool := PySem.W.plainGet K C Str.empty && (PySem.W.isClsIn K C && (PySem.W.plainOver K C && He.eqO (PySem.W.findIn K (.ref C) "__setattr__") (some (some (.builtin "object.__setattr__")))))
theorem scls_ok {K : Frg} {C : Addr} (h : sclsB K C = true) : SCls K C := by
  obtain ⟨h1, h⟩ := He.ba h
  obtain ⟨h2, h⟩ := He.ba h
  obtain ⟨h3, h4⟩ := He.ba h
  exact ⟨h1, h2, h3, He.eqO_ok h4⟩
def sisiB (K : Frg) (C : Addr) : Bool := He.eqO (PySem.W.findIn K (.ref C) "__class__") (some (some (.builtin "object.__class__"))) && (He.eqO (PySem.W.specialIn K (.builtin "object.__class__") "__get__") (some (some (.builtin "getset_descriptor.__get__"))) && (decide (PySem.W.takesIn K (.builtin "object.__class__") = some true) && decide (PySem.W.mroIn K C (.type "object") = some true)))
theorem sisi_ok {K : Frg} {C : Addr} (h : sisiB K C = true) : SIsi K C := by
  obtain ⟨h1, h⟩ := He.ba h
  obtain ⟨h2, h⟩ := He.ba h
  obtain ⟨h3, h4⟩ := He.ba h
  exact ⟨He.eqO_ok h1, He.eqO_ok h2, of_decide_eq_true h3, of_decide_eq_true h4⟩
def slotB (K : Frg) (C : Addr) (f : Str) (i : Nat) : Bool := He.eqO (PySem.W.findIn K (.ref C) f) (some (some (.ref (He.ma K C f)))) && (He.eqO (PySem.W.specialIn K (.ref (He.ma K C f)) "__get__") (some (some (.builtin "member_descriptor.__get__"))) && (decide (PySem.W.takesIn K (.ref (He.ma K C f)) = some true) && (decide (PySem.W.typeIn K (.ref (He.ma K C f)) = some (.type "member_descriptor")) && decide (PySem.W.slotIn K (He.ma K C f) C = some i))))
theorem slot_ok {K : Frg} {C : Addr} {f : Str} {i : Nat} (h : slotB K C f i = true) (hi : i < 1000) : Slot1 K C f (He.ma K C f) i := by
  obtain ⟨h1, h⟩ := He.ba h
  obtain ⟨h2, h⟩ := He.ba h
  obtain ⟨h3, h⟩ := He.ba h
  obtain ⟨h4, h5⟩ := He.ba h
  exact ⟨He.eqO_ok h1, He.eqO_ok h2, of_decide_eq_true h3, of_decide_eq_true h4, of_decide_eq_true h5, hi⟩
def propB (K : Frg) (C : Addr) (f : Str) : Bool := He.eqO (PySem.W.findIn K (.ref C) f) (some (some (.ref (He.ma K C f)))) && (He.eqO (PySem.W.specialIn K (.ref (He.ma K C f)) "__get__") (some (some (.builtin "property.__get__"))) && (decide (PySem.W.takesIn K (.ref (He.ma K C f)) = some true) && recB K (He.ma K C f) "property"))
theorem prop_ok {K : Frg} {C : Addr} {f : Str} (h : propB K C f = true) : PropOf K C f (He.ma K C f) (gt K (He.ma K C f) "property") := by
  obtain ⟨h1, h⟩ := He.ba h
  obtain ⟨h2, h⟩ := He.ba h
  obtain ⟨h3, h4⟩ := He.ba h
  exact ⟨He.eqO_ok h1, He.eqO_ok h2, of_decide_eq_true h3, rec_ok h4⟩
/-- a class's class -/
def mcO (K : Frg) (C : Addr) : Value := match PySem.W.typeIn K (.ref C) with
  | some v => v
  | none => .none
def cmP (K : Frg) (C : Addr) (m : Str) : Addr := match PySem.W.findCls K (.ref C) (mcO K C) m with
  | some (.get _ (.ref p) _ _) => p
  | _ => 0
def cmB (K : Frg) (C : Addr) (m : Str) : Bool := match PySem.W.findCls K (.ref C) (mcO K C) m with
  | some (.get (.builtin b) (.ref _) .none (.ref D)) => decide (b = "classmethod.__get__") && decide (D = C)
  | _ => false
theorem cm_ok {K : Frg} {C : Addr} {m : Str} (h : cmB K C m = true) : PySem.W.findCls K (.ref C) (mcO K C) m = some (.get (.builtin "classmethod.__get__") (.ref (cmP K C m)) .none (.ref C)) := by
  unfold cmB at h
  unfold cmP
  split at h
  · rename_i b p D e
    obtain ⟨h1, h2⟩ := He.ba h
    rw [e, of_decide_eq_true h1, of_decide_eq_true h2]
  · cases h
def cmetB (K : Frg) (C : Addr) (m : Str) : Bool := PySem.W.readsIn K C (mcO K C) && (He.eqO (PySem.W.specialIn K (.ref C) "__getattribute__") (some (some (.builtin "type.__getattribute__"))) && (cmB K C m && (recB K (cmP K C m) "classmethod" && PySem.W.fnIn K (gt K (cmP K C m) "classmethod"))))
theorem cmet_ok {K : Frg} {C : Addr} {m : Str} (h : cmetB K C m = true) : CRead K C (mcO K C) ∧ CMet K C (mcO K C) m (cmP K C m) (gt K (cmP K C m) "classmethod") := by
  obtain ⟨h1, h⟩ := He.ba h
  obtain ⟨h2, h⟩ := He.ba h
  obtain ⟨h3, h⟩ := He.ba h
  obtain ⟨h4, h5⟩ := He.ba h
  exact ⟨⟨h1, He.eqO_ok h2⟩, cm_ok h3, rec_ok h4, h5⟩
/-! ### functions -/
structure DefX where
  adr : Frg → Addr
  name : Str
  qual : Str
  st : Stmt
def fnX (K : Frg) (a : Addr) : He.FnW := match K.lookup a with
  | some ⟨_, _, .func fd, _⟩ => some (fd.name, fd.qualname, fd.params, fd.body, fd.scope, fd.globals, fd.closure, fd.builtins)
  | _ => none
def DefX.val (d : DefX) : He.FnW := some (d.name, d.qual, defArgs d.st, .stmts (defBody d.st), defScope d.st, mainGlobals, [], builtinsNs)
def dfB : Value → Bool
  | .none => true
  | _ => false
def DefX.ok (K : Frg) (d : DefX) : Bool := PySem.W.keepIn K (.ref (d.adr K)) && (match K.lookup (d.adr K) with
  | some ⟨_, _, .func fd, _⟩ => PySem.W.codeIn K fd.code d.qual && dfB fd.defaults
  | _ => false)
theorem DefX.fun_ {K : Frg} {d : DefX} (e : fnX K (d.adr K) = d.val) (c : d.ok K = true) : ∃ fd, Fun K d.name d.qual d.st (d.adr K) fd := by
  obtain ⟨kp, c2⟩ := He.ba c
  unfold fnX at e
  cases q : K.lookup (d.adr K) with
  | none =>
    rw [q] at c2
    cases c2
  | some o =>
    obtain ⟨oc, od, dt, osl⟩ := o
    rw [q] at c2 e
    cases dt with
    | func fd =>
      obtain ⟨n1, n2, n3, n4, n5, n6, n7, n8, n9, n10, n11, n12, n13, n14, n15⟩ := fd
      have e2 : (some (n1, n2, n3, n4, n5, n6, n7, n15) : He.FnW) = some (d.name, d.qual, defArgs d.st, .stmts (defBody d.st), defScope d.st, mainGlobals, [], builtinsNs) := e
      simp only [Option.some.injEq, Prod.mk.injEq] at e2
      obtain ⟨h1, h2, h3, h4, h5, h6, h7, h8⟩ := e2
      subst h1 h2 h3 h4 h5 h6 h7 h8
      obtain ⟨k1, k2⟩ := He.ba (show (PySem.W.codeIn K n13 d.qual && dfB n8) = true from c2)
      have e8 : n8 = .none := by
        cases n8 with
        | none => rfl
        | _ => cases k2
      subst e8
      exact ⟨_, ⟨oc, od, n9, n10, n11, n12, n13, n14, osl, rfl, q, k1⟩, kp⟩
    | _ => cases c2
/-! ### the lists -/
def sizesV : List (Str × He.Dv) := [("post", .int 3), ("swap", .int 3), ("shift", .int 3), ("teach", .int 2), ("keep_as", .int 2), ("fetch", .int 2), ("undo", .int 1), ("redo", .int 1)]
def sizesK : List Str := ["post", "swap", "shift", "teach", "keep_as", "fetch", "undo", "redo"]
def fas0 : List (Frg → Bool) := [fun K => (He.Fa.free "all").ok K,
  fun K => (He.Fa.free "len").ok K,
  fun K => (He.Fa.free "isinstance").ok K,
  fun K => (He.Fa.free "int").ok K,
  fun K => (He.Fa.free "bool").ok K,
  fun K => (He.Fa.free "str").ok K,
  fun K => (He.Fa.free "tuple").ok K,
  fun K => (He.Fa.free "list").ok K,
  fun K => (He.Fa.free "set").ok K,
  fun K => (He.Fa.free "dict").ok K,
  fun K => (He.Fa.free "sorted").ok K,
  fun K => (He.Fa.free "range").ok K,
  fun K => (He.Fa.free "enumerate").ok K,
  fun K => (He.Fa.free "zip").ok K,
  fun K => (He.Fa.free "min").ok K,
  fun K => (He.Fa.str "LETTERS" LET).ok K,
  fun K => (He.Fa.str "POINT" PNT).ok K,
  fun K => (He.Fa.str "BACK_houses" sBack).ok K,
  fun K => (He.Fa.str "BACK_learning" sBack).ok K,
  fun K => (He.Fa.str "KEEP" sKeep).ok K,
  fun K => (He.Fa.str "KEPT" sKept).ok K,
  fun K => (He.Fa.str "LIES" sLies).ok K,
  fun K => (He.Fa.str "ROUND" sRound).ok K,
  fun K => (He.Fa.int "MAX_LETTERS" 8).ok K,
  fun K => (He.Fa.int "MAX_NAMES" 6).ok K,
  fun K => (He.Fa.int "MAX_BOXES" 6).ok K,
  fun K => (He.Fa.glo "is_number").ok K,
  fun K => (He.Fa.glo "is_text").ok K,
  fun K => (He.Fa.glo "are_names").ok K,
  fun K => (He.Fa.glo "are_plates").ok K]
def fas1 : List (Frg → Bool) := [fun K => (He.Fa.glo "is_manner").ok K,
  fun K => (He.Fa.glo "are_manners").ok K,
  fun K => (He.Fa.glo "check_name").ok K,
  fun K => (He.Fa.glo "check_box").ok K,
  fun K => (He.Fa.glo "with_manner").ok K,
  fun K => (He.Fa.glo "is_order").ok K,
  fun K => (He.Fa.glo "check_order").ok K,
  fun K => (He.Fa.glo "does_match").ok K,
  fun K => (He.Fa.glo "does_fit").ok K,
  fun K => (He.Fa.glo "owner_of").ok K,
  fun K => (He.Fa.glo "handed_on").ok K,
  fun K => (He.Fa.glo "way_of").ok K,
  fun K => (He.Fa.glo "answer_of").ok K,
  fun K => (He.Fa.glo "learned").ok K,
  fun K => (He.Fa.glo "behind_letter").ok K,
  fun K => (He.Fa.glo "exchanged").ok K,
  fun K => (He.Fa.glo "is_operation").ok K,
  fun K => (He.Fa.glo "_law_taken").ok K,
  fun K => (He.Fa.glo "_law_pick").ok K,
  fun K => (He.Fa.glo "_law_mixed").ok K,
  fun K => (He.Fa.glo "_law_goes").ok K,
  fun K => (He.Fa.glo "_law_orders").ok K,
  fun K => (He.Fa.glo "_law_way").ok K,
  fun K => (He.Fa.glo "_law_letters").ok K,
  fun K => (He.Fa.glo "_law_scheme").ok K,
  fun K => (He.Fa.glo "_law_built").ok K,
  fun K => (He.Fa.glo "_law_rowhouse").ok K,
  fun K => (He.Fa.glo "_law_taught").ok K,
  fun K => (He.Fa.glo "_law_swapped").ok K,
  fun K => (He.Fa.glo "_law_step").ok K]
def fas2 : List (Frg → Bool) := [fun K => (He.Fa.glo "_law_shows").ok K,
  fun K => (He.Fa.glo "law").ok K,
  fun K => (He.Fa.glo "House").ok K,
  fun K => sclsB K (He.ga K "House"),
  fun K => sisiB K (He.ga K "House"),
  fun K => slotB K (He.ga K "House") "folk" 0,
  fun K => slotB K (He.ga K "House") "signs" 1,
  fun K => slotB K (He.ga K "House") "ways" 2,
  fun K => decide (PySem.W.kitOne K (.ref (He.ga K "House")) (.ref (He.ga K "House")) = some true),
  fun K => PySem.W.notFirst K (He.ga K "House") (.ref (He.ga K "House")),
  fun K => decide (PySem.W.mroIn K (He.ga K "House") (.type "object") = some true),
  fun K => He.eqO (PySem.W.findIn K (.ref (He.ga K "House")) "__ne__") (some (some (.builtin "object.__ne__"))),
  fun K => (He.Fa.mkr "House").ok K,
  fun K => propB K (He.ga K "House") "names",
  fun K => propB K (He.ga K "House") "plates",
  fun K => propB K (He.ga K "House") "manners",
  fun K => (He.Fa.meth "House" "__eq__").ok K,
  fun K => (He.Fa.glo "State").ok K,
  fun K => sclsB K (He.ga K "State"),
  fun K => slotB K (He.ga K "State") "facts" 0,
  fun K => slotB K (He.ga K "State") "past" 1,
  fun K => slotB K (He.ga K "State") "shelf" 2,
  fun K => slotB K (He.ga K "State") "undone" 3,
  fun K => (He.Fa.mkr "State").ok K,
  fun K => (He.Fa.meth "State" "copied").ok K,
  fun K => (He.Fa.meth "State" "go_on").ok K,
  fun K => (He.Fa.meth "State" "go_back").ok K,
  fun K => (He.Fa.meth "State" "go_again").ok K,
  fun K => (He.Fa.glo "Hall").ok K,
  fun K => (He.Fa.cls "Hall").ok K]
def fas3 : List (Frg → Bool) := [fun K => (He.Fa.noat "Hall" "state").ok K,
  fun K => (He.Fa.mkr "Hall").ok K,
  fun K => cmetB K (He.ga K "Hall") "replay",
  fun K => propB K (He.ga K "Hall") "house_now",
  fun K => propB K (He.ga K "Hall") "living",
  fun K => propB K (He.ga K "Hall") "teaches",
  fun K => propB K (He.ga K "Hall") "posted",
  fun K => propB K (He.ga K "Hall") "kept_under",
  fun K => propB K (He.ga K "Hall") "history",
  fun K => (He.Fa.meth "Hall" "enter").ok K,
  fun K => (He.Fa.meth "Hall" "post").ok K,
  fun K => (He.Fa.meth "Hall" "swap").ok K,
  fun K => (He.Fa.meth "Hall" "shift").ok K,
  fun K => (He.Fa.meth "Hall" "teach").ok K,
  fun K => (He.Fa.meth "Hall" "keep_as").ok K,
  fun K => (He.Fa.meth "Hall" "fetch").ok K,
  fun K => (He.Fa.meth "Hall" "undo").ok K,
  fun K => (He.Fa.meth "Hall" "redo").ok K,
  fun K => (He.Fa.meth "Hall" "execute").ok K,
  fun K => (He.Fa.meth "Hall" "apply_all").ok K,
  fun K => (He.Fa.glo "Trial").ok K,
  fun K => (He.Fa.cls "Trial").ok K,
  fun K => (He.Fa.noat "Trial" "tested_hall").ok K,
  fun K => (He.Fa.noat "Trial" "origin").ok K,
  fun K => (He.Fa.noat "Trial" "fresh").ok K,
  fun K => (He.Fa.noat "Trial" "chosen").ok K,
  fun K => (He.Fa.mkr "Trial").ok K,
  fun K => (He.Fa.meth "Trial" "hold").ok K,
  fun K => (He.Fa.meth "Trial" "__enter__").ok K,
  fun K => (He.Fa.meth "Trial" "__exit__").ok K]
def fas4 : List (Frg → Bool) := [fun K => He.valsB K (He.ga K "SIZES") sizesV,
  fun K => (He.Fa.glo "SIZES").ok K]
def fas : List (Frg → Bool) := fas0 ++ fas1 ++ fas2 ++ fas3 ++ fas4
def fnl0 : List (DefX) := [⟨fun K => He.ga K "is_number", "is_number", "is_number", s_is_number⟩,
  ⟨fun K => He.ga K "is_text", "is_text", "is_text", s_is_text⟩,
  ⟨fun K => He.ga K "are_names", "are_names", "are_names", s_are_names⟩,
  ⟨fun K => He.ga K "are_plates", "are_plates", "are_plates", s_are_plates⟩,
  ⟨fun K => He.ga K "is_manner", "is_manner", "is_manner", s_is_manner⟩,
  ⟨fun K => He.ga K "are_manners", "are_manners", "are_manners", s_are_manners⟩,
  ⟨fun K => He.ga K "check_name", "check_name", "check_name", s_check_name⟩,
  ⟨fun K => He.ga K "check_box", "check_box", "check_box", s_check_box⟩,
  ⟨fun K => He.ga K "with_manner", "with_manner", "with_manner", s_with_manner⟩,
  ⟨fun K => He.ga K "is_order", "is_order", "is_order", s_is_order⟩,
  ⟨fun K => He.ga K "check_order", "check_order", "check_order", s_check_order⟩,
  ⟨fun K => He.ga K "does_match", "does_match", "does_match", s_does_match⟩,
  ⟨fun K => He.ga K "does_fit", "does_fit", "does_fit", s_does_fit⟩,
  ⟨fun K => He.ga K "owner_of", "owner_of", "owner_of", s_owner_of⟩,
  ⟨fun K => He.ga K "handed_on", "handed_on", "handed_on", s_handed_on⟩,
  ⟨fun K => He.ga K "way_of", "way_of", "way_of", s_way_of⟩,
  ⟨fun K => He.ga K "answer_of", "answer_of", "answer_of", s_answer_of⟩,
  ⟨fun K => He.ga K "learned", "learned", "learned", s_learned⟩,
  ⟨fun K => He.ga K "behind_letter", "behind_letter", "behind_letter", s_behind_letter⟩,
  ⟨fun K => He.ga K "exchanged", "exchanged", "exchanged", s_exchanged⟩,
  ⟨fun K => He.ga K "is_operation", "is_operation", "is_operation", s_is_operation⟩,
  ⟨fun K => He.ga K "_law_taken", "_law_taken", "_law_taken", s_law_taken⟩,
  ⟨fun K => He.ga K "_law_pick", "_law_pick", "_law_pick", s_law_pick⟩,
  ⟨fun K => He.ga K "_law_mixed", "_law_mixed", "_law_mixed", s_law_mixed⟩,
  ⟨fun K => He.ga K "_law_goes", "_law_goes", "_law_goes", s_law_goes⟩,
  ⟨fun K => He.ga K "_law_orders", "_law_orders", "_law_orders", s_law_orders⟩,
  ⟨fun K => He.ga K "_law_way", "_law_way", "_law_way", s_law_way⟩,
  ⟨fun K => He.ga K "_law_letters", "_law_letters", "_law_letters", s_law_letters⟩,
  ⟨fun K => He.ga K "_law_scheme", "_law_scheme", "_law_scheme", s_law_scheme⟩,
  ⟨fun K => He.ga K "_law_built", "_law_built", "_law_built", s_law_built⟩]
def fnl1 : List (DefX) := [⟨fun K => He.ga K "_law_rowhouse", "_law_rowhouse", "_law_rowhouse", s_law_rowhouse⟩,
  ⟨fun K => He.ga K "_law_taught", "_law_taught", "_law_taught", s_law_taught⟩,
  ⟨fun K => He.ga K "_law_swapped", "_law_swapped", "_law_swapped", s_law_swapped⟩,
  ⟨fun K => He.ga K "_law_step", "_law_step", "_law_step", s_law_step⟩,
  ⟨fun K => He.ga K "_law_shows", "_law_shows", "_law_shows", s_law_shows⟩,
  ⟨fun K => He.ga K "law", "law", "law", s_law⟩,
  ⟨fun K => He.ma K (He.ga K "House") "__init__", "__init__", "House.__init__", s_House_init⟩,
  ⟨fun K => gt K (He.ma K (He.ga K "House") "names") "property", "names", "House.names", s_House_names⟩,
  ⟨fun K => gt K (He.ma K (He.ga K "House") "plates") "property", "plates", "House.plates", s_House_plates⟩,
  ⟨fun K => gt K (He.ma K (He.ga K "House") "manners") "property", "manners", "House.manners", s_House_manners⟩,
  ⟨fun K => He.ma K (He.ga K "House") "__eq__", "__eq__", "House.__eq__", s_House_eq⟩,
  ⟨fun K => He.ma K (He.ga K "State") "__init__", "__init__", "State.__init__", s_State_init⟩,
  ⟨fun K => He.ma K (He.ga K "State") "copied", "copied", "State.copied", s_State_copied⟩,
  ⟨fun K => He.ma K (He.ga K "State") "go_on", "go_on", "State.go_on", s_State_go_on⟩,
  ⟨fun K => He.ma K (He.ga K "State") "go_back", "go_back", "State.go_back", s_State_go_back⟩,
  ⟨fun K => He.ma K (He.ga K "State") "go_again", "go_again", "State.go_again", s_State_go_again⟩,
  ⟨fun K => He.ma K (He.ga K "Hall") "__init__", "__init__", "Hall.__init__", s_Hall_init⟩,
  ⟨fun K => gt K (cmP K (He.ga K "Hall") "replay") "classmethod", "replay", "Hall.replay", s_Hall_replay⟩,
  ⟨fun K => gt K (He.ma K (He.ga K "Hall") "house_now") "property", "house_now", "Hall.house_now", s_Hall_house_now⟩,
  ⟨fun K => gt K (He.ma K (He.ga K "Hall") "living") "property", "living", "Hall.living", s_Hall_living⟩,
  ⟨fun K => gt K (He.ma K (He.ga K "Hall") "teaches") "property", "teaches", "Hall.teaches", s_Hall_teaches⟩,
  ⟨fun K => gt K (He.ma K (He.ga K "Hall") "posted") "property", "posted", "Hall.posted", s_Hall_posted⟩,
  ⟨fun K => gt K (He.ma K (He.ga K "Hall") "kept_under") "property", "kept_under", "Hall.kept_under", s_Hall_kept_under⟩,
  ⟨fun K => gt K (He.ma K (He.ga K "Hall") "history") "property", "history", "Hall.history", s_Hall_history⟩,
  ⟨fun K => He.ma K (He.ga K "Hall") "enter", "enter", "Hall.enter", s_Hall_enter⟩,
  ⟨fun K => He.ma K (He.ga K "Hall") "post", "post", "Hall.post", s_Hall_post⟩,
  ⟨fun K => He.ma K (He.ga K "Hall") "swap", "swap", "Hall.swap", s_Hall_swap⟩,
  ⟨fun K => He.ma K (He.ga K "Hall") "shift", "shift", "Hall.shift", s_Hall_shift⟩,
  ⟨fun K => He.ma K (He.ga K "Hall") "teach", "teach", "Hall.teach", s_Hall_teach⟩,
  ⟨fun K => He.ma K (He.ga K "Hall") "keep_as", "keep_as", "Hall.keep_as", s_Hall_keep_as⟩]
def fnl2 : List (DefX) := [⟨fun K => He.ma K (He.ga K "Hall") "fetch", "fetch", "Hall.fetch", s_Hall_fetch⟩,
  ⟨fun K => He.ma K (He.ga K "Hall") "undo", "undo", "Hall.undo", s_Hall_undo⟩,
  ⟨fun K => He.ma K (He.ga K "Hall") "redo", "redo", "Hall.redo", s_Hall_redo⟩,
  ⟨fun K => He.ma K (He.ga K "Hall") "execute", "execute", "Hall.execute", s_Hall_execute⟩,
  ⟨fun K => He.ma K (He.ga K "Hall") "apply_all", "apply_all", "Hall.apply_all", s_Hall_apply_all⟩,
  ⟨fun K => He.ma K (He.ga K "Trial") "__init__", "__init__", "Trial.__init__", s_Trial_init⟩,
  ⟨fun K => He.ma K (He.ga K "Trial") "hold", "hold", "Trial.hold", s_Trial_hold⟩,
  ⟨fun K => He.ma K (He.ga K "Trial") "__enter__", "__enter__", "Trial.__enter__", s_Trial_enter⟩,
  ⟨fun K => He.ma K (He.ga K "Trial") "__exit__", "__exit__", "Trial.__exit__", s_Trial_exit⟩]
def fnl : List (DefX) := fnl0 ++ fnl1 ++ fnl2
def adrs0 : List (Nat) := [3,
  2,
  231,
  385,
  546,
  588,
  331,
  197,
  205,
  213,
  423,
  431,
  439,
  447,
  455,
  461,
  232,
  233,
  234,
  386,
  387,
  388,
  389,
  414,
  230,
  384,
  545,
  587,
  151,
  156]
def adrs1 : List (Nat) := [161,
  166,
  171,
  176,
  243,
  250,
  257,
  262,
  269,
  274,
  281,
  288,
  295,
  302,
  309,
  316,
  323,
  330,
  338,
  599,
  606,
  613,
  618,
  623,
  628,
  633,
  638,
  645,
  650,
  657]
def adrs2 : List (Nat) := [662,
  669,
  676,
  681,
  189,
  196,
  204,
  212,
  227,
  353,
  360,
  367,
  374,
  381,
  405,
  412,
  422,
  430,
  438,
  446,
  454,
  460,
  468,
  475,
  482,
  489,
  496,
  503,
  510,
  517]
def adrs3 : List (Nat) := [524,
  531,
  536,
  564,
  571,
  578,
  585,
  150,
  155,
  160,
  165,
  170,
  175,
  242,
  249,
  256,
  261,
  268,
  273,
  280,
  287,
  294,
  301,
  308,
  315,
  322,
  329,
  337,
  598,
  605]
def adrs4 : List (Nat) := [612,
  617,
  622,
  627,
  632,
  637,
  644,
  649,
  656,
  661,
  668,
  675,
  680,
  188,
  195,
  203,
  211,
  226,
  352,
  359,
  366,
  373,
  380,
  404,
  411,
  421,
  429,
  437,
  445,
  453]
def adrs5 : List (Nat) := [459,
  467,
  474,
  481,
  488,
  495,
  502,
  509,
  516,
  523,
  530,
  535,
  563,
  570,
  577,
  584]
def adrs : List (Nat) := adrs0 ++ adrs1 ++ adrs2 ++ adrs3 ++ adrs4 ++ adrs5
/-! ### the Hook -/
def frX (g : Addr → Option Obj) : Frg := He.frG g adrs
theorem frX_in {h : Heap} : (frX h.get?).In h := fun _ _ e => He.frG_at _ e
abbrev AlX : Type := (Bool × List He.FnW) × Option (List (Option (Str × Int)))
def obsX (K : Frg) : AlX := (((fas.all fun f => f K) && fnl.all fun d => d.ok K, fnl.map fun d => fnX K (d.adr K)), He.dicW K (He.ga K "SIZES"))
def valX (w : World) : AlX := ((true, fnl.map DefX.val), some (He.keysIn w.params sizesK))
def SaysX (w : World) (K : Frg) : Prop := obsX K = valX w
def hookX : PySem.W.Hook where
  α := AlX
  obs := fun s => obsX (frX s.heap.get?)
  val := fun w => valX w
  says := fun w h => ∃ K : PySem.W.Frag, K.In h ∧ SaysX w K
  of := fun _ _ e => ⟨_, frX_in, e⟩
  keeps := fun _ _ _ ⟨K, hK, c⟩ k => ⟨K, PySem.W.Frag.In.keeps hK k, c⟩
section
variable {w : World} {K : Frg} {h : Heap} {mg : Str → Option Value}
theorem SaysX.fact (c : SaysX w K) (i : Nat) {f : Frg → Bool} (h : fas[i]? = some f) : f K = true := by
  have c1 := (He.ba (show ((fas.all fun f => f K) && fnl.all fun d => d.ok K) = true from congrArg (fun z : AlX => z.1.1) c)).1
  exact List.all_eq_true.mp c1 f (List.mem_of_getElem? h)
theorem SaysX.fn (c : SaysX w K) (i : Nat) {d : DefX} (h : fnl[i]? = some d) : ∃ fd, Fun K d.name d.qual d.st (d.adr K) fd := by
  have c2 := (He.ba (show ((fas.all fun f => f K) && fnl.all fun d => d.ok K) = true from congrArg (fun z : AlX => z.1.1) c)).2
  have e : fnl.map (fun d => fnX K (d.adr K)) = fnl.map DefX.val := congrArg (fun z : AlX => z.1.2) c
  have e2 : (fnl.map fun d => fnX K (d.adr K))[i]? = (fnl.map DefX.val)[i]? := by rw [e]
  rw [List.getElem?_map, List.getElem?_map, h] at e2
  exact DefX.fun_ (Option.some.inj e2) (List.all_eq_true.mp c2 d (List.mem_of_getElem? h))
abbrev BindsH (x qual : Str) (st : Stmt) (ps : List Str) : Prop := ∀ (kV doc pm : Value) (an : Option Addr) (cdv ct : Value) (us : List Value), us.length = ps.length → bindArgs (PySem.W.fnOf x qual (defArgs st) (defBody st) (defScope st) .none kV doc pm an cdv ct) ⟨us, []⟩ = pure (ps.zip us)
theorem SaysX.def_ (KX : K.In h) (G : h.Ns mainGlobals mg) (c : SaysX w K) (i j : Nat) {x : Str} {st : Stmt} {ps : List Str} (hi : fnl[i]? = some ⟨fun K => He.ga K x, x, x, st⟩) (hj : fas[j]? = some fun K => (He.Fa.glo x).ok K) (hb : BindsH x x st ps) : Def K mg x st ps := by
  obtain ⟨fd, F⟩ := c.fn i hi
  exact ⟨_, fd, He.glo_ok KX G (c.fact j hj), F, F.binds hb⟩
theorem SaysX.mdef_ (c : SaysX w K) (i j : Nat) {C m qual : Str} {st : Stmt} {ps : List Str} (hi : fnl[i]? = some ⟨fun K => He.ma K (He.ga K C) m, m, qual, st⟩) (hj : fas[j]? = some fun K => (He.Fa.meth C m).ok K) (hb : BindsH m qual st ps) : MDef K (He.ga K C) m qual st ps := by
  obtain ⟨fd, F⟩ := c.fn i hi
  exact ⟨_, fd, F, F.binds hb, He.meth_ok (c.fact j hj)⟩
theorem SaysX.idef_ (c : SaysX w K) (i j : Nat) {C qual : Str} {st : Stmt} {ps : List Str} (hi : fnl[i]? = some ⟨fun K => He.ma K (He.ga K C) "__init__", "__init__", qual, st⟩) (hj : fas[j]? = some fun K => (He.Fa.mkr C).ok K) (hb : BindsH "__init__" qual st ps) : IDef K (He.ga K C) qual st ps := by
  obtain ⟨fd, F⟩ := c.fn i hi
  exact ⟨_, fd, F, F.binds hb, He.mkr_ok (c.fact j hj)⟩
theorem SaysX.pdef_ (c : SaysX w K) (i j : Nat) {C m qual : Str} {st : Stmt} {ps : List Str} (hi : fnl[i]? = some ⟨fun K => gt K (He.ma K (He.ga K C) m) "property", m, qual, st⟩) (hj : fas[j]? = some fun K => propB K (He.ga K C) m) (hb : BindsH m qual st ps) : PDef K (He.ga K C) m qual st ps := by
  obtain ⟨fd, F⟩ := c.fn i hi
  exact ⟨_, _, fd, F, F.binds hb, prop_ok (c.fact j hj)⟩
theorem SaysX.cdef_ (c : SaysX w K) (i j : Nat) {C m qual : Str} {st : Stmt} {ps : List Str} (hi : fnl[i]? = some ⟨fun K => gt K (cmP K (He.ga K C) m) "classmethod", m, qual, st⟩) (hj : fas[j]? = some fun K => cmetB K (He.ga K C) m) (hb : BindsH m qual st ps) :
    ∃ (mc : Value) (p g : Addr) (fd : FuncData), Fun K m qual st g fd ∧ Binds K fd ps [] ∧ CRead K (He.ga K C) mc ∧ CMet K (He.ga K C) mc m p g := by
  obtain ⟨fd, F⟩ := c.fn i hi
  obtain ⟨h1, h2⟩ := cmet_ok (c.fact j hj)
  exact ⟨_, _, _, fd, F, F.binds hb, h1, h2⟩
theorem SaysX.sizes_ (KX : K.In h) (G : h.Ns mainGlobals mg) (c : SaysX w K) (i j : Nat) (hi : fas[i]? = some fun K => He.valsB K (He.ga K "SIZES") sizesV) (hj : fas[j]? = some fun K => (He.Fa.glo "SIZES").ok K) :
    ∃ (d : Addr) (es : Array DictEntry) (n : Nat), mg "SIZES" = some (.ref d) ∧ KDict K w d es n ∧
    ∀ z k, (z, k) ∈ [(("post" : Str), (3 : Int)), ("swap", 3), ("shift", 3), ("teach", 2), ("keep_as", 2), ("fetch", 2), ("undo", 1), ("redo", 1)] → ∃ t, PySem.W.nsIn K d z = some (some (.int k t)) := by
  have e : He.dicW K (He.ga K "SIZES") = some (He.keysIn w.params sizesK) := congrArg (fun z : AlX => z.2) c
  obtain ⟨es, n, hD⟩ := He.dicW_ok e
  refine ⟨_, es, n, He.glo_ok KX G (c.fact j hj), hD, fun z k hm => ?_⟩
  have hq : (z, He.Dv.int k) ∈ sizesV := by
    have := List.mem_map_of_mem (f := fun q : Str × Int => (q.1, He.Dv.int q.2)) hm
    exact this
  obtain ⟨u, h1, t, h2⟩ := He.valsB_ok (c.fact i hi) hq
  exact ⟨t, by rw [h1, h2]⟩
end
theorem txt_of {w : World} {K : Frg} {h : Heap} {mg : Str → Option Value} (KX : K.In h) (G : h.Ns mainGlobals mg) (c : SaysX w K) : Txt K mg w (He.ga K "House") (He.ga K "State") (He.ga K "Hall") (He.ga K "Trial") where
  b := ⟨He.free_ok KX G (c.fact 0 rfl), He.free_ok KX G (c.fact 1 rfl), He.free_ok KX G (c.fact 2 rfl), He.free_ok KX G (c.fact 3 rfl), He.free_ok KX G (c.fact 4 rfl), He.free_ok KX G (c.fact 5 rfl), He.free_ok KX G (c.fact 6 rfl), He.free_ok KX G (c.fact 7 rfl), He.free_ok KX G (c.fact 8 rfl), He.free_ok KX G (c.fact 9 rfl), He.free_ok KX G (c.fact 10 rfl), He.free_ok KX G (c.fact 11 rfl), He.free_ok KX G (c.fact 12 rfl), He.free_ok KX G (c.fact 13 rfl), He.free_ok KX G (c.fact 14 rfl)⟩
  letters := He.str_ok KX G (c.fact 15 rfl)
  point := He.str_ok KX G (c.fact 16 rfl)
  backh := He.str_ok KX G (c.fact 17 rfl)
  backl := He.str_ok KX G (c.fact 18 rfl)
  keep := He.str_ok KX G (c.fact 19 rfl)
  kept := He.str_ok KX G (c.fact 20 rfl)
  lies := He.str_ok KX G (c.fact 21 rfl)
  round := He.str_ok KX G (c.fact 22 rfl)
  maxl := He.int_ok KX G (c.fact 23 rfl)
  maxn := He.int_ok KX G (c.fact 24 rfl)
  maxb := He.int_ok KX G (c.fact 25 rfl)
  is_number := c.def_ KX G 0 26 rfl rfl (fun _ _ _ _ _ _ us hl => match us, hl with | [_, _, _], _ => rfl)
  is_text := c.def_ KX G 1 27 rfl rfl (fun _ _ _ _ _ _ us hl => match us, hl with | [_, _], _ => rfl)
  are_names := c.def_ KX G 2 28 rfl rfl (fun _ _ _ _ _ _ us hl => match us, hl with | [_], _ => rfl)
  are_plates := c.def_ KX G 3 29 rfl rfl (fun _ _ _ _ _ _ us hl => match us, hl with | [_, _], _ => rfl)
  is_manner := c.def_ KX G 4 30 rfl rfl (fun _ _ _ _ _ _ us hl => match us, hl with | [_, _, _], _ => rfl)
  are_manners := c.def_ KX G 5 31 rfl rfl (fun _ _ _ _ _ _ us hl => match us, hl with | [_, _, _], _ => rfl)
  check_name := c.def_ KX G 6 32 rfl rfl (fun _ _ _ _ _ _ us hl => match us, hl with | [_, _], _ => rfl)
  check_box := c.def_ KX G 7 33 rfl rfl (fun _ _ _ _ _ _ us hl => match us, hl with | [_, _], _ => rfl)
  with_manner := c.def_ KX G 8 34 rfl rfl (fun _ _ _ _ _ _ us hl => match us, hl with | [_, _, _], _ => rfl)
  is_order := c.def_ KX G 9 35 rfl rfl (fun _ _ _ _ _ _ us hl => match us, hl with | [_, _], _ => rfl)
  check_order := c.def_ KX G 10 36 rfl rfl (fun _ _ _ _ _ _ us hl => match us, hl with | [_, _], _ => rfl)
  does_match := c.def_ KX G 11 37 rfl rfl (fun _ _ _ _ _ _ us hl => match us, hl with | [_, _], _ => rfl)
  does_fit := c.def_ KX G 12 38 rfl rfl (fun _ _ _ _ _ _ us hl => match us, hl with | [_, _], _ => rfl)
  owner_of := c.def_ KX G 13 39 rfl rfl (fun _ _ _ _ _ _ us hl => match us, hl with | [_, _, _], _ => rfl)
  handed_on := c.def_ KX G 14 40 rfl rfl (fun _ _ _ _ _ _ us hl => match us, hl with | [_, _, _, _], _ => rfl)
  way_of := c.def_ KX G 15 41 rfl rfl (fun _ _ _ _ _ _ us hl => match us, hl with | [_, _, _, _], _ => rfl)
  answer_of := c.def_ KX G 16 42 rfl rfl (fun _ _ _ _ _ _ us hl => match us, hl with | [_, _, _, _], _ => rfl)
  learned := c.def_ KX G 17 43 rfl rfl (fun _ _ _ _ _ _ us hl => match us, hl with | [_, _, _, _, _], _ => rfl)
  behind_letter := c.def_ KX G 18 44 rfl rfl (fun _ _ _ _ _ _ us hl => match us, hl with | [_, _, _, _], _ => rfl)
  exchanged := c.def_ KX G 19 45 rfl rfl (fun _ _ _ _ _ _ us hl => match us, hl with | [_, _, _], _ => rfl)
  is_operation := c.def_ KX G 20 46 rfl rfl (fun _ _ _ _ _ _ us hl => match us, hl with | [_], _ => rfl)
  taken := c.def_ KX G 21 47 rfl rfl (fun _ _ _ _ _ _ us hl => match us, hl with | [_, _], _ => rfl)
  pick := c.def_ KX G 22 48 rfl rfl (fun _ _ _ _ _ _ us hl => match us, hl with | [_, _], _ => rfl)
  mixed := c.def_ KX G 23 49 rfl rfl (fun _ _ _ _ _ _ us hl => match us, hl with | [_, _], _ => rfl)
  goes := c.def_ KX G 24 50 rfl rfl (fun _ _ _ _ _ _ us hl => match us, hl with | [_, _], _ => rfl)
  orders := c.def_ KX G 25 51 rfl rfl (fun _ _ _ _ _ _ us hl => match us, hl with | [_], _ => rfl)
  way := c.def_ KX G 26 52 rfl rfl (fun _ _ _ _ _ _ us hl => match us, hl with | [_, _, _, _], _ => rfl)
  lettersL := c.def_ KX G 27 53 rfl rfl (fun _ _ _ _ _ _ us hl => match us, hl with | [_], _ => rfl)
  scheme := c.def_ KX G 28 54 rfl rfl (fun _ _ _ _ _ _ us hl => match us, hl with | [_, _], _ => rfl)
  built := c.def_ KX G 29 55 rfl rfl (fun _ _ _ _ _ _ us hl => match us, hl with | [_], _ => rfl)
  rowhouse := c.def_ KX G 30 56 rfl rfl (fun _ _ _ _ _ _ us hl => match us, hl with | [_], _ => rfl)
  taught := c.def_ KX G 31 57 rfl rfl (fun _ _ _ _ _ _ us hl => match us, hl with | [_, _, _, _, _, _], _ => rfl)
  swapped := c.def_ KX G 32 58 rfl rfl (fun _ _ _ _ _ _ us hl => match us, hl with | [_, _, _, _], _ => rfl)
  step := c.def_ KX G 33 59 rfl rfl (fun _ _ _ _ _ _ us hl => match us, hl with | [_, _, _], _ => rfl)
  shows := c.def_ KX G 34 60 rfl rfl (fun _ _ _ _ _ _ us hl => match us, hl with | [_, _, _], _ => rfl)
  mHouse := He.glo_ok KX G (c.fact 62 rfl)
  hs := scls_ok (c.fact 63 rfl)
  hsi := sisi_ok (c.fact 64 rfl)
  hfolk := ⟨_, slot_ok (c.fact 65 rfl) (by decide)⟩
  hsigns := ⟨_, slot_ok (c.fact 66 rfl) (by decide)⟩
  hways := ⟨_, slot_ok (c.fact 67 rfl) (by decide)⟩
  hkit := of_decide_eq_true (c.fact 68 rfl)
  hnf := (c.fact 69 rfl)
  hmro := of_decide_eq_true (c.fact 70 rfl)
  hne := He.eqO_ok (c.fact 71 rfl)
  hinit := c.idef_ 36 72 rfl rfl (fun _ _ _ _ _ _ us hl => match us, hl with | [_, _, _, _], _ => rfl)
  hnames := c.pdef_ 37 73 rfl rfl (fun _ _ _ _ _ _ us hl => match us, hl with | [_], _ => rfl)
  hplates := c.pdef_ 38 74 rfl rfl (fun _ _ _ _ _ _ us hl => match us, hl with | [_], _ => rfl)
  hmanners := c.pdef_ 39 75 rfl rfl (fun _ _ _ _ _ _ us hl => match us, hl with | [_], _ => rfl)
  heq := c.mdef_ 40 76 rfl rfl (fun _ _ _ _ _ _ us hl => match us, hl with | [_, _], _ => rfl)
  mState := He.glo_ok KX G (c.fact 77 rfl)
  ss := scls_ok (c.fact 78 rfl)
  sfacts := ⟨_, slot_ok (c.fact 79 rfl) (by decide)⟩
  spast := ⟨_, slot_ok (c.fact 80 rfl) (by decide)⟩
  sshelf := ⟨_, slot_ok (c.fact 81 rfl) (by decide)⟩
  sundone := ⟨_, slot_ok (c.fact 82 rfl) (by decide)⟩
  sinit := c.idef_ 41 83 rfl rfl (fun _ _ _ _ _ _ us hl => match us, hl with | [_, _, _, _, _], _ => rfl)
  scopied := c.mdef_ 42 84 rfl rfl (fun _ _ _ _ _ _ us hl => match us, hl with | [_], _ => rfl)
  sgo_on := c.mdef_ 43 85 rfl rfl (fun _ _ _ _ _ _ us hl => match us, hl with | [_, _, _, _], _ => rfl)
  sgo_back := c.mdef_ 44 86 rfl rfl (fun _ _ _ _ _ _ us hl => match us, hl with | [_], _ => rfl)
  sgo_again := c.mdef_ 45 87 rfl rfl (fun _ _ _ _ _ _ us hl => match us, hl with | [_], _ => rfl)
  mHall := He.glo_ok KX G (c.fact 88 rfl)
  ls := He.cls_ok (c.fact 89 rfl)
  lstate := He.noat_ok (c.fact 90 rfl)
  linit := c.idef_ 46 91 rfl rfl (fun _ _ _ _ _ _ us hl => match us, hl with | [_, _, _], _ => rfl)
  lreplay := c.cdef_ 47 92 rfl rfl (fun _ _ _ _ _ _ us hl => match us, hl with | [_, _, _, _], _ => rfl)
  lhouse_now := c.pdef_ 48 93 rfl rfl (fun _ _ _ _ _ _ us hl => match us, hl with | [_], _ => rfl)
  lliving := c.pdef_ 49 94 rfl rfl (fun _ _ _ _ _ _ us hl => match us, hl with | [_], _ => rfl)
  lteaches := c.pdef_ 50 95 rfl rfl (fun _ _ _ _ _ _ us hl => match us, hl with | [_], _ => rfl)
  lposted := c.pdef_ 51 96 rfl rfl (fun _ _ _ _ _ _ us hl => match us, hl with | [_], _ => rfl)
  lkept_under := c.pdef_ 52 97 rfl rfl (fun _ _ _ _ _ _ us hl => match us, hl with | [_], _ => rfl)
  lhistory := c.pdef_ 53 98 rfl rfl (fun _ _ _ _ _ _ us hl => match us, hl with | [_], _ => rfl)
  lenter := c.mdef_ 54 99 rfl rfl (fun _ _ _ _ _ _ us hl => match us, hl with | [_, _, _], _ => rfl)
  lpost := c.mdef_ 55 100 rfl rfl (fun _ _ _ _ _ _ us hl => match us, hl with | [_, _, _], _ => rfl)
  lswap := c.mdef_ 56 101 rfl rfl (fun _ _ _ _ _ _ us hl => match us, hl with | [_, _, _], _ => rfl)
  lshift := c.mdef_ 57 102 rfl rfl (fun _ _ _ _ _ _ us hl => match us, hl with | [_, _, _], _ => rfl)
  lteach := c.mdef_ 58 103 rfl rfl (fun _ _ _ _ _ _ us hl => match us, hl with | [_, _], _ => rfl)
  lkeep_as := c.mdef_ 59 104 rfl rfl (fun _ _ _ _ _ _ us hl => match us, hl with | [_, _], _ => rfl)
  lfetch := c.mdef_ 60 105 rfl rfl (fun _ _ _ _ _ _ us hl => match us, hl with | [_, _], _ => rfl)
  lundo := c.mdef_ 61 106 rfl rfl (fun _ _ _ _ _ _ us hl => match us, hl with | [_], _ => rfl)
  lredo := c.mdef_ 62 107 rfl rfl (fun _ _ _ _ _ _ us hl => match us, hl with | [_], _ => rfl)
  lexecute := c.mdef_ 63 108 rfl rfl (fun _ _ _ _ _ _ us hl => match us, hl with | [_, _], _ => rfl)
  lapply_all := c.mdef_ 64 109 rfl rfl (fun _ _ _ _ _ _ us hl => match us, hl with | [_, _], _ => rfl)
  mTrial := He.glo_ok KX G (c.fact 110 rfl)
  ts := He.cls_ok (c.fact 111 rfl)
  ttested := He.noat_ok (c.fact 112 rfl)
  torigin := He.noat_ok (c.fact 113 rfl)
  tfresh := He.noat_ok (c.fact 114 rfl)
  tchosen := He.noat_ok (c.fact 115 rfl)
  tinit := c.idef_ 65 116 rfl rfl (fun _ _ _ _ _ _ us hl => match us, hl with | [_, _], _ => rfl)
  thold := c.mdef_ 66 117 rfl rfl (fun _ _ _ _ _ _ us hl => match us, hl with | [_], _ => rfl)
  tenter := c.mdef_ 67 118 rfl rfl (fun _ _ _ _ _ _ us hl => match us, hl with | [_], _ => rfl)
  texit := c.mdef_ 68 119 rfl rfl (fun _ _ _ _ _ _ us hl => match us, hl with | [_, _, _, _], _ => rfl)
  sizes := c.sizes_ KX G 120 121 rfl rfl
theorem law_def {w : World} {K : Frg} {h : Heap} {mg : Str → Option Value} (KX : K.In h) (G : h.Ns mainGlobals mg) (c : SaysX w K) : ∃ fd, mg "law" = some (.ref (He.ga K "law")) ∧ Fun K "law" "law" s_law (He.ga K "law") fd := by
  obtain ⟨fd, F⟩ := c.fn 35 (d := ⟨fun K => He.ga K "law", "law", "law", s_law⟩) rfl
  exact ⟨fd, He.glo_ok KX G (c.fact 61 (f := fun K => (He.Fa.glo "law").ok K) rfl), F⟩
end Lp
/-! ## Hr -/
set_option Elab.async false
set_option linter.all false
set_option maxRecDepth 100000
set_option maxHeartbeats 0
/-! The head: the top run in the kernel. -/
namespace Lp
open PySem PySem.W PySem.Calls PyProof.Rows
abbrev RWo : OpenRow := OpenLaw.row PySem.Challenge.rw_lostplates_k70_whole_halls_of_long_histo
abbrev qv : Program := view RWo.prog [69]
def obH (s : SharedT) : AlX := obsX (frX (HandSHeadRun.getT s))
theorem obH_eq (s : SharedT) : obH s = hookX.obs s.abs := by
  have e : HandSHeadRun.getT s = s.abs.heap.get? := funext (HandSHeadRun.getT_eq s)
  show obsX (frX (HandSHeadRun.getT s)) = obsX (frX s.abs.heap.get?)
  rw [e]
def loose0 : List PySem.Str := ["_wall", "PlateError", "InvalidHouse", "InvalidOrder", "UnknownName", "InvalidBox", "TakenBox", "InvalidName", "UnknownKept", "InvalidOperation", "LETTERS", "POINT", "MAX_LETTERS", "MAX_NAMES", "MAX_BOXES", "BACK_houses", "KEEP", "is_number", "is_text", "are_names", "are_plates", "is_manner", "are_manners", "House", "check_name", "check_box", "with_manner", "is_order", "check_order", "does_match"]
def loose1 : List PySem.Str := ["does_fit", "owner_of", "KEPT", "LIES", "ROUND", "handed_on", "way_of", "answer_of", "BACK_learning", "learned", "behind_letter", "exchanged", "SIZES", "is_operation", "State", "Hall", "Trial", "_law_taken", "_law_pick", "_law_mixed", "_law_goes", "_law_orders", "_law_way", "_law_letters", "_law_scheme", "_law_built", "_law_rowhouse", "_law_taught", "_law_swapped", "_law_step"]
def loose2 : List PySem.Str := ["_law_shows"]
def looseH : List PySem.Str := loose0 ++ loose1 ++ loose2
theorem runF (w : World) : HandSHeadRun.RunEq RWo qv hookX obH 20000 looseH (w.withFollow "special-get-raises" false) := by
  intro os
  kernel_rfl
theorem runT (w : World) : HandSHeadRun.RunEq RWo qv hookX obH 20000 looseH (w.withFollow "special-get-raises" true) := by
  intro os
  kernel_rfl
theorem runH (w : World) : HandSHeadRun.RunEq RWo qv hookX obH 20000 looseH w := byRow2 (P := fun w => HandSHeadRun.RunEq RWo qv hookX obH 20000 looseH w) "special-get-raises" runF runT w
end Lp
/-! ## End -/
set_option Elab.async false
set_option linter.all false
set_option maxRecDepth 100000
set_option maxHeartbeats 0
/-! The statement. -/
namespace Lp
open PySem PySem.Spec PyProof.Rows L2
theorem fun_bindsA {K : PySem.W.Frag} {x qual : Str} {st : Stmt} {f : Addr} {fd : FuncData} {ps : List Str} (F : Fun K x qual st f fd) (h : BindsH x qual st ps) (s : Shared) (us : List Value) (hl : us.length = ps.length) : BindsTo s fd ⟨us, []⟩ (ps.zip us) := by
  obtain ⟨oc, od, kV, doc, pm, an, cdv, ct, osl, rfl, lk, hcd⟩ := F.ex
  exact .of_eq (h kV doc pm an cdv ct us hl)
theorem law_facts {w : World} {K : Frg} {h : Heap} {mg : Str → Option Value} {fa : Addr} {P : Program} (KX : K.In h) (G : h.Ns mainGlobals mg) (c : SaysX w K) (hmg : mg "law" = some (.ref fa)) :
    ∃ fd : FuncData, (∀ (s : Shared) (u : Value), BindsTo s fd ⟨[u], []⟩ [("_law_script", u)]) ∧ ∀ base : Heap, K.In base → base.Ns mainGlobals mg → FnOk P w K mg base CX0 14 fa fd ["_law_script"] (spLaw K) := by
  obtain ⟨fd, e1, F⟩ := law_def KX G c
  have e := hmg.symm.trans e1
  cases e
  exact ⟨fd, fun s u => fun_bindsA (ps := ["_law_script"]) F (fun _ _ _ _ _ _ us hl => match us, hl with | [_], _ => rfl) s [u] rfl, fun base _ _ => law_ok F (txt_of KX G c)⟩
end Lp
open PySem PySem.W PySem.Calls PyProof.Rows
theorem PySem.Challenge.cw_lostplates_k70_whole_halls_of_long_histo_holds : PySem.Challenge.rw_lostplates_k70_whole_halls_of_long_histo.Holds := by
  w_on; o_law
  refine HandSHeadRun.head_any (r := OpenLaw.row PySem.Challenge.rw_lostplates_k70_whole_halls_of_long_histo) (q := Lp.qv) (H := Lp.hookX) (ob := Lp.obH) (M := 20000) (loose := Lp.looseH) (d := HandSHeadRun.topDef (OpenLaw.row PySem.Challenge.rw_lostplates_k70_whole_halls_of_long_histo).prog 69) (kwd := []) Lp.obH_eq
    (by kernel_rfl) (fun s => by kernel_rfl) Lp.runH (by kernel_rfl) (by kernel_rfl) (by kernel_rfl) (by rfl) (by first | assumption | decide +kernel) (by decide +kernel) ⟨rfl, rfl, rfl, rfl, rfl, by decide +kernel⟩ ?hw ?hc
  case hw => w_witness2
  case hc =>
    refine L2.walk_ofE (l := PySem.Challenge.rw_lostplates_k70_whole_halls_of_long_histo) (n := 63) (k := 14) (x := "_law_script") (CX := L2.CX0) rfl (by decide) (by kernel_rfl) ⟨rfl, by decide, by decide⟩ ?F (fun _ _ _ _ z => z)
    intro w mg fa h Y G hmg0
    obtain ⟨K, KX, c⟩ := Y
    have hmg : mg ("law" : PySem.Str) = some (.ref fa) := by
      have e : (HandSHeadRun.topDef (OpenLaw.row PySem.Challenge.rw_lostplates_k70_whole_halls_of_long_histo).prog 69).name = ("law" : PySem.Str) := by kernel_rfl
      rw [← e]
      exact hmg0
    obtain ⟨fd, hb, hF⟩ := Lp.law_facts (P := (PySem.Challenge.rw_lostplates_k70_whole_halls_of_long_histo).prog) (w := w) KX G c hmg
    exact ⟨K, fd, Lp.spLaw K, KX, hb, fun H a ns hl _ hS => ⟨a, ns, rfl, hS, fun _ => rfl⟩, hF⟩
