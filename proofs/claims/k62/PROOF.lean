import PyProof.Rows.All
import Wide.All
import OpenK.AllK
import Wide.FinOn
import HandS.ForMost
import HandS.Exc
import HandS.TryOnly
import HandS.ExcOwn
import HandS.WordsExc
import HandS.ExcValue
import HandS.ExcIs
import HandS.IsInst
import HandS.Lambda
import HandS.EndTab
import HandS.Style
import HandS.Wide
import HandS.StrMore
import HandS.Replace
import HandS.Small
import HandS.MakeKwOnly
import PyProof.EnumMake
import PyProof.Draws
import HandS.Codes
import HandS.Evl
import HandS.EndOwn
import PySem.Challenge.RW_sureweights_k62_whole_seals_by_own_sums
set_option Elab.async false
set_option linter.all false
set_option maxRecDepth 100000
set_option maxHeartbeats 4000000
namespace Sw
open PySem PySem.Spec PyProof.Rows L2
/-! rules of my own over the hand layer -/
section
variable {X : Cx}
/-- t[::-1], t a text -/
def revText (z : Str) : Str := ⟨z.cps.toList.reverse.toArray⟩
def tRevS (te : TE) : TE := fun σ H Q => te σ H fun x H1 => ∃ z, x = .str z ∧ z.length ≤ sizeLine ∧ Q (.str (revText z)) H1
theorem down_all (n : Nat) : Builtin.Str.strSliceIndices none none (-1) n = (List.range n).reverse := by
  have e : Builtin.Str.strSliceIndices none none (-1) n = sliceRange ((n : Int) - 1) (-1) (-1) := rfl
  rw [e, PySem.W.krv_sliceRange, PySem.W.krv_range]
theorem pe_revS {e : Expr} {te : TE} {k : Nat} {p1 p2 p3 pos : Pos} (he : PE X e te) :
    PE X (.Subscript e (.Slice none none (some (.UnaryOp .USub (.Constant (.int 1) k p1) p2)) p3) pos) (tRevS te) := by
  constructor
  intro pins s0 σ0 H0 Q0 I0 h0
  refine Subscript_ (thn (he.run pins s0 σ0 H0 _ I0 h0) ?_)
  rintro v1 s1 ⟨x1, H1, I1, r1, z, rfl, hz, q⟩
  obtain ⟨tk, rfl⟩ := r1
  have step : PO X (some (.UnaryOp .USub (.Constant (.int 1) k p1) p2)) (tPart (tUn (rU fun i => .int (-i)) (tC (.int 1)))) :=
    po_some (pe_un un_neg pe_int)
  have two : ∀ {s : Shared} {H : Hp}, Inv X pins σ0 H s → tNoPart σ0 H (fun o H' => o = none ∧ H' = H) := fun _ => ⟨rfl, rfl⟩
  refine wpAny_Slice (thn (po_none.run pins s1 σ0 H1 _ I1 (two I1)) ?_)
  rintro vl s2 ⟨o2, H2, I2, pl, rfl, rfl⟩
  refine thn (po_none.run pins s2 σ0 H2 _ I2 (two I2)) ?_
  rintro vu s3 ⟨o3, H3, I3, pu, rfl, rfl⟩
  refine thn (step.run pins s3 σ0 H3 (fun o H' => o = some (-1) ∧ H' = H3) I3 ⟨1, rfl, -1, rfl, rfl, rfl⟩) ?_
  rintro vs s4 ⟨o4, H4, I4, ps, rfl, rfl⟩
  obtain ⟨l, rfl, el⟩ := IsPart.raw pl
  obtain ⟨u, rfl, eu⟩ := IsPart.raw pu
  obtain ⟨st, rfl, es⟩ := IsPart.raw ps
  obtain rfl : l = none := by cases l with | none => rfl | some _ => cases el
  obtain rfl : u = none := by cases u with | none => rfl | some _ => cases eu
  obtain ⟨jt, rfl, ej⟩ : ∃ jt : Int × Tok, st = some jt ∧ jt.1 = -1 := by
    cases st with
    | none => cases es
    | some jt => exact ⟨jt, rfl, Option.some.inj es⟩
  have I5 := I4.kept (t' := s4.toks) (h' := s4.heap.push { cls := .type "slice", data := .fields #[partValue none, partValue none, partValue (some jt)] }) (fun b ob g => Heap.get?_push_of_some _ g)
  show wpAny (model X.prog X.w) X.A (subscriptTail e _ (.str z tk) (.ref s4.heap.objs.size)) (EP X pins σ0 Q0) X.xe { s4 with heap := _ }
  refine tail_any (T := "str") (ops := [.str z tk, .ref s4.heap.objs.size]) (typeIs_str _ z tk) F.slot_str_getitem.lookup ?_ (by with_unfolding_all rfl)
  refine wpAny_getItem_str_slice (l := none) (u := none) (st := some jt) ⟨_, Heap.get?_push_size _ rfl, rfl, rfl⟩ (by show (jt.1 == 0) = false; rw [ej]; rfl) ?_
  have e1 : slicePicked z none none (some jt) = (List.range z.length).reverse := by
    unfold slicePicked
    show Builtin.Str.strSliceIndices none none jt.1 z.length = _
    rw [ej]
    exact down_all _
  have e2 : ((List.range z.length).reverse.filterMap (z.cps[·]?)).toArray = (revText z).cps := by
    rw [List.filterMap_reverse, show z.length = z.cps.size from rfl, PySem.W.krv_all]
    rfl
  unfold sliceMade
  rw [e1, show ((some jt).map (·.1)).getD 1 = jt.1 from rfl, ej, show ((-1 : Int) == 1 && ((List.range z.length).reverse.length == z.length)) = false from rfl, if_neg Bool.false_ne_true, e2]
  have hl : (revText z).length ≤ sizeLine := by
    show (z.cps.toList.reverse.toArray).size ≤ sizeLine
    rw [List.size_toArray, List.length_reverse, Array.length_toList]
    exact hz
  exact ⟨hl, .str (revText z), _, I5.tok _, ⟨_, rfl⟩, q⟩
theorem fold_one (c : Nat) : ∀ (n : Nat) (acc : Array Nat), (List.replicate n #[c]).foldl (· ++ ·) acc = acc ++ (List.replicate n c).toArray
  | 0, acc => by simp
  | n + 1, acc => by
    rw [List.replicate_succ, List.foldl_cons, fold_one c n, List.replicate_succ, Array.append_assoc]
    congr 1
    simp
/-- c * n, c one sign, n above 1 -/
def rRepS : R2 := fun x y H Q => ∃ (c n : Nat), x = .str ⟨#[c]⟩ ∧ y = .int (n : Int) ∧ 2 ≤ n ∧ n ≤ 1000000 ∧ Q (.str ⟨(List.replicate n c).toArray⟩) H
theorem op_repS : OpR X (binaryOp .Mult) rRepS := by
  intro pins s σ H x y v u Q I rx ry h
  obtain ⟨c, n, rfl, rfl, h2, hn, q⟩ := h
  obtain ⟨t, rfl⟩ := rx
  obtain ⟨t', rfl⟩ := ry
  have g1 : ¬ ((n : Int) < 1) := by omega
  have hz : (⟨#[c]⟩ : Str).length = 1 := rfl
  have g2 : ((n : Int) == 1 || (⟨#[c]⟩ : Str).length == 0) = false := by
    rw [hz, Bool.or_eq_false_iff]
    exact ⟨beq_eq_false_iff_ne.mpr (by omega), rfl⟩
  have sz : n ≤ sizeLine := by rw [sizeLine_eq]; omega
  refine P.mul_str ?_ (fun _ _ => ?_) (fun _ _ => ?_) ?_
  · rw [Bool.or_eq_false_iff]
    exact ⟨decide_eq_false (by omega), decide_eq_false (by omega)⟩
  · rw [hz]
    have hp : (0 : Int) < (n : Int) := by omega
    have : (1 : Int) ≤ (2 ^ 63 - 1) / (n : Int) := Int.le_ediv_of_mul_le hp (by omega)
    omega
  · rw [hz, Nat.one_mul, Int.toNat_natCast]
    exact decide_eq_false (by omega)
  · rw [if_neg g1, g2, if_neg Bool.false_ne_true]
    have e : (List.replicate ((n : Int)).toNat (⟨#[c]⟩ : Str).cps).foldl (· ++ ·) #[] = (List.replicate n c).toArray := by
      rw [Int.toNat_natCast, fold_one]
      simp
    rw [e]
    refine ⟨?_, .str _, _, I.tok _, ⟨_, rfl⟩, q⟩
    show (List.replicate n c).toArray.size ≤ sizeLine
    rw [List.size_toArray, List.length_replicate]
    exact sz
/-- f(k = v, ..) -/
theorem pe_callK0 {CX : CXT} {k : Nat} {f : Addr} {fd : FuncData} {ps ks : List Str} {sp : Sp} {E : XK} {x : Str} {p pos : Pos} {kws : List Keyword} {tk : TA} {g : List Value → List Value → List Value} {gV : List V → List V → List V}
    (G : FnOk X.prog X.w X.K X.mg X.base CX k f fd ps sp) (hr : Room k X.A) (hg : Gl X x) (hm : X.mg x = some (.ref f)) (hk : PySem.W.keepIn X.K (.ref f) = true) (hb : KBn X.K fd ps 0 ks g gV) (hx : Passes CX X E)
    (hkw : PK X kws tk) (hall : (backToKw pos (keywordEach kws X.env)).all (·.1.isSome) = true := by rfl) (hks : (backToKw pos (keywordEach kws X.env)).filterMap (·.1) = ks := by rfl)
    (hdb : (x == ("__debug__" : Str)) = false := by decide)
    (hpl : ((backTo pos (starEach [] X.env)).any (·.1) || (backToKw pos (keywordEach kws X.env)).any (·.1.isNone)) = false := by rfl) :
    PE X (.Call (.Name x p) [] kws pos) (tCallN 0 ks.length sp gV E tNil tk) := by
  constructor
  intro pins s0 σ0 H0 Q0 I0 h0
  refine wpAny_Call_Name_kw (ld_glob I0 hg hm ?_ hdb)
  refine PySem.W.callWith_KW0 (h₀ := X.base) I0.ok.mod.kin hk hall ?_ hpl
  refine thn (hkw.run pos pins s0 σ0 H0 _ I0 h0) ?_
  rintro ws s2 ⟨zs, H2, I2, rz, l1, l2, q2⟩
  refine ⟨I2.kIn, ?_⟩
  rw [hks]
  exact run_fnN (us := []) (vs := []) G hr hb hx I2 .nil rz rfl l2 q2
/-- enumerate(t), t a text: each sign in a new pair -/
def ItEs (z : Str) : It :=
  ⟨fun i _ => i < z.cps.size, fun i H v H' => ∃ T c, v = .ref T ∧ H T = none ∧ z.cps[i]? = some c ∧ H' = upd H T (.tup [.int (i : Nat), .str ⟨#[c]⟩]), fun i _ => i = z.cps.size⟩
theorem draws_text {prog : Program} {w : World} {A : Around} (hh : A.handled = none) (it : Addr) (z : Str) (t : Tok) :
    Draws prog w A it [it] z.cps.size (fun i v => ∃ c u, z.cps[i]? = some c ∧ v = .str ⟨#[c]⟩ u) (fun i h => h.IsStrIter it (strIterType z) z t i) := by
  unfold strIterType
  by_cases ha : z.cps.all (· < 128) = true
  · rw [if_pos ha]
    exact Draws.strAscii hh it z t
  · rw [if_neg ha]
    exact Draws.strWide hh it z t
theorem turn_enumS {P : Program} {w : World} {K : PySem.W.Frag} {elts : List Expr} {kk : Nat} {tpos : Pos} (z : Str) (t : Tok) (e it : Addr) :
    Turn P w K (.Tuple elts kk tpos) (ItEs z) [e, it] e (fun i h => (∃ old, IsEnum h e it ((i : Nat) : Int) old) ∧ h.IsStrIter it (strIterType z) z t i ∧ e ≠ it) where
  mem := by simp
  obj := by
    rintro i h ⟨⟨old, he⟩, ⟨o, ho, hc, hd⟩, -⟩ b hb
    rcases List.mem_cons.mp hb with rfl | hb
    · exact ⟨_, he, fun v => nofun⟩
    · obtain rfl : b = it := by simpa using hb
      exact ⟨o, ho, fun v q => by rw [hd] at q; cases q⟩
  keep := by
    rintro i h h' ⟨⟨old, he⟩, ⟨o, ho, r⟩, hne⟩ k
    exact ⟨⟨old, k e (by simp) _ he⟩, ⟨o, k it (by simp) o ho, r⟩, hne⟩
  item := by
    rintro X rfl rfl rfl hc i pins s σ H E I hf ⟨⟨old, he⟩, hit, hne⟩ hg
    have hg : i < z.cps.size := hg
    have el : e < s.heap.objs.size := Heap.lt_size he
    have il : it < s.heap.objs.size := by obtain ⟨_, q, _⟩ := hit; exact Heap.lt_size q
    refine wpAny_pyNext_enum_itemD (draws_text (show X.A.in1.handled = none from I.ok.hd hc) it z t) he hit hg hne (by simpa using hne) ?_
    rintro v h1 tk ⟨c, u, hcx, rfl⟩ ho hit1 hT hsz hk
    refine ⟨_, rfl, wpAny_letOwnedTupleGo_enum (s := { s with heap := h1, toks := tk + 1 }) ho ?_⟩
    intro h2 he2 sb
    have hT2 : h2.get? s.heap.objs.size = some { cls := .type "tuple", data := .seq #[.int i tk, .str ⟨#[c]⟩ u] } := (sb.2 _ (Nat.ne_of_gt el)).trans hT
    have new : ObjOk X.prog X.w (upd H s.heap.objs.size (.tup [.int (i : Nat), .str ⟨#[c]⟩])) h2 s.heap.objs.size (.tup [.int (i : Nat), .str ⟨#[c]⟩]) :=
      ⟨show 2 ≤ sizeLine by decide, [.int i tk, .str ⟨#[c]⟩ u], .cons ⟨tk, rfl⟩ (.cons ⟨u, rfl⟩ .nil), _, hT2, rfl, _, rfl⟩
    have J := I.turnedNew (t' := tk + 1) (ch := [e, it]) (h' := h2)
      (fun b ob hb q => (sb.2 b fun g => hb (by simp [g])).trans (hk b ob (fun g => hb (by simp [g])) (fun g => hb (by simp [g])) q)) hf (Nat.le_refl _) new
    refine ⟨.ref s.heap.objs.size, _, J, rfl, ⟨_, c, rfl, I.hok.fresh (Nat.le_refl _), hcx, rfl⟩, ⟨⟨_, by rw [Int.natCast_succ]; exact he2⟩, ?_, hne⟩, ?_⟩
    · obtain ⟨o, q1, q2⟩ := hit1
      exact ⟨o, (sb.2 it (Ne.symm hne)).trans q1, q2⟩
    · intro b hb
      have lb : b < s.heap.objs.size := by
        rcases List.mem_cons.mp hb with rfl | hb
        · exact el
        · obtain rfl : b = it := by simpa using hb
          exact il
      rw [upd_ne (Nat.ne_of_lt lb)]
      exact (hf b hb).1
  done := by
    rintro X rfl rfl rfl hc i pins s σ H E I hf ⟨⟨old, he⟩, hit, hne⟩ hg
    have hg : i = z.cps.size := hg
    subst hg
    obtain ⟨f0, f1, f2, f3, f4, f5⟩ := hf it (by simp)
    refine wpAny_pyNext_enum_endD (draws_text (show X.A.in1.handled = none from I.ok.hd hc) it z t) he hit ?_
    intro h1 eb
    exact ⟨rfl, I.turned (t' := s.toks) (fun b o hb q => eb b o hb q) f0 f1 f3 f4 f5⟩
  self := fun A i s Q E st h => let ⟨⟨_, he⟩, _⟩ := st; wpAny_pyIter_enum he h
def iEnumS (ta : TA) : TI := fun σ H R => ta σ H fun vs H1 => ∃ z, vs = [.str z] ∧ R (ItEs z) H1
theorem pi_enumS {e : Expr} {ta : TA} {p pos tpos : Pos} {elts : List Expr} {kk : Nat} (hg : Gl X "enumerate") (hm : X.mg "enumerate" = none) (ha : PA X [e] ta)
    (hs : starEach [e] X.env = [(false, eval e X.env)] := by rfl) : PI X (.Tuple elts kk tpos) (.Call (.Name "enumerate" p) [e] [] pos) (iEnumS ta) := by
  constructor
  intro pins s0 σ0 H0 R0 I0 h0
  refine Call_ (ld_blt I0 hg hm boot_enumerate (PyProof.Rows.callWith_type1 (thn (ha.run pos pins s0 σ0 H0 _ I0 h0) ?_) hs rfl))
  rintro us s1 ⟨vs, H1, I1, r1, z, rfl, q⟩
  cases r1 with
  | cons r rr =>
    cases rr
    obtain ⟨t, rfl⟩ := r
    refine call_enumerate_str fun h1 he hit hsz hk => wpAny_pyIter_enum he ?_
    have J := I1.kept (t' := s1.toks) hk
    refine ⟨s1.heap.objs.size + 1, [s1.heap.objs.size + 1, s1.heap.objs.size], _, _, H1, rfl, J, turn_enumS z t _ _, ⟨⟨.none, he⟩, hit, Nat.succ_ne_self _⟩, ?_, q⟩
    intro b hb
    have hle : s1.heap.objs.size ≤ b := by
      rcases List.mem_cons.mp hb with rfl | hb
      · exact Nat.le_succ _
      · obtain rfl : b = s1.heap.objs.size := by simpa using hb
        exact Nat.le_refl _
    exact I1.fpOk hle (I1.hok.fresh hle)
/-- the loop over enumerate(t) by an invariant over the turn, the slots, the heap -/
theorem for_enumS {z : Str} {g : TG} {tb : TS} {σ : L2.St} {H1 : Hp} {D : Ends} (Pv : Nat → L2.St → Hp → Prop) (h0 : Pv 0 σ H1)
    (hs : ∀ i c σ H T, z.cps[i]? = some c → Pv i σ H → H T = none → g (.ref T) σ (upd H T (.tup [.int (i : Nat), .str ⟨#[c]⟩])) fun σ2 H2 =>
      tb { D with nx := Pv (i + 1), ct := Pv (i + 1), bk := D.nx } σ2 H2) (hd : ∀ σ H, Pv z.cps.size σ H → D.nx σ H) :
    ∃ W : Nat → Nat → L2.St → Hp → Prop, (∃ m, W 0 m σ H1) ∧ ∀ i m σ H, W i m σ H → ((ItEs z).stop i H ∧ D.nx σ H) ∨ ((ItEs z).go i H ∧ ∃ N : L2.St → Hp → Prop,
      (∀ σ' H', N σ' H' → ∃ m', m' < m ∧ W (i + 1) m' σ' H') ∧ ∀ x H', (ItEs z).yld i H x H' → g x σ H' fun σ2 H2 => tb { D with nx := N, ct := N, bk := D.nx } σ2 H2) := by
  refine ⟨fun i m σ H => m = z.cps.size - i ∧ i ≤ z.cps.size ∧ Pv i σ H, ⟨_, rfl, Nat.zero_le _, h0⟩, ?_⟩
  rintro i m σ H ⟨rfl, hi, p⟩
  by_cases hlt : i < z.cps.size
  · refine .inr ⟨hlt, Pv (i + 1), fun σ' H' q => ⟨z.cps.size - (i + 1), by omega, rfl, hlt, q⟩, ?_⟩
    rintro x H' ⟨T, c, rfl, hT, hc, rfl⟩
    exact hs i c σ H T hc p hT
  · obtain rfl : i = z.cps.size := by omega
    exact .inl ⟨rfl, hd σ H p⟩
end
end Sw

set_option Elab.async false
set_option linter.all false
set_option maxRecDepth 100000
set_option maxHeartbeats 4000000
namespace Sw
open PySem PySem.Spec PyProof.Rows L2
/-! an error that is caught, kept by a name, handed back -/
/-- an error of the own class C, without attributes -/
def ErrO (C a : Addr) : HO := .ext fun h => ∃ oe vs, h.get? a = some oe ∧ oe.cls = .ref C ∧ oe.dict = none ∧ oe.data = .fields vs
theorem errO_ok {P : Program} {w : World} {H : Hp} {h : Heap} {C a : Addr} {oe : Obj} {vs : Array Value} (e : h.get? a = some oe) (z : Zc (.ref C) none oe) (d : oe.data = .fields vs) : ObjOk P w H h a (ErrO C a) :=
  ⟨⟨oe, vs, e, z.1, z.2, d⟩, ⟨oe, e⟩, fun _ _ ⟨o, v, q, r⟩ k => ⟨o, v, k o q, r⟩⟩
section
variable {X : Cx}
/-- an untracked object that was not there at the entry is tracked from now on -/
theorem track {pins : List (Addr × Obj)} {σ : L2.St} {H : Hp} {s : Shared} {a : Addr} {o : HO} (I : Inv X pins σ H s) (hp : ∀ p ∈ X.pn ++ pins, p.1 ≠ a) (hn : H a = none) (h0 : X.s_0.heap.get? a = none) (hL : a ≠ X.env.locals)
    (hc : ∀ x c, X.env.cells.lookup x = some c → c ≠ a) (new : ObjOk X.prog X.w (upd H a o) s.heap a o) : Inv X pins σ (upd H a o) s where
  ok := I.ok
  os := I.os
  bare := I.bare
  base := {
    keep := fun b ob q n h1 h2 => I.base.keep b ob q n h1 h2
    slot := fun b ob q n h1 h2 => I.base.slot b ob q n h1 h2
    free := fun b ob q n h2 => by
      rw [upd_ne (fun z => by rw [z, h0] at q; cases q)]
      exact I.base.free b ob q n h2
    there := fun b ob q h2 => I.base.there b ob q h2
    tups := fun b xs q => by
      have q' := I.base.tups b xs q
      rw [upd_ne (ne_of_none q' hn)]
      exact q'
    frzs := fun b ob xs q => by
      have q' := I.base.frzs b ob xs q
      rw [upd_ne (ne_of_none q' hn)]
      exact q'
    tbls := fun b ps q => by
      obtain ⟨m, q'⟩ := I.base.tbls b ps q
      exact ⟨m, by rw [upd_ne (ne_of_none q' hn)]; exact q'⟩ }
  loc := I.loc
  cell := I.cell
  free := by
    rw [upd_ne (Ne.symm hL)]
    exact I.free
  freeC := fun x c e => by
    rw [upd_ne (hc x c e)]
    exact I.freeC x c e
  pin := fun p q => by
    obtain ⟨q1, q2, q3⟩ := I.pin p q
    exact ⟨q1, by rw [upd_ne (hp p q)]; exact q2, q3⟩
  hok := fun b u q => by
    by_cases hb : b = a
    · subst hb
      rw [upd_same] at q
      cases q
      exact new
    · rw [upd_ne hb] at q
      exact (I.hok b u q).stay (fun c v _ r => r) (fun c r => by rw [upd_ne (ne_of_none r hn)]; exact r) (fun c xs r => by rw [upd_ne (ne_of_none r hn)]; exact r)
  len := I.len
/-- what «except x as n: y = n» wishes of an error that comes out of the body -/
def wKeep (K : PySem.W.Frag) (c : Value) (i j m : Nat) (D : Ends) : WX := fun cls d σ H =>
  ∃ C, cls = .ref C ∧ d = none ∧ PySem.W.exmOne K cls c = some true ∧ ∀ a, H a = none → σ.length = m → D.nx (((σ.set i (some (.ref a))).set j (some (.ref a))).set i none) (upd H a (ErrO C a))
theorem ps_try_keep {x n y : Str} {c : Value} {i j : Nat} {body : List Stmt} {np np2 yp ap pos pos' : Pos} {tb : WX → TS} (hs : X.stack = X.env :: X.outer) (hf : X.env.frame = some X.env.locals) (hex : X.ex = []) (hN : X.N.Nodup) (hi : X.N[i]? = some n) (hj : X.N[j]? = some y)
    (hln : X.env.kindOf n = some .local) (hly : X.env.kindOf y = some .local) (hc : Names X x c)
    (hb : ∀ (W : WX) (pn : List (Addr × Obj)) (xe : Value → Shared → Prop), Takes (X.tr pn xe) W → PassesOwn (model X.prog X.w) X.A X.env xe → PSs (X.tr pn xe) body (tb W))
    (hd : (n == ("__debug__" : Str)) = false := by decide) (hcd : (n == ("__classdict__" : Str)) = false := by decide) :
    PS X (.Try body [.ExceptHandler (some (.Name x np)) (some n) [.Assign [.Name y yp] (.Name n np2) ap] pos'] [] [] pos) (fun D σ H => tb (wKeep X.K c i j X.N.length D) D σ H) := by
  constructor
  intro pins s0 σ0 H0 D I0 h0
  have ok := I0.ok
  have fr : X.A.frames = some (X.env :: X.outer) := ok.frames.trans (congrArg some hs)
  refine wpAny_Try_except ?_
  refine wpAny_mono ((hb (wKeep X.K c i j X.N.length D) (X.pn ++ pins) (fun e s₁ => wpAny (model X.prog X.w) X.A (noteFrame e X.env) (fun _ s₂ => wpAny (model X.prog X.w) X.A (setFlight e none) (fun _ s₃ =>
    wpAny (model X.prog X.w) X.A (handleBy e X.env [.ExceptHandler (some (.Name x np)) (some n) [.Assign [.Name y yp] (.Name n np2) ap] pos']) (SP X pins D) X.xe s₃) X.xe s₂) X.xe s₁) ?_ PassesOwn.looking).run [] s0 σ0 H0 D (I0.toTry _) h0) ?_ (fun _ _ z => z)
  · rintro u s1 ⟨a, B, sI, pins1, σ1, H1, cls, d, rfl, J', nb, up, sky, na, os, ag, C, rfl, rfl, hm, hnx⟩
    have J : Inv X pins σ1 H1 sI := J'.ofTry ok
    have sky1 : Sky B (X.env :: X.outer) a (Zc (.ref C) none) X.env.locals s1.heap := hs ▸ sky
    refine Sky.land Zc.steady fr hf sky1 ?_
    intro h3 fl3 up3
    have J3 := J.landed (s' := { s1 with heap := h3 }) nb fl3.1 (up.trans up3) os ag
    obtain ⟨oe3, vs3, he3, hz3, hd3⟩ := fl3.there
    have off : a ∉ frs (X.env :: X.outer) := fun hm => by
      obtain ⟨_, o1, e1, hx⟩ := fl3.2.2.1.mem hm
      obtain rfl : oe3 = o1 := Option.some.inj (he3.symm.trans e1)
      exact hx _ hd3
    have offL : a ≠ X.env.locals := fun z => off (List.mem_filterMap.mpr ⟨X.env, List.mem_cons_self, by rw [hf, z]⟩)
    have offF : a ∉ X.fs := fun hm => by
      obtain ⟨e1, q1, q2⟩ := List.mem_filterMap.mp hm
      exact off (List.mem_filterMap.mpr ⟨e1, List.mem_cons_of_mem _ q1, q2⟩)
    have T3 := J3.suite he3 hd3 na offL offF
    refine wpAny_handleBy_cons (codeAny_handlers_test ?_) (fun q => nomatch q)
    have kind : PySem.W.Looks (model X.prog X.w) h3 (typeOf (.ref a)) (.ref C) := fun A Q E s k q => wpAny_typeOf_ref (k _ _ he3) (by rw [hz3.1]; exact q)
    have yes := PySem.W.exm_one (M := model X.prog X.w) J3.kIn kind hm
    have named : ∀ {Q E : Value → Shared → Prop}, Q c { s1 with heap := h3 } → wpAny (model X.prog X.w) (X.A.mark (some (.ref a))) (eval (.Name x np) X.env) Q E { s1 with heap := h3 } := fun q => by
      obtain ⟨g1, g2, m1 | ⟨m1, m2, m3⟩⟩ := hc
      · exact ld_glob (X := X.suite a ((a, oe3) :: (X.pn ++ pins))) T3 g1 m1 q g2
      · exact ld_blt (X := X.suite a ((a, oe3) :: (X.pn ++ pins))) T3 g1 m1 m2 q m3 g2
    refine named (yes.here ?_)
    refine codeAny_handlers_suite_as ?_
    refine HandSPX.lands_againZ fl3 ?_
    intro h4 fl4 up4
    have J4 := J.landed (s' := { s1 with heap := h4 }) nb fl4.1 ((up.trans up3).trans up4) os ag
    obtain ⟨oe4, vs4, he4, hz4, hd4⟩ := fl4.there
    have T4 := J4.suite he4 hd4 na offL offF
    refine store_ok (X := X.suite a ((a, oe4) :: (X.pn ++ pins))) (v := .ref a) T4 hN hi (.inl hln) rfl ?_ (.inr hln)
    intro s5 T5
    have iN : i < X.N.length := (List.getElem?_eq_some_iff.mp hi).1
    have suite : PSs (X.suite a ((a, oe4) :: (X.pn ++ pins))) [.Assign [.Name y yp] (.Name n np2) ap] (tAsg (tVar i) (gName j)) :=
      pss_one (ps_set (i := j) hN hj (.inl hly) (pe_var (i := i) hi (.inl hln) hd hcd) (hf := .inr hly))
    refine wpAny_mono (suite.run [] s5 _ H1 { nx := fun σ6 H6 => σ6 = (σ1.set i (some (.ref a))).set j (some (.ref a)) ∧ H6 = H1, rt := fun _ _ => False } T5 ?_) ?_ (fun _ _ z => False.elim z)
    · exact ⟨.ref a, by rw [List.getElem?_set_self (by rw [J4.len]; exact iN)], rfl, rfl⟩
    · intro f s6 hsp
      cases f with
      | next =>
        obtain ⟨σ6, H6, T6, rfl, rfl⟩ := hsp
        obtain ⟨ge, -⟩ := T6.pin (a, oe4) (List.mem_append.mpr (.inl List.mem_cons_self))
        have J6 : Inv X pins _ H6 s6 := T6.unsuite ok
        have off1 : a ∉ frs X.stack := by rw [hs]; exact off
        have gone : ∀ o1, sI.heap.get? a = some o1 → False := fun o1 q1 => by
          have q2 := nb a o1 q1 off1
          rw [fl3.2.1] at q2
          cases q2
        have old : X.s_0.heap.get? a = none := by
          cases q : X.s_0.heap.get? a with
          | none => rfl
          | some o1 =>
            obtain ⟨o2, q2⟩ := J.base.there a o1 q (by rw [hex]; exact fun z => nomatch z)
            exact (gone o2 q2).elim
        have J7 := track (o := ErrO C a) J6 (fun p q z => gone p.2 (by rw [← z]; exact (J.pin p q).1)) na old offL
          (fun x1 c1 e1 z => by obtain ⟨v1, o1, q1, _⟩ := J.cell x1 c1 e1; exact gone o1 (by rw [← z]; exact q1)) (errO_ok ge hz4 hd4)
        exact gone_ok J7 hN hi hln fun s7 K7 => ⟨_, _, K7, hnx a na J.len⟩
      | brk =>
        obtain ⟨σ6, H6, T6, q6⟩ := hsp
        exact q6.elim
      | cont =>
        obtain ⟨σ6, H6, T6, q6⟩ := hsp
        exact q6.elim
      | ret u =>
        obtain ⟨v6, σ6, H6, T6, r6, q6⟩ := hsp
        exact q6.elim
  · intro f s1 hsp
    cases f with
    | next =>
      obtain ⟨σ1, H1, J1, q⟩ := hsp
      exact wpAny_execs_nil ⟨σ1, H1, J1.ofTry ok, q⟩
    | brk =>
      obtain ⟨σ1, H1, J1, q⟩ := hsp
      exact ⟨σ1, H1, J1.ofTry ok, q⟩
    | cont =>
      obtain ⟨σ1, H1, J1, q⟩ := hsp
      exact ⟨σ1, H1, J1.ofTry ok, q⟩
    | ret u =>
      obtain ⟨v, σ1, H1, J1, r, q⟩ := hsp
      exact ⟨v, σ1, H1, J1.ofTry ok, r, q⟩
/-- X(), X an own error without __init__ -/
theorem pmk_own0 {C : Addr} {bmB : List Value} {B newId initId : String} {x : Str} {p pos : Pos} (F : ExcBaseFacts B newId initId bmB) (q : PySem.W.excIn X.K C bmB newId = true) (gC : X.mg x = some (.ref C))
    (kC : PySem.W.keepIn X.K (.ref C) = true) (r : Raises X (.ref C)) (hg : Gl X x) (hdb : (x == ("__debug__" : Str)) = false := by decide) :
    PMk X (.Call (.Name x p) [] [] pos) (fun _ H Q => Q (.ref C) none H) := by
  intro pins s σ H Q I h
  refine wpAny_Call_Name_kw (ld_glob I hg gC ?_ hdb)
  refine PySem.W.callWith_K0 I.kIn kC ?_
  obtain ⟨bm, N, nm, qn, bs, hdct, sn, sub, ab, col, dd, k0, k1, k2, k3, k5, mN, hC, hN, hni, T⟩ := exc_obj I.kIn q
  exact wpAny_call_exc_subT F T hC hN hni (fun h1 e hm => mk_of I hm r h (I.hok.gone hm.new)) (Nat.zero_le _)
/-- isinstance(e, c), e a kept error -/
def rIsErr (K : PySem.W.Frag) : List V → Hp → VK → Prop := fun xs H Q => ∃ (a D : Addr) (c : V) (cv : Value) (b : Bool), xs = [.ref a, c] ∧ ExcC K D ∧ H a = some (ErrO D a) ∧ ClsV c cv ∧ PySem.W.kitOne K (.ref D) cv = some b ∧ Q (.bl b) H
theorem call_isErr : CallR X (.builtin "isinstance") (rIsErr X.K) := by
  intro pins s σ H xs us Q I r h
  obtain ⟨a, D, c, cv, b, rfl, C, ha, hcv, e, q⟩ := h
  obtain ⟨u1, u2, rfl, r1, r2⟩ := vals2 r
  obtain rfl := hcv.eq r2
  obtain rfl : u1 = Value.ref a := r1
  obtain ⟨⟨oe, vs, g1, g2, g3, g4⟩, -⟩ := I.hok a _ ha
  have J : PySem.W.InstAt s.heap a oe D none := by
    obtain ⟨oc, od, oda, osl⟩ := oe
    dsimp only at g2 g3 g4
    subst g2 g3 g4
    exact ⟨g1, rfl, rfl, trivial⟩
  exact PySem.W.kia_one (PySem.W.handS_kitx_exc C.hg C.hk C.hs C.hd C.ha C.hn C.ht C.hm) I.kIn J e (fun z => nomatch z) fun tk => ⟨.bl b, H, I.kept (t' := tk) fun _ _ z => z, rfl, q⟩
/-- isinstance: flat things, tracked ones, kept errors -/
theorem call_isA : CallR X (.builtin "isinstance") (fun xs H Q => rIsi X.K xs H Q ∨ rIsErr X.K xs H Q) := CallR.or call_isi call_isErr
end
section
open LamX
variable {X : Cx}
/-- what x = None; try: work() except E as e: x = e; return x makes of the work's reading -/
def TCaught (K : PySem.W.Frag) (CS : Addr) : (XK → Hp → VK → Prop) → Hp → VK → Prop := fun tl H Q =>
  tl (fun cls d H' => ∃ C, cls = .ref C ∧ d = none ∧ PySem.W.exmOne K cls (.ref CS) = some true ∧ ∀ a, H' a = none → Q (.ref a) (upd H' a (ErrO C a))) H (fun _ H' => ∃ v : V, (some (some V.non) : Option (Option V)) = some (some v) ∧ Q v H')
theorem caught_gives {x q : Str} {sg : Scope} {g CS : Addr} {cdg : Value} {j : Nat} {p1 p2 p3 p4 p5 p6 p7 p8 p9 p10 p11 p12 p13 p14 p15 p16 : Pos}
    (hsg : FnScope ["work", "caught", "error"] ["work"] sg) (hl1 : sg.names.lookup ("caught" : Str) = some .local) (hl2 : sg.names.lookup ("error" : Str) = some .local)
    (hge : sg.names.lookup ("NetError" : Str) = some .globalImplicit) (hme : X.mg "NetError" = some (.ref CS)) :
    GivesTo X ["work", "caught", "error"] x sg g cdg
      [.Assign [.Name "caught" p1] (.Constant .none j p2) p3,
       .Try [.Expr (.Call (.Name "work" p4) [] [] p5) p6] [.ExceptHandler (some (.Name "NetError" p7)) (some "error") [.Assign [.Name "caught" p8] (.Name "error" p9) p10] p11] [] [] p12,
       .Return (some (.Name "caught" p13)) p14] "work" q (TCaught X.K CS) := by
  intro f c' s H Q tl act hc h
  have hgl : Gl (cxOf C8.CX0 X.prog X.w X.K X.mg X.base ["work", "caught", "error"] x sg g cdg X.A X.stack s H C8.E0).nox "NetError" := hge
  refine ⟨_, pss_cons (ps_set (i := 1) hsg.nd rfl (.inl hl1) pe_non)
    (pss_cons (ps_try_keep (X := (cxOf C8.CX0 X.prog X.w X.K X.mg X.base ["work", "caught", "error"] x sg g cdg X.A X.stack s H C8.E0).nox) (c := .ref CS) (i := 2) (j := 1)
      (tb := fun W D σ H => ∃ Ech : XK, (∀ cls d σ' H', Ech cls d H' → W cls d σ' H') ∧ σ[0]? = some (some (.ref f)) ∧ H c' = some (CodeO c' q) ∧ tl Ech H (fun _ H1 => D.nx σ H1))
      rfl rfl rfl hsg.nd rfl rfl hl2 hl1 ⟨hgl, by decide, .inl hme⟩ (fun W pn xe tk _ => ?_))
    (pss_one (ps_ret (pe_var (i := 1) rfl (.inl hl1))))), ?_⟩
  · refine ⟨fun pins s' σ H' D I h' => ?_⟩
    obtain ⟨Ech, hW, h1, h2, h3⟩ := h'
    have hp := act W pn xe Ech p4 p5 tk hW
    have hq := pss_one (ps_expr (pos := p6) hp)
    exact hq.run pins s' σ H' D I ⟨h1, h2, h3⟩
  · refine ⟨_, fun cls d σ' H' => ?_, rfl, hc, h⟩
    rintro ⟨C, rfl, rfl, hm, hq⟩
    refine ⟨C, rfl, rfl, hm, fun a ha hl => ?_⟩
    obtain ⟨v0, v1, v2, rfl⟩ : ∃ v0 v1 v2, σ' = [v0, v1, v2] := by
      match σ', hl with
      | [v0, v1, v2], _ => exact ⟨v0, v1, v2, rfl⟩
    exact ⟨.ref a, rfl, hq a ha⟩
end
end Sw

set_option Elab.async false
set_option linter.all false
set_option maxRecDepth 100000
set_option maxHeartbeats 4000000
namespace Sw
open PySem PySem.Spec PyProof.Rows L2
/-! defs by their bodies -/
section
variable {P : Program} {w : World} {K : PySem.W.Frag} {mg : Str → Option Value} {base : Heap}
/-- a def of the text, under its name, without defaults -/
structure DefN (K : PySem.W.Frag) (mg : Str → Option Value) (x : Str) (st : Stmt) : Prop where
  ex : ∃ (f : Addr) (fd : FuncData), C8.Def K mg x st f fd ∧ fd.defaults = .none
theorem defN_mk {h : Heap} {x : Str} {st : Stmt} {f : Addr} {oc kV doc pm cdv ct : Value} {od an : Option Addr} {osl : Array (Option Value)} (X : K.In h) (G : h.Ns mainGlobals mg)
    (a : PySem.W.nsIn K mainGlobals x = some (some (.ref f))) (l : K.lookup f = some ⟨oc, od, .func (PySem.W.fnOf x x (C8.fnArgs st) (C8.fnBody st) (C8.fnScope st) .none kV doc pm an cdv ct), osl⟩)
    (c : PySem.W.codeIn K cdv x = true) (k : PySem.W.keepIn K (.ref f) = true) : DefN K mg x st :=
  ⟨f, _, ⟨⟨oc, od, .none, kV, doc, pm, an, cdv, ct, osl, rfl, l, c⟩, PySem.W.mg_of X G a, k⟩, rfl⟩
/-- a promise by the body, nothing raised -/
theorem cal_by {x : Str} {st : Stmt} {N ps : List Str} {k : Nat} {sp : Sp} (D : DefN K mg x st) (S : FnScope N ps (C8.fnScope st)) (len : ∀ vs H Q E, sp vs H Q E → vs.length = ps.length)
    (hb : ∀ (kV doc pm : Value) (an : Option Addr) (cdv ct : Value) (us : List Value), us.length = ps.length → bindArgs (PySem.W.fnOf x x (C8.fnArgs st) (C8.fnBody st) (C8.fnScope st) .none kV doc pm an cdv ct) ⟨us, []⟩ = pure (ps.zip us))
    (hbody : ∀ (f : Addr) (cdv : Value) (A : Around) (outer : List Env) (s : Shared) (H : Hp) (vs : List V) (Q : VK) (E : XK), Room k (A.deeper (envOfC x (C8.fnScope st) s.heap.objs.size f cdv)) → sp vs H Q E →
      ∃ t, PSs (cxOf C8.CX0 P w K mg base N x (C8.fnScope st) f cdv A outer s H E).nox (C8.fnBody st) t ∧ t { nx := fun _ H' => Q .non H', rt := Q } (start N vs) H) : C8.Cal P w K mg base (k + 1) x sp [] := by
  obtain ⟨f, fd, F, df⟩ := D.ex
  exact C8.cal0 F (F.fn.binds df hb) .nil S len (hbody f)
/-- a def that may raise -/
structure CalX (P : Program) (w : World) (K : PySem.W.Frag) (mg : Str → Option Value) (base : Heap) (k : Nat) (x : Str) (ks : List Str) (sp : Sp) : Prop where
  ex : ∃ (f : Addr) (fd : FuncData) (ps : List Str), FnOk P w K mg base (L2.CX P w) k f fd ps sp ∧ mg x = some (.ref f) ∧ PySem.W.keepIn K (.ref f) = true ∧ Binds K fd ps [] ∧ KBn K fd ps 0 ks (fun _ ws => ws) (fun _ zs => zs)
theorem calX_by {x : Str} {st : Stmt} {N ps : List Str} {k : Nat} {sp : Sp} (D : DefN K mg x st) (S : FnScope N ps (C8.fnScope st)) (len : ∀ vs H Q E, sp vs H Q E → vs.length = ps.length)
    (hb : ∀ (kV doc pm : Value) (an : Option Addr) (cdv ct : Value) (us : List Value), us.length = ps.length → bindArgs (PySem.W.fnOf x x (C8.fnArgs st) (C8.fnBody st) (C8.fnScope st) .none kV doc pm an cdv ct) ⟨us, []⟩ = pure (ps.zip us))
    (hk : ∀ (kV doc pm : Value) (an : Option Addr) (cdv ct : Value) (us : List Value), us.length = ps.length → bindArgs (PySem.W.fnOf x x (C8.fnArgs st) (C8.fnBody st) (C8.fnScope st) .none kV doc pm an cdv ct) ⟨[], ps.zip us⟩ = pure (ps.zip us))
    (hbody : ∀ (f : Addr) (cdv : Value) (A : Around) (outer : List Env) (s : Shared) (H : Hp) (vs : List V) (Q : VK) (E : XK), Room k (A.deeper (envOfC x (C8.fnScope st) s.heap.objs.size f cdv)) → sp vs H Q E →
      ∃ t, PSs (cxOf (L2.CX P w) P w K mg base N x (C8.fnScope st) f cdv A outer s H E) (C8.fnBody st) t ∧ t { nx := fun _ H' => Q .non H', rt := Q } (start N vs) H) : CalX P w K mg base (k + 1) x ps sp := by
  obtain ⟨f, fd, F, df⟩ := D.ex
  obtain ⟨oc, od, dV, kV, doc, pm, an, cdv, ct, osl, rfl, lk, hcd⟩ := F.fn.ex
  obtain rfl : dV = .none := df
  refine ⟨f, _, ps, fn_of lk hcd S len (fun A outer s H vs Q E hr hsp => hbody f cdv A outer s H vs Q E hr hsp), F.mgf, F.kp, .all (hb kV doc pm an cdv ct), ⟨fun s us ws X l1 l2 => ?_, fun _ r => r⟩⟩
  have e : us = [] := List.eq_nil_of_length_eq_zero l1
  subst e
  exact .of_eq (hk kV doc pm an cdv ct ws l2)
end
section
variable {X : Cx} {k j : Nat} {x : Str} {ks : List Str} {sp : Sp} {E : XK} {p pos : Pos} {e : Expr} {es : List Expr} {t : TA}
theorem pe_c0 {dvs : List V} (c : C8.Cal X.prog X.w X.K X.mg X.base k x sp dvs) (hr : Room j X.A) (hk : k ≤ j) (hg : Gl X x)
    (hdb : (x == ("__debug__" : Str)) = false := by decide) : PE X (.Call (.Name x p) [] [] pos) (tCall sp dvs C8.E0 tNil) := by
  obtain ⟨f, fd, ps, ds, F, hm, kp, b, d⟩ := c.ex
  exact pe_call0 F (hr.mono hk) hg hm kp b d C8.pass0 hdb
theorem pe_cX (c : CalX X.prog X.w X.K X.mg X.base k x ks sp) (hr : Room j X.A) (hk : k ≤ j) (hg : Gl X x) (hx : Passes (L2.CX X.prog X.w) X E) (ha : PA X (e :: es) t)
    (hdb : (x == ("__debug__" : Str)) = false := by decide) (he : starEach (e :: es) X.env = (false, eval e X.env) :: starEach es X.env := by rfl) (hpl : (backTo pos (starEach es X.env)).any (·.1) = false := by rfl) :
    PE X (.Call (.Name x p) (e :: es) [] pos) (tCall sp [] E t) := by
  obtain ⟨f, fd, ps, F, hm, kp, b, -⟩ := c.ex
  exact pe_call F (hr.mono hk) hg hm kp b .nil hx ha hdb he hpl
theorem pe_cXk0 {kws : List Keyword} {tk : TA} (c : CalX X.prog X.w X.K X.mg X.base k x ks sp) (hr : Room j X.A) (hk : k ≤ j) (hg : Gl X x) (hx : Passes (L2.CX X.prog X.w) X E) (hkw : PK X kws tk)
    (hall : (backToKw pos (keywordEach kws X.env)).all (·.1.isSome) = true := by rfl) (hks : (backToKw pos (keywordEach kws X.env)).filterMap (·.1) = ks := by rfl)
    (hdb : (x == ("__debug__" : Str)) = false := by decide)
    (hpl : ((backTo pos (starEach [] X.env)).any (·.1) || (backToKw pos (keywordEach kws X.env)).any (·.1.isNone)) = false := by rfl) :
    PE X (.Call (.Name x p) [] kws pos) (tCallN 0 ks.length sp (fun _ zs => zs) E tNil tk) := by
  obtain ⟨f, fd, ps, F, hm, kp, -, b⟩ := c.ex
  exact pe_callK0 F (hr.mono hk) hg hm kp b hx hkw hall hks hdb hpl
end
/-! ### heaps -/
theorem at_new {H : Hp} {p b : Addr} {o u : HO} (hn : H p = none) (e : H b = some u) : upd H p o b = some u := by
  rw [upd_ne (ne_of_none e hn)]
  exact e
theorem same_upd {H : Hp} {p : Addr} {o : HO} (h : H p = none) : Same H (upd H p o) := fun b x e => at_new h e
theorem _root_.L2.Same.put {H H1 : Hp} {p : Addr} {o : HO} (a : Same H H1) (n : H p = none) : Same H (upd H1 p o) := fun b x e => by
  rw [upd_ne (ne_of_none e n)]
  exact a b x e
theorem _root_.L2.Same.new {H H1 : Hp} {p : Addr} {o : HO} (a : Same H H1) (n : H1 p = none) : Same H (upd H1 p o) := fun b x e => at_new n (a b x e)
theorem _root_.L2.Same.back {H H1 : Hp} {p : Addr} (a : Same H H1) (n : H1 p = none) : H p = none := a.free n
/-- the tracked objects but those in S are kept -/
def Kp (S : List Addr) (H H' : Hp) : Prop := ∀ b o, H b = some o → b ∉ S → H' b = some o
theorem Kp.refl (S : List Addr) (H : Hp) : Kp S H H := fun _ _ e _ => e
theorem Kp.trans {S : List Addr} {H H1 H2 : Hp} (a : Kp S H H1) (b : Kp S H1 H2) : Kp S H H2 := fun c o e n => b c o (a c o e n) n
theorem Kp.new {S : List Addr} {H H1 : Hp} {p : Addr} {o : HO} (a : Kp S H H1) (n : H1 p = none) : Kp S H (upd H1 p o) := fun c u e m => at_new n (a c u e m)
theorem Kp.of {S : List Addr} {H H' : Hp} (a : Same H H') : Kp S H H' := fun c u e _ => a c u e
theorem Kp.put {S : List Addr} {H H1 : Hp} {p : Addr} {o : HO} (a : Kp S H H1) (n : p ∈ S) : Kp S H (upd H1 p o) := fun c u e m => by
  rw [upd_ne (fun z => m (by rw [z]; exact n))]
  exact a c u e m
theorem Kp.sub {S T : List Addr} {H H1 : Hp} (a : Kp S H H1) (h : ∀ b ∈ S, b ∈ T) : Kp T H H1 := fun c u e m => a c u e fun z => m (h c z)
/-! ### the dict of the draws -/
section
variable (x y z u v : V)
def four (x y z u : V) : List (Key × V) := [(.inr "great", x), (.inr "cells", y), (.inr "left", z), (.inr "turn", u)]
theorem ne1 : ¬ (Str.ofString "great" = Str.ofString "cells") := by decide +kernel
theorem nk1 : ¬ ((Sum.inr ("great" : Str) : Key) = Sum.inr ("cells" : Str)) := fun q => ne1 (Sum.inr.inj q)
theorem ne2 : ¬ (Str.ofString "great" = Str.ofString "left") := by decide +kernel
theorem nk2 : ¬ ((Sum.inr ("great" : Str) : Key) = Sum.inr ("left" : Str)) := fun q => ne2 (Sum.inr.inj q)
theorem ne3 : ¬ (Str.ofString "great" = Str.ofString "turn") := by decide +kernel
theorem nk3 : ¬ ((Sum.inr ("great" : Str) : Key) = Sum.inr ("turn" : Str)) := fun q => ne3 (Sum.inr.inj q)
theorem ne4 : ¬ (Str.ofString "cells" = Str.ofString "left") := by decide +kernel
theorem nk4 : ¬ ((Sum.inr ("cells" : Str) : Key) = Sum.inr ("left" : Str)) := fun q => ne4 (Sum.inr.inj q)
theorem ne5 : ¬ (Str.ofString "cells" = Str.ofString "turn") := by decide +kernel
theorem nk5 : ¬ ((Sum.inr ("cells" : Str) : Key) = Sum.inr ("turn" : Str)) := fun q => ne5 (Sum.inr.inj q)
theorem ne6 : ¬ (Str.ofString "left" = Str.ofString "turn") := by decide +kernel
theorem nk6 : ¬ ((Sum.inr ("left" : Str) : Key) = Sum.inr ("turn" : Str)) := fun q => ne6 (Sum.inr.inj q)
theorem val_great : valV (four x y z u) (.inr "great") = some x := valV_pos rfl
theorem val_cells : valV (four x y z u) (.inr "cells") = some y := (valV_neg nk1).trans (valV_pos rfl)
theorem val_left : valV (four x y z u) (.inr "left") = some z := (valV_neg nk2).trans ((valV_neg nk4).trans (valV_pos rfl))
theorem val_turn : valV (four x y z u) (.inr "turn") = some u := (valV_neg nk3).trans ((valV_neg nk5).trans ((valV_neg nk6).trans (valV_pos rfl)))
theorem put_turn : putK (four x y z u) (.inr "turn") v = four x y z v := by
  unfold four
  simp [putK, ne3, ne5, ne6]
theorem put_left : putK (four x y z u) (.inr "left") v = four x y v u := by
  unfold four
  have n6 : ¬ (Str.ofString "turn" = Str.ofString "left") := fun q => ne6 q.symm
  simp [putK, ne2, ne4, n6]
theorem get_great {H : Hp} {a : Addr} (e : H a = some (.dK (four x y z u))) : DGet H a (.str "great") (some x) := val_great x y z u ▸ DGet.k (k := .inr "great") e
theorem get_cells {H : Hp} {a : Addr} (e : H a = some (.dK (four x y z u))) : DGet H a (.str "cells") (some y) := val_cells x y z u ▸ DGet.k (k := .inr "cells") e
theorem get_left {H : Hp} {a : Addr} (e : H a = some (.dK (four x y z u))) : DGet H a (.str "left") (some z) := val_left x y z u ▸ DGet.k (k := .inr "left") e
theorem get_turn {H : Hp} {a : Addr} (e : H a = some (.dK (four x y z u))) : DGet H a (.str "turn") (some u) := val_turn x y z u ▸ DGet.k (k := .inr "turn") e
theorem set_left {H : Hp} {a : Addr} (e : H a = some (.dK (four x y z u))) : DPut H a (.str "left") v (upd H a (.dK (four x y v u))) := put_left x y z u v ▸ DPut.k (k := .inr "left") e (by show 4 < sizeLine; decide)
theorem set_turn {H : Hp} {a : Addr} (e : H a = some (.dK (four x y z u))) : DPut H a (.str "turn") v (upd H a (.dK (four x y z v))) := put_turn x y z u v ▸ DPut.k (k := .inr "turn") e (by show 4 < sizeLine; decide)
end
/-- the source of draws: the dict at a, the list of great numbers at G; n more draws at least are within the bound -/
structure Sta (H : Hp) (a G : Addr) (n : Nat) : Prop where
  ex : ∃ (C : Addr) (gs cs : List Int) (l t : Int), H a = some (.dK (four (.ref G) (.ref C) (.int l) (.int t))) ∧
    H G = some (.lst (gs.map V.int)) ∧ H C = some (.lst (cs.map V.int)) ∧ C ≠ G ∧ 0 ≤ t ∧ t + n ≤ 1099511627776
theorem Sta.mono {H : Hp} {a G : Addr} {n m : Nat} (s : Sta H a G n) (h : m ≤ n) : Sta H a G m := by
  obtain ⟨C, gs, cs, l, t, h1, h2, h3, h4, h5, h6⟩ := s.ex
  exact ⟨C, gs, cs, l, t, h1, h2, h3, h4, h5, by omega⟩
theorem Sta.aG {H : Hp} {a G : Addr} {n : Nat} (s : Sta H a G n) : a ≠ G := by
  obtain ⟨C, gs, cs, l, t, h1, h2, _⟩ := s.ex
  exact ne_of h1 h2 (fun z => nomatch z)
theorem Sta.new {H : Hp} {a G p : Addr} {o : HO} {n : Nat} (s : Sta H a G n) (hp : H p = none) : Sta (upd H p o) a G n := by
  obtain ⟨C, gs, cs, l, t, h1, h2, h3, h4⟩ := s.ex
  exact ⟨C, gs, cs, l, t, at_new hp h1, at_new hp h2, at_new hp h3, h4⟩
theorem Sta.same {H H' : Hp} {a G : Addr} {n : Nat} (s : Sta H a G n) (e : Same H H') : Sta H' a G n := by
  obtain ⟨C, gs, cs, l, t, h1, h2, h3, h4⟩ := s.ex
  exact ⟨C, gs, cs, l, t, e _ _ h1, e _ _ h2, e _ _ h3, h4⟩
/-- what a draw keeps -/
abbrev KpS (a G : Addr) : Hp → Hp → Prop := Kp [a, G]
theorem KpS.tup {H H' : Hp} {a G p : Addr} {xs : List V} {n : Nat} (k : KpS a G H H') (s : Sta H a G n) (e : H p = some (.tup xs)) : H' p = some (.tup xs) := by
  obtain ⟨C, gs, cs, l, t, h1, h2, _⟩ := s.ex
  refine k p _ e fun z => ?_
  rcases List.mem_cons.mp z with rfl | z
  · rw [h1] at e; cases e
  · obtain rfl : p = G := by simpa using z
    rw [h2] at e; cases e
/-- an object that came behind the state is no part of it -/
theorem KpS.at {H H' : Hp} {a G p : Addr} {o : HO} (k : KpS a G H H') (ha : p ≠ a) (hG : p ≠ G) (e : H p = some o) : H' p = some o := by
  refine k p _ e fun z => ?_
  rcases List.mem_cons.mp z with rfl | z
  · exact ha rfl
  · exact hG (by simpa using z)
/-! ### comprehensions without a test -/
theorem yes_eq {σ2 : L2.St} {H2 : Hp} {A B : Hp → Prop} : (tYes σ2 H2 fun b H3 => if b = true then A H3 else B H3) = A H2 := by
  show (if true = true then A H2 else B H2) = A H2
  rw [if_pos rfl]
theorem lc_listY {K : PySem.W.Frag} {a : Addr} {xs : List V} {g : TG} {te : TE} {vs : List Nat} {σ : L2.St} {H1 : Hp} {D : Addr} {Qd : Hp → Prop} (Pv : Nat → Hp → Prop) (h0 : Pv 0 (upd H1 D (.lst []))) (hl : ∀ i H, i ≤ xs.length → Pv i H → SqL K H a xs)
    (hs : ∀ i x H, xs[i]? = some x → Pv i H → g x (wipe σ vs) H fun σ2 H2 => wipe σ2 vs = wipe σ vs ∧
      te σ2 H2 fun y H4 => ∃ acc, H4 D = some (.lst acc) ∧ acc.length < sizeLine ∧ Pv (i + 1) (upd H4 D (.lst (acc ++ [y])))) (hd : ∀ H, Pv xs.length H → Qd H) :
    ∃ W : Nat → Nat → Hp → Prop, (∃ m, W 0 m (upd H1 D (.lst []))) ∧ ∀ i m H, W i m H →
      ((Itl K a).stop i H ∧ Qd H) ∨ ((Itl K a).go i H ∧ ∃ Nx : Hp → Prop, (∀ H', Nx H' → ∃ m', m' < m ∧ W (i + 1) m' H') ∧ ∀ x H', (Itl K a).yld i H x H' → g x (wipe σ vs) H' fun σ2 H2 => wipe σ2 vs = wipe σ vs ∧ tYes σ2 H2 fun b H3 =>
        if b = true then te σ2 H3 fun y H4 => ∃ acc, H4 D = some (.lst acc) ∧ acc.length < sizeLine ∧ Nx (upd H4 D (.lst (acc ++ [y]))) else Nx H3) :=
  lc_list Pv h0 hl (fun i x H hx p => by simp only [yes_eq]; exact hs i x H hx p) hd
/-- over the signs of a text -/
theorem lc_str {z : Str} {g : TG} {tt : TT} {te : TE} {vs : List Nat} {σ : L2.St} {H1 : Hp} {D : Addr} {Qd : Hp → Prop} (Pv : Nat → Hp → Prop) (h0 : Pv 0 (upd H1 D (.lst [])))
    (hs : ∀ i c H, z.cps[i]? = some c → Pv i H → g (.str ⟨#[c]⟩) (wipe σ vs) H fun σ2 H2 => wipe σ2 vs = wipe σ vs ∧ tt σ2 H2 fun b H3 =>
      if b = true then te σ2 H3 fun y H4 => ∃ acc, H4 D = some (.lst acc) ∧ acc.length < sizeLine ∧ Pv (i + 1) (upd H4 D (.lst (acc ++ [y]))) else Pv (i + 1) H3) (hd : ∀ H, Pv z.cps.size H → Qd H) :
    ∃ W : Nat → Nat → Hp → Prop, (∃ m, W 0 m (upd H1 D (.lst []))) ∧ ∀ i m H, W i m H →
      ((Its z).stop i H ∧ Qd H) ∨ ((Its z).go i H ∧ ∃ Nx : Hp → Prop, (∀ H', Nx H' → ∃ m', m' < m ∧ W (i + 1) m' H') ∧ ∀ x H', (Its z).yld i H x H' → g x (wipe σ vs) H' fun σ2 H2 => wipe σ2 vs = wipe σ vs ∧ tt σ2 H2 fun b H3 =>
        if b = true then te σ2 H3 fun y H4 => ∃ acc, H4 D = some (.lst acc) ∧ acc.length < sizeLine ∧ Nx (upd H4 D (.lst (acc ++ [y]))) else Nx H3) := by
  refine ⟨fun i m H => m = z.cps.size - i ∧ i ≤ z.cps.size ∧ Pv i H, ⟨_, rfl, Nat.zero_le _, h0⟩, ?_⟩
  rintro i m H ⟨rfl, hi, p⟩
  by_cases hlt : i < z.cps.size
  · refine .inr ⟨hlt, Pv (i + 1), fun H' q => ⟨z.cps.size - (i + 1), by omega, rfl, hlt, q⟩, ?_⟩
    rintro x H' ⟨rfl, c, hc, rfl⟩
    exact hs i c H' hc p
  · obtain rfl : i = z.cps.size := by omega
    exact .inl ⟨Nat.le_refl _, hd H p⟩
theorem lc_strY {z : Str} {g : TG} {te : TE} {vs : List Nat} {σ : L2.St} {H1 : Hp} {D : Addr} {Qd : Hp → Prop} (Pv : Nat → Hp → Prop) (h0 : Pv 0 (upd H1 D (.lst [])))
    (hs : ∀ i c H, z.cps[i]? = some c → Pv i H → g (.str ⟨#[c]⟩) (wipe σ vs) H fun σ2 H2 => wipe σ2 vs = wipe σ vs ∧
      te σ2 H2 fun y H4 => ∃ acc, H4 D = some (.lst acc) ∧ acc.length < sizeLine ∧ Pv (i + 1) (upd H4 D (.lst (acc ++ [y])))) (hd : ∀ H, Pv z.cps.size H → Qd H) :
    ∃ W : Nat → Nat → Hp → Prop, (∃ m, W 0 m (upd H1 D (.lst []))) ∧ ∀ i m H, W i m H →
      ((Its z).stop i H ∧ Qd H) ∨ ((Its z).go i H ∧ ∃ Nx : Hp → Prop, (∀ H', Nx H' → ∃ m', m' < m ∧ W (i + 1) m' H') ∧ ∀ x H', (Its z).yld i H x H' → g x (wipe σ vs) H' fun σ2 H2 => wipe σ2 vs = wipe σ vs ∧ tYes σ2 H2 fun b H3 =>
        if b = true then te σ2 H3 fun y H4 => ∃ acc, H4 D = some (.lst acc) ∧ acc.length < sizeLine ∧ Nx (upd H4 D (.lst (acc ++ [y]))) else Nx H3) :=
  lc_str Pv h0 (fun i c H hc p => by simp only [yes_eq]; exact hs i c H hc p) hd
/-! ### lists of ints as data -/
theorem dpAll_ints {K : PySem.W.Frag} {H : Hp} : ∀ ns : List Int, DpAll K H (ns.map V.int) (ns.map PyData.int)
  | [] => .nil
  | n :: ns => .cons (.int n) (dpAll_ints ns)
theorem dp_ints {K : PySem.W.Frag} {H : Hp} {a : Addr} {ns : List Int} (h : SqL K H a (ns.map V.int)) : Dp K H (.ref a) (.list (ns.map PyData.int)) := .lst h (dpAll_ints ns)
theorem canLay_ints : ∀ ns : List Int, PyData.canLayAll0 (ns.map PyData.int) = true
  | [] => by simp [PyData.canLayAll0]
  | n :: ns => by simp [PyData.canLayAll0, PyData.canLay0, canLay_ints ns]
theorem depth_ints : ∀ ns : List Int, PyData.depthAll (ns.map PyData.int) = 0
  | [] => by simp [PyData.depthAll]
  | n :: ns => by simp [PyData.depthAll, PyData.depth, depth_ints ns]
theorem shaped_ints (ns : List Int) : SeqAt.shaped (.list (ns.map PyData.int)) = true := by
  unfold SeqAt.shaped
  simp [PyData.canLay0, canLay_ints ns, PyData.depth, depth_ints ns]
theorem dp_nil {K : PySem.W.Frag} {H : Hp} {a : Addr} (h : H a = some (.lst [])) : Dp K H (.ref a) (.list []) := .lst (SqL.of h) .nil
theorem shaped_nil : SeqAt.shaped (.list []) = true := shaped_ints []
theorem eqv_nil (ns : List Int) : PyData.eqv (.list (ns.map PyData.int)) (.list []) = ns.isEmpty := by
  cases ns <;> simp [PyData.eqv, PyData.eqvAll]
end Sw

set_option Elab.async false
set_option linter.all false
set_option maxRecDepth 100000
namespace M62
open PySem L2
abbrev numL := TL.numL
/-- printable -/
def pr (c : Nat) : Bool := decide (32 ≤ c) && decide (c ≤ 126)
/-- printable, or a line feed -/
def ok (c : Nat) : Bool := decide (c = 10) || pr c
theorem ok_bd {c : Nat} (h : ok c = true) : 10 ≤ c ∧ c ≤ 126 := by
  simp only [ok, pr, Bool.or_eq_true, Bool.and_eq_true, decide_eq_true_eq] at h
  omega
/-- the sum: places from k -/
def sumF : Nat → List Nat → Nat
  | _, [] => 0
  | k, c :: l => k * c + sumF (k + 1) l
def sm (l : List Nat) : Nat := sumF 1 l
theorem sumF_app : ∀ (l m : List Nat) (k : Nat), sumF k (l ++ m) = sumF k l + sumF (k + l.length) m
  | [], m, k => by simp [sumF]
  | c :: l, m, k => by
    simp only [List.cons_append, sumF, List.length_cons, sumF_app l m (k + 1)]
    rw [show k + 1 + l.length = k + (l.length + 1) by omega]
    omega
theorem sumF_succ : ∀ (l : List Nat) (k : Nat), sumF (k + 1) l = sumF k l + l.sum
  | [], k => by simp [sumF]
  | c :: l, k => by
    simp only [sumF, sumF_succ l (k + 1), List.sum_cons, Nat.add_mul]
    omega
def P : Nat := 1000000007
def tg4 : List Nat := [115, 117, 109, 32]
/-- the last row of a sealed text -/
def last (l : List Nat) : List Nat := tg4 ++ numL (sm l % P)
def sld (l : List Nat) : List Nat := l ++ 10 :: last l
theorem last_no10 (l : List Nat) : 10 ∉ last l := fun h => by
  rcases List.mem_append.mp h with h | h
  · revert h; decide
  · exact TL.numL_free (.inl (by decide)) h
theorem last_cons (l : List Nat) : last l = 115 :: ([117, 109, 32] ++ numL (sm l % P)) := rfl
theorem last_tail (l : List Nat) : 115 ∉ ([117, 109, 32] ++ numL (sm l % P)) := fun h => by
  rcases List.mem_append.mp h with h | h
  · revert h; decide
  · exact TL.numL_free (.inr (by decide)) h
/-- «s» stands at the very front of a last row -/
theorem last_off {l r q : List Nat} {x : Nat} (h : x :: (r ++ 115 :: q) = last l) : False := by
  rw [last_cons] at h
  have e := (List.cons.inj h).2
  exact last_tail l (by rw [← e]; simp)
theorem last_off2 {l k r : List Nat} {x : Nat} (h : x :: (r ++ last k) = last l) : False := by
  rw [last_cons k] at h
  exact last_off h
theorem last_inj {l m : List Nat} (h : last l = last m) : sm l % P = sm m % P := TL.numL_inj (List.append_cancel_left h)
/-- the last line feed -/
def cutL : List Nat → Option (List Nat × List Nat)
  | [] => none
  | c :: l => match cutL l with
    | some (b, r) => some (c :: b, r)
    | none => if c = 10 then some ([], l) else none
theorem cut_none : ∀ {l : List Nat}, 10 ∉ l → cutL l = none
  | [], _ => rfl
  | c :: l, h => by
    have h1 : 10 ∉ l := fun z => h (List.mem_cons_of_mem _ z)
    have h2 : c ≠ 10 := fun z => h (by rw [z]; exact List.mem_cons_self)
    simp only [cutL, cut_none h1, if_neg h2]
theorem cut_some : ∀ {b r : List Nat}, 10 ∉ r → cutL (b ++ 10 :: r) = some (b, r)
  | [], r, h => by simp [cutL, cut_none h]
  | c :: b, r, h => by simp [cutL, cut_some h]
theorem cut_of : ∀ {l b r : List Nat}, cutL l = some (b, r) → l = b ++ 10 :: r ∧ 10 ∉ r
  | [], b, r, h => by simp [cutL] at h
  | c :: l, b, r, h => by
    simp only [cutL] at h
    cases q : cutL l with
    | some br =>
      obtain ⟨b1, r1⟩ := br
      rw [q] at h
      obtain ⟨rfl, rfl⟩ := Prod.mk.inj (Option.some.inj h)
      obtain ⟨e, n⟩ := cut_of q
      exact ⟨by rw [e]; rfl, n⟩
    | none =>
      rw [q] at h
      by_cases h10 : c = 10
      · simp only [h10, if_true] at h
        obtain ⟨rfl, rfl⟩ := Prod.mk.inj (Option.some.inj h)
        refine ⟨by rw [h10]; rfl, fun hm => ?_⟩
        obtain ⟨b1, r1, e1, n1⟩ : ∃ b1 r1, l = b1 ++ 10 :: r1 ∧ 10 ∉ r1 := by
          clear q h
          induction l with
          | nil => cases hm
          | cons x l ih =>
            by_cases hx : 10 ∈ l
            · obtain ⟨b1, r1, e1, n1⟩ := ih hx
              exact ⟨x :: b1, r1, by rw [e1]; rfl, n1⟩
            · rcases List.mem_cons.mp hm with rfl | hm
              · exact ⟨[], l, rfl, hx⟩
              · exact absurd hm hx
        rw [e1, cut_some n1] at q
        cases q
      · simp only [h10, if_false] at h
        cases h
theorem cut_uniq {b r b' r' : List Nat} (h : b ++ 10 :: r = b' ++ 10 :: r') (n : 10 ∉ r) (n' : 10 ∉ r') : b = b' ∧ r = r' := by
  have e := (cut_some (b := b) n).symm.trans ((congrArg cutL h).trans (cut_some n'))
  exact Prod.mk.inj (Option.some.inj e)
/-- what the law's own opening tells -/
def opened (l : List Nat) : Option (List Nat) :=
  match cutL l with
  | none => none
  | some (b, r) => if b.all ok = true ∧ r = last b then some b else none
theorem opened_sld {l : List Nat} (h : l.all ok = true) : opened (sld l) = some l := by
  unfold opened sld
  rw [cut_some (last_no10 l)]
  exact if_pos ⟨h, rfl⟩
theorem opened_some {l b : List Nat} (h : opened l = some b) : l = sld b ∧ b.all ok = true := by
  unfold opened at h
  cases q : cutL l with
  | none => rw [q] at h; cases h
  | some br =>
    obtain ⟨b1, r1⟩ := br
    rw [q] at h
    by_cases hc : b1.all ok = true ∧ r1 = last b1
    · simp only [hc, and_self, if_true] at h
      cases h
      exact ⟨by rw [(cut_of q).1, hc.2]; rfl, hc.1⟩
    · simp only [hc, if_false] at h
      cases h
theorem all_bd {l : List Nat} (h : l.all ok = true) : ∀ c ∈ l, 10 ≤ c ∧ c ≤ 126 := fun c hc => ok_bd (List.all_eq_true.mp h c hc)
theorem sum_le : ∀ {l : List Nat}, (∀ c ∈ l, 10 ≤ c ∧ c ≤ 126) → l.sum ≤ 126 * l.length
  | [], _ => by simp
  | c :: l, h => by
    have h1 := (h c List.mem_cons_self).2
    have h2 := sum_le (l := l) fun x hx => h x (List.mem_cons_of_mem _ hx)
    rw [List.sum_cons, List.length_cons]
    omega
theorem mod_lt_eq {a b : Nat} (h : a % P = b % P) (hl : a ≤ b) (hd : b - a < P) : a = b := by
  have : (b - a) % P = 0 := by
    have e : b = a + (b - a) := by omega
    generalize b - a = d at e
    subst e
    simp only [P] at h ⊢
    omega
  rw [Nat.mod_eq_of_lt hd] at this
  omega
/-- one sign more in the middle -/
theorem sm_longer {X Y : List Nat} {c : Nat} (hX : ∀ x ∈ X ++ c :: Y, 10 ≤ x ∧ x ≤ 126) (hl : (X ++ c :: Y).length ≤ 1000000) : sm (X ++ Y) % P ≠ sm (X ++ c :: Y) % P := by
  intro h
  have e : sm (X ++ c :: Y) = sm (X ++ Y) + ((X.length + 1) * c + Y.sum) := by
    unfold sm
    rw [sumF_app, sumF_app, sumF, sumF_succ Y (1 + X.length), Nat.add_comm 1 X.length]
    omega
  have hc := hX c (by simp)
  have hY : Y.sum ≤ 126 * Y.length := sum_le fun x hx => hX x (by simp [hx])
  have b1 : (X.length + 1) * c ≤ (X.length + 1) * 126 := Nat.mul_le_mul_left _ hc.2
  have b2 : 1 * 10 ≤ (X.length + 1) * c := Nat.mul_le_mul (by omega) hc.1
  rw [List.length_append, List.length_cons] at hl
  have := mod_lt_eq h (by omega) (by rw [e]; simp only [P]; omega)
  omega
theorem sm_other {X Y : List Nat} {c d : Nat} (hc : 10 ≤ c ∧ c ≤ 126) (hd : 10 ≤ d ∧ d ≤ 126) (hl : X.length < 1000000) (h : sm (X ++ c :: Y) % P = sm (X ++ d :: Y) % P) : c = d := by
  have key : ∀ {c d : Nat}, 10 ≤ c ∧ c ≤ 126 → 10 ≤ d ∧ d ≤ 126 → c ≤ d → sm (X ++ c :: Y) % P = sm (X ++ d :: Y) % P → c = d := by
    intro c d hc hd hcd h
    have e : ∀ z, sm (X ++ z :: Y) = (X.length + 1) * z + (sumF 1 X + sumF (X.length + 1 + 1) Y) := fun z => by
      unfold sm
      rw [sumF_app, sumF, Nat.add_comm 1 X.length]
      omega
    rw [e c, e d] at h
    have b1 : (X.length + 1) * c ≤ (X.length + 1) * d := Nat.mul_le_mul_left _ hcd
    have b2 : (X.length + 1) * d - (X.length + 1) * c = (X.length + 1) * (d - c) := (Nat.mul_sub _ _ _).symm
    have b3 : (X.length + 1) * (d - c) ≤ (X.length + 1) * 116 := Nat.mul_le_mul_left _ (by omega)
    have z := mod_lt_eq h (by omega) (by simp only [P]; omega)
    have z2 : (X.length + 1) * c = (X.length + 1) * d := by omega
    exact Nat.eq_of_mul_eq_mul_left (by omega) z2
  rcases Nat.le_total c d with hcd | hcd
  · exact key hc hd hcd h
  · exact (key hd hc hcd h.symm).symm
theorem sm_swap {X Y : List Nat} {c d : Nat} (hc : 10 ≤ c ∧ c ≤ 126) (hd : 10 ≤ d ∧ d ≤ 126) (h : sm (X ++ c :: d :: Y) % P = sm (X ++ d :: c :: Y) % P) : c = d := by
  have key : ∀ {c d : Nat}, 10 ≤ c ∧ c ≤ 126 → 10 ≤ d ∧ d ≤ 126 → c ≤ d → sm (X ++ d :: c :: Y) % P = sm (X ++ c :: d :: Y) % P → c = d := by
    intro c d hc hd hcd h
    have e : ∀ y z, sm (X ++ y :: z :: Y) = (X.length + 1) * (y + z) + z + (sumF 1 X + sumF (X.length + 1 + 1 + 1) Y) := fun y z => by
      unfold sm
      rw [sumF_app, sumF, sumF, Nat.add_comm 1 X.length, Nat.mul_add, Nat.add_mul (X.length + 1) 1 z]
      omega
    rw [e d c, e c d, Nat.add_comm d c] at h
    have z := mod_lt_eq h (by omega) (by simp only [P]; omega)
    omega
  rcases Nat.le_total c d with hcd | hcd
  · exact key hc hd hcd h.symm
  · exact (key hd hc hcd h).symm
/-- where a place of l ++ 10 :: t lies -/
theorem place {X Y l t : List Nat} (h : X ++ Y = l ++ 10 :: t) : (∃ X1, X = l ++ 10 :: X1 ∧ t = X1 ++ Y) ∨ ∃ l1, l = X ++ l1 ∧ Y = l1 ++ 10 :: t := by
  rcases List.append_eq_append_iff.mp h with ⟨a, e1, e2⟩ | ⟨a, e1, e2⟩
  · exact .inr ⟨a, e1, e2⟩
  · cases a with
    | nil => exact .inr ⟨[], by simpa using e1.symm, by simpa using e2.symm⟩
    | cons x a =>
      obtain ⟨rfl, rfl⟩ := List.cons.inj e2
      exact .inl ⟨a, e1, rfl⟩
/-- two sealed texts: the one is not the other less a sign -/
theorem heart_del {l m X Y : List Nat} {c : Nat} (hl : l.all ok = true) (hn : l.length ≤ 1000000) (e : sld l = X ++ c :: Y) (e' : sld m = X ++ Y) : False := by
  have nl := last_no10 l
  have nm := last_no10 m
  rcases place (show X ++ c :: Y = l ++ 10 :: last l from e.symm) with ⟨X1, rfl, et⟩ | ⟨l1, rfl, ey⟩
  · have h10 : 10 ∉ X1 ++ Y := fun z => nl (by rw [et]; rcases List.mem_append.mp z with z | z <;> simp [z])
    obtain ⟨rfl, e2⟩ := cut_uniq (show m ++ 10 :: last m = l ++ 10 :: (X1 ++ Y) by rw [show m ++ 10 :: last m = sld m from rfl, e']; simp) nm h10
    have := congrArg List.length (et.symm.trans e2)
    simp at this
  · cases l1 with
    | nil =>
      obtain ⟨rfl, rfl⟩ := List.cons.inj ey
      rw [List.append_nil] at *
      rcases place (show X ++ last X = m ++ 10 :: last m from e'.symm) with ⟨X1, rfl, et⟩ | ⟨l1, rfl, ey2⟩
      · cases X1 with
        | nil =>
          have hs := last_inj (show last m = last (m ++ [10]) from et)
          refine sm_longer (X := m) (Y := []) (c := 10) (all_bd hl) hn ?_
          rw [List.append_nil]
          exact hs
        | cons x X1 => exact last_off2 et.symm
      · exact nl (by rw [ey2]; simp)
    | cons x l2 =>
      obtain ⟨rfl, rfl⟩ := List.cons.inj ey
      obtain ⟨rfl, e2⟩ := cut_uniq (show m ++ 10 :: last m = (X ++ l2) ++ 10 :: last (X ++ c :: l2) by simpa [sld] using e') nm nl
      exact sm_longer (all_bd hl) hn (last_inj e2)
theorem heart_sub {l m X Y : List Nat} {c s : Nat} (hl : l.all ok = true) (hm : m.all ok = true) (hn : l.length ≤ 1000000) (e : sld l = X ++ c :: Y) (e' : sld m = X ++ s :: Y) : c = s := by
  have nl := last_no10 l
  have nm := last_no10 m
  rcases place (show X ++ c :: Y = l ++ 10 :: last l from e.symm) with ⟨X1, rfl, et⟩ | ⟨l1, rfl, ey⟩
  · by_cases hs : s = 10
    · subst hs
      have h10 : 10 ∉ Y := fun z => nl (by rw [et]; simp [z])
      obtain ⟨rfl, e2⟩ := cut_uniq (show m ++ 10 :: last m = (l ++ 10 :: X1) ++ 10 :: Y from e') nm h10
      rw [← e2] at et
      cases X1 with
      | nil => exact (last_off2 (r := []) et.symm).elim
      | cons x X1 => exact (last_off2 (r := X1 ++ [c]) (k := l ++ 10 :: x :: X1) (l := l) (x := x) (by rw [et]; simp)).elim
    · have h10 : 10 ∉ X1 ++ s :: Y := fun z => by
        rcases List.mem_append.mp z with z | z
        · exact nl (by rw [et]; simp [z])
        · rcases List.mem_cons.mp z with z | z
          · exact hs z.symm
          · exact nl (by rw [et]; simp [z])
      obtain ⟨rfl, e2⟩ := cut_uniq (show m ++ 10 :: last m = l ++ 10 :: (X1 ++ s :: Y) by simpa [sld] using e') nm h10
      have := List.append_cancel_left (et.symm.trans e2)
      exact (List.cons.inj this).1
  · cases l1 with
    | nil =>
      obtain ⟨rfl, rfl⟩ := List.cons.inj ey
      rw [List.append_nil] at *
      by_cases hs : s = 10
      · exact hs.symm
      · rcases place (show X ++ s :: last X = m ++ 10 :: last m from e'.symm) with ⟨X1, rfl, et⟩ | ⟨l1, rfl, ey2⟩
        · cases X1 with
          | nil => exact (last_off2 (r := []) et.symm).elim
          | cons x X1 => exact (last_off2 (r := X1 ++ [s]) (k := m ++ 10 :: x :: X1) (l := m) (x := x) (by rw [et]; simp)).elim
        · cases l1 with
          | nil => exact absurd (List.cons.inj ey2).1 hs
          | cons x l2 =>
            have := (List.cons.inj ey2).2
            exact (nl (by rw [this]; simp)).elim
    | cons x l2 =>
      obtain ⟨rfl, rfl⟩ := List.cons.inj ey
      obtain ⟨rfl, e2⟩ := cut_uniq (show m ++ 10 :: last m = (X ++ s :: l2) ++ 10 :: last (X ++ c :: l2) by simpa [sld] using e') nm nl
      refine sm_other (all_bd hl c (by simp)) (all_bd hm s (by simp)) ?_ (last_inj e2).symm
      rw [List.length_append, List.length_cons] at hn
      omega
theorem heart_swap {l m X Y : List Nat} {c d : Nat} (hl : l.all ok = true) (e : sld l = X ++ c :: d :: Y) (e' : sld m = X ++ d :: c :: Y) : c = d := by
  have nl := last_no10 l
  have nm := last_no10 m
  rcases place (show X ++ c :: d :: Y = l ++ 10 :: last l from e.symm) with ⟨X1, rfl, et⟩ | ⟨l1, rfl, ey⟩
  · have h10 : 10 ∉ X1 ++ d :: c :: Y := fun z => nl (by
      rw [et]
      simp only [List.mem_append, List.mem_cons] at z ⊢
      rcases z with z | z | z | z <;> simp [z])
    obtain ⟨rfl, e2⟩ := cut_uniq (show m ++ 10 :: last m = l ++ 10 :: (X1 ++ d :: c :: Y) by simpa [sld] using e') nm h10
    have := List.append_cancel_left (et.symm.trans e2)
    exact (List.cons.inj this).1
  · match l1, ey with
    | [], ey =>
      obtain ⟨rfl, e1⟩ := List.cons.inj ey
      rw [last_cons] at e1
      obtain ⟨rfl, rfl⟩ := List.cons.inj e1
      have h10 : 10 ∉ [117, 109, 32] ++ numL (sm (X ++ []) % P) := fun z => nl (by rw [last_cons]; exact List.mem_cons_of_mem _ z)
      obtain ⟨rfl, e2⟩ := cut_uniq (show m ++ 10 :: last m = (X ++ [115]) ++ 10 :: ([117, 109, 32] ++ numL (sm (X ++ []) % P)) by rw [show m ++ 10 :: last m = sld m from rfl, e']; simp) nm h10
      exact absurd (List.cons.inj e2).1 (by decide)
    | [x], ey =>
      obtain ⟨rfl, e1⟩ := List.cons.inj ey
      obtain ⟨rfl, rfl⟩ := List.cons.inj e1
      by_cases hc : c = 10
      · exact hc
      · have h10 : 10 ∉ c :: last (X ++ [c]) := fun z => by
          rcases List.mem_cons.mp z with z | z
          · exact hc z.symm
          · exact nl z
        obtain ⟨rfl, e2⟩ := cut_uniq (show m ++ 10 :: last m = X ++ 10 :: (c :: last (X ++ [c])) from e') nm h10
        exact (last_off2 (r := []) e2.symm).elim
    | x :: y :: l2, ey =>
      obtain ⟨rfl, e1⟩ := List.cons.inj ey
      obtain ⟨rfl, rfl⟩ := List.cons.inj e1
      obtain ⟨rfl, e2⟩ := cut_uniq (show m ++ 10 :: last m = (X ++ d :: c :: l2) ++ 10 :: last (X ++ c :: d :: l2) by simpa [sld] using e') nm nl
      exact sm_swap (all_bd hl c (by simp)) (all_bd hl d (by simp)) (last_inj e2).symm
end M62

set_option Elab.async false
set_option linter.all false
set_option maxRecDepth 100000
namespace M62
open PySem L2
/-! ### figures -/
def dig (c : Nat) : Bool := decide (48 ≤ c) && decide (c ≤ 57)
def told (t : List Nat) : Option Nat := if t = [] ∨ 10 < t.length ∨ ¬ t.all dig = true then none else if t = numL (NumText.digitsVal t) then some (NumText.digitsVal t) else none
theorem numL_all (n : Nat) : (numL n).all dig = true := List.all_eq_true.mpr fun c hc => by
  have := TL.numL_digits n c hc
  simp only [dig, Bool.and_eq_true, decide_eq_true_eq]
  omega
theorem told_num {n : Nat} (h : n < 10 ^ 10) : told (numL n) = some n := by
  unfold told
  rw [if_neg, TL.numL_val, if_pos rfl]
  rintro (z | z | z)
  · exact TL.numL_ne n z
  · have : (numL n).length ≤ 10 := TL.numL_len (by decide : 0 < 10) h
    omega
  · exact z (numL_all n)
theorem told_some {t : List Nat} {n : Nat} (h : told t = some n) : t = numL n := by
  unfold told at h
  split at h
  · cases h
  · split at h
    · rename_i e
      rw [← Option.some.inj h]
      exact e
    · cases h
theorem told_iff {t : List Nat} {n : Nat} (h : n < 10 ^ 10) : told t = some n ↔ t = numL n := ⟨told_some, fun e => by rw [e]; exact told_num h⟩
theorem last_iff (r b : List Nat) : r = last b ↔ r.take 4 = tg4 ∧ told (r.drop 4) = some (sm b % P) := by
  have hb : sm b % P < 10 ^ 10 := Nat.lt_trans (Nat.mod_lt _ (by decide)) (by decide)
  rw [told_iff hb]
  constructor
  · rintro rfl
    exact ⟨rfl, rfl⟩
  · rintro ⟨h1, h2⟩
    rw [← List.take_append_drop 4 r, h1, h2]
    rfl
/-! ### rows -/
theorem spl_10 (acc r : List Nat) : TL.spl [10] 0 acc (10 :: r) = acc :: TL.spl [10] 0 [] r := TL.spl_hit rfl
theorem spl_ne {c : Nat} (h : c ≠ 10) (acc r : List Nat) : TL.spl [10] 0 acc (c :: r) = TL.spl [10] 0 (acc ++ [c]) r := by
  have hp : TL.pre [10] (c :: r) = false := by
    show ((c :: r).take 1 == [10]) = false
    rw [List.take_succ_cons, List.take_zero]
    exact beq_eq_false_iff_ne.mpr fun z => h (List.cons.inj z).1
  show (if TL.pre [10] (c :: r) = true then acc :: TL.spl [10] ([10].length - 1) [] r else TL.spl [10] 0 (acc ++ [c]) r) = _
  rw [hp, if_neg Bool.false_ne_true]
theorem spl_free : ∀ {l : List Nat} (acc : List Nat), 10 ∉ l → TL.spl [10] 0 acc l = [acc ++ l]
  | [], acc, _ => by rw [TL.spl_nil, List.append_nil]
  | c :: l, acc, h => by
    have h1 : c ≠ 10 := fun z => h (by rw [z]; exact List.mem_cons_self)
    rw [spl_ne h1, spl_free (acc ++ [c]) fun z => h (List.mem_cons_of_mem _ z), List.append_assoc]
    rfl
theorem spl_cut {r : List Nat} (hr : 10 ∉ r) : ∀ (b acc : List Nat), ∃ X, X ≠ [] ∧ TL.spl [10] 0 acc (b ++ 10 :: r) = X ++ [r] ∧ TL.joinL [10] X = acc ++ b
  | [], acc => ⟨[acc], by simp, by rw [List.nil_append, spl_10, spl_free [] hr]; rfl, by rw [List.append_nil]; rfl⟩
  | c :: b, acc => by
    by_cases h : c = 10
    · subst h
      obtain ⟨X, h1, h2, h3⟩ := spl_cut hr b []
      refine ⟨acc :: X, by simp, by rw [List.cons_append, spl_10, h2]; rfl, ?_⟩
      cases X with
      | nil => exact absurd rfl h1
      | cons x X =>
        show acc ++ ([10] ++ TL.joinL [10] (x :: X)) = _
        rw [h3]
        rfl
    · obtain ⟨X, h1, h2, h3⟩ := spl_cut hr b (acc ++ [c])
      exact ⟨X, h1, by rw [List.cons_append, spl_ne h, h2], by rw [h3, List.append_assoc]; rfl⟩
theorem spl_all : ∀ (l acc : List Nat), (TL.spl [10] 0 acc l).all (fun row => row.all pr) = (acc.all pr && l.all ok)
  | [], acc => by simp [TL.spl_nil]
  | c :: l, acc => by
    by_cases h : c = 10
    · subst h
      rw [spl_10, List.all_cons, spl_all l []]
      simp [ok]
    · rw [spl_ne h, spl_all l]
      simp [ok, h, Bool.and_assoc]
theorem spl_one (l : List Nat) : (TL.spl [10] 0 [] l).length = 1 ↔ 10 ∉ l := by
  constructor
  · intro h hm
    cases q : cutL l with
    | none =>
      have : ∀ l : List Nat, cutL l = none → 10 ∉ l := by
        intro l
        induction l with
        | nil => intro _ z; cases z
        | cons c l ih =>
          intro e z
          simp only [cutL] at e
          cases q : cutL l with
          | some br => rw [q] at e; cases e
          | none =>
            rw [q] at e
            by_cases h10 : c = 10
            · simp [h10] at e
            · rcases List.mem_cons.mp z with z | z
              · exact h10 z.symm
              · exact ih q z
      exact this l q hm
    | some br =>
      obtain ⟨b, r⟩ := br
      obtain ⟨rfl, hr⟩ := cut_of q
      obtain ⟨X, h1, h2, -⟩ := spl_cut hr b []
      rw [h2, List.length_append] at h
      have := List.length_pos_iff.mpr h1
      simp only [List.length_cons, List.length_nil] at h
      omega
  · intro h
    rw [spl_free [] h]
    rfl
theorem cut_none_iff {l : List Nat} : cutL l = none ↔ 10 ∉ l := by
  constructor
  · intro q
    rw [← spl_one]
    by_cases hm : 10 ∈ l
    · exfalso
      have : ∃ b r, l = b ++ 10 :: r ∧ 10 ∉ r := by
        clear q
        induction l with
        | nil => cases hm
        | cons x l ih =>
          by_cases hx : 10 ∈ l
          · obtain ⟨b1, r1, e1, n1⟩ := ih hx
            exact ⟨x :: b1, r1, by rw [e1]; rfl, n1⟩
          · rcases List.mem_cons.mp hm with rfl | hm
            · exact ⟨[], l, rfl, hx⟩
            · exact absurd hm hx
      obtain ⟨b, r, rfl, n⟩ := this
      rw [cut_some n] at q
      cases q
    · exact (spl_one l).mpr hm
  · exact cut_none
/-! ### texts near a text -/
/-- one sign exchanged, left out or put in, two neighbours exchanged -/
def Nr (l l' : List Nat) : Prop := ∃ at_ s, at_ < l.length ∧ ok s = true ∧ (l' = l.take at_ ++ s :: l.drop (at_ + 1) ∨ l' = l.take at_ ++ l.drop (at_ + 1) ∨ l' = l.take at_ ++ s :: l.drop at_ ∨
  l' = l.take at_ ++ ((l.drop (at_ + 1)).take 1 ++ ((l.drop at_).take 1 ++ l.drop (at_ + 2))))
theorem nr_len {l l' : List Nat} (h : Nr l l') : l'.length ≤ l.length + 1 := by
  obtain ⟨i, s, h1, h2, rfl | rfl | rfl | rfl⟩ := h
  all_goals
    simp only [List.length_append, List.length_take, List.length_cons, List.length_drop]
    omega
theorem last_len (l : List Nat) : (last l).length ≤ 14 := by
  have : (numL (sm l % P)).length ≤ 10 := TL.numL_len (by decide) (Nat.lt_trans (Nat.mod_lt _ (by decide)) (by decide))
  simp only [last, tg4, List.length_append, List.length_cons, List.length_nil]
  omega
theorem sld_len (l : List Nat) : (sld l).length ≤ l.length + 15 := by
  have := last_len l
  simp only [sld, List.length_append, List.length_cons]
  omega
theorem len_sld (l : List Nat) : l.length < (sld l).length := by
  simp only [sld, List.length_append, List.length_cons]
  omega
theorem near_bad {l l' : List Nat} (hl : l.all ok = true) (hn : l.length ≤ 900000) (h : Nr (sld l) l') (hne : l' ≠ sld l) : opened l' = none := by
  cases q : opened l' with
  | none => rfl
  | some m =>
    exfalso
    obtain ⟨e, hm⟩ := opened_some q
    have lm : m.length ≤ 1000000 := by
      have a1 := nr_len h
      have a2 := sld_len l
      have a3 := len_sld m
      rw [e] at a1
      omega
    obtain ⟨i, s, hi, hs, hc⟩ := h
    have cut : sld l = (sld l).take i ++ (sld l)[i] :: (sld l).drop (i + 1) := by
      rw [← List.drop_eq_getElem_cons hi, List.take_append_drop]
    generalize (sld l)[i] = c at cut
    rcases hc with hc | hc | hc | hc
    · have := heart_sub hl hm (by omega) cut (e.symm.trans hc)
      subst this
      exact hne (hc.trans cut.symm)
    · exact heart_del hl (by omega) cut (e.symm.trans hc)
    · exact heart_del hm lm (e.symm.trans hc) (List.take_append_drop i _).symm
    · by_cases hj : i + 1 < (sld l).length
      · have d1 : (sld l).drop (i + 1) = (sld l)[i + 1] :: (sld l).drop (i + 2) := List.drop_eq_getElem_cons hj
        generalize hd : (sld l)[i + 1] = d at d1
        have d0 : (sld l).drop i = c :: (sld l).drop (i + 1) := by
          have z := cut
          have w := (List.take_append_drop i (sld l)).symm
          exact List.append_cancel_left (w.symm.trans z)
        rw [d1] at cut d0
        rw [d1, d0] at hc
        have hc : l' = (sld l).take i ++ d :: c :: (sld l).drop (i + 2) := hc
        have := heart_swap hl cut (e.symm.trans hc)
        subst this
        exact hne (hc.trans cut.symm)
      · have d1 : (sld l).drop (i + 1) = [] := List.drop_eq_nil_of_le (by omega)
        have d2 : (sld l).drop (i + 2) = [] := List.drop_eq_nil_of_le (by omega)
        have d0 : ((sld l).drop i).take 1 = (sld l).drop i := List.take_of_length_le (by rw [List.length_drop]; omega)
        rw [d1, d2, d0, List.append_nil] at hc
        exact hne (hc.trans (List.take_append_drop i _))
end M62

set_option Elab.async false
set_option linter.all false
set_option maxRecDepth 100000
set_option maxHeartbeats 4000000
namespace K62
open PySem PySem.Spec PyProof.Rows L2 Sw
def topS (i : Nat) : Stmt := PySem.Challenge.pw_sureweights_k62_whole_seals_by_own_sums.main.body.getD i (.Pass ⟨0, 0, 0, 0⟩)
/-- what the top leaves -/
structure Txt (K : PySem.W.Frag) (mg : Str → Option Value) (aN aS aT : Addr) : Prop where
  b_len : mg "len" = none
  b_abs : mg "abs" = none
  b_int : mg "int" = none
  b_str : mg "str" = none
  b_ord : mg "ord" = none
  b_min : mg "min" = none
  b_all : mg "all" = none
  b_range : mg "range" = none
  b_enumerate : mg "enumerate" = none
  b_isinstance : mg "isinstance" = none
  g_PRIME : ∃ u, mg "PRIME" = some u ∧ RelV (.int 1000000007) u
  g_MOST_SEALED : ∃ u, mg "MOST_SEALED" = some u ∧ RelV (.int 1000000) u
  g_MOST_SUM : ∃ u, mg "MOST_SUM" = some u ∧ RelV (.int 10) u
  g_FIGURES : ∃ u, mg "FIGURES" = some u ∧ RelV (.str "0123456789") u
  c_BadSeal : ∃ u, mg "BadSeal" = some u ∧ RelV (.ref aS) u
  c_BadThing : ∃ u, mg "BadThing" = some u ∧ RelV (.ref aT) u
  c1_NetError : mg "NetError" = some (.ref aN)
  c1_BadSeal : mg "BadSeal" = some (.ref aS)
  c1_BadThing : mg "BadThing" = some (.ref aT)
  x_BadSeal : PySem.W.excIn K aS [.type "ValueError", .type "Exception", .type "BaseException", .type "object"] "ValueError.__new__" = true
  x_BadThing : PySem.W.excIn K aT [.type "ValueError", .type "Exception", .type "BaseException", .type "object"] "ValueError.__new__" = true
  k_BadSeal : PySem.W.keepIn K (.ref aS) = true
  k_BadThing : PySem.W.keepIn K (.ref aT) = true
  sb_BadSeal : PySem.W.subIn K (.ref aS) (.type "BaseException") = some true
  sb_BadThing : PySem.W.subIn K (.ref aT) (.type "BaseException") = some true
  ty_BadSeal : PySem.W.typeIn K (.ref aS) = some (.type "type")
  ty_BadThing : PySem.W.typeIn K (.ref aT) = some (.type "type")
  m_BadSeal : PySem.W.exmOne K (.ref aS) (.ref aN) = some true
  m_BadThing : PySem.W.exmOne K (.ref aT) (.ref aN) = some true
  e_BadSeal : ExcC K aS
  e_BadThing : ExcC K aT
  i_BadSeal : PySem.W.kitOne K (.ref aS) (.ref aS) = some true
  i_BadThing : PySem.W.kitOne K (.ref aT) (.ref aT) = some true
section
variable {P : Program} {w : World} {K : PySem.W.Frag} {mg : Str → Option Value} {base : Heap} {aN aS aT : Addr}
/-! _law_begun -/
abbrev s__law_begun : Stmt := topS 17
abbrev N__law_begun : List Str := ["script", "great", "cell"]
theorem sc__law_begun : FnScope N__law_begun ["script"] (C8.fnScope s__law_begun) := C8.fnScope_by (by decide +kernel)
def spBegun (K : PySem.W.Frag) : Sp := fun vs H Q _ => ∃ (a : Addr) (ns : List Int), vs = [.ref a] ∧ SqL K H a (ns.map V.int) ∧ ns.length ≤ 1000 ∧
  ∀ r G H', Same H H' → H r = none → H G = none → Sta H' r G 1099511627776 → Q (.ref r) H'
def bigs (ns : List Int) : List Int := (ns.filter fun n => decide (10 ^ 18 ≤ (if n < 0 then -n else n))).map fun n => (if n < 0 then -n else n) - 10 ^ 18
def absL (ns : List Int) : List Int := ns.map fun n => if n < 0 then -n else n
theorem bigs_len (ns : List Int) : (bigs ns).length ≤ ns.length := by
  unfold bigs
  rw [List.length_map]
  exact List.length_filter_le _ _
theorem take_map_at {ns : List Int} {i : Nat} {x : V} (h : (ns.map V.int)[i]? = some x) : ∃ n, x = .int n ∧ ns[i]? = some n := by
  rw [List.getElem?_map] at h
  cases q : ns[i]? with
  | none => rw [q] at h; cases h
  | some n => rw [q] at h; exact ⟨n, (Option.some.inj h).symm, rfl⟩
theorem bigs_step {ns : List Int} {i : Nat} {n : Int} (h : ns[i]? = some n) : bigs (ns.take (i + 1)) = bigs (ns.take i) ++ bigs [n] := by
  unfold bigs
  rw [List.take_add_one, h, List.filter_append, List.map_append]
  rfl
theorem absL_step {ns : List Int} {i : Nat} {n : Int} (h : ns[i]? = some n) : absL (ns.take (i + 1)) = absL (ns.take i) ++ [if n < 0 then -n else n] := by
  unfold absL
  rw [List.take_add_one, h, List.map_append]
  rfl
theorem d_begun (D : DefN K mg "_law_begun" s__law_begun) (T : Txt K mg aN aS aT) : C8.Cal P w K mg base 1 "_law_begun" (spBegun K) [] := by
  have nd := sc__law_begun.nd
  refine cal_by D sc__law_begun (fun vs H Q E h => ?_) (fun _ _ _ _ _ _ us hl => match us, hl with | [_], _ => rfl) (fun f cdv A outer s H vs Q E hr h => ?_)
  · obtain ⟨a, ns, rfl, _⟩ := h
    rfl
  · obtain ⟨a, ns, rfl, hS, hlen, q⟩ := h
    refine ⟨_,
    (pss_cons (ps_setLc (i := 1) (own := [("cell", 2)]) (g := gName 2) rfl nd rfl rfl (sw_true rfl rfl rfl (by decide +kernel)) (pi_list (pv 0)) (blkOk_by (own := [("cell", 2)]) (N := N__law_begun) (sc := C8.fnScope s__law_begun) (by decide +kernel)) (fun _ _ _ _ _ => (pg_name (i := 2) nd rfl (Or.inl rfl))) (fun _ _ _ _ _ => (pts_one (pt_cmpR op_ge (pe_callB call_abs (by rfl) T.b_abs (by decide +kernel) (pa_cons (pv 2) pa_nil)) (pe_op op_pow pe_int pe_int) (nomark _)))) (fun _ _ _ _ _ => (pe_op op_sub (pe_callB call_abs (by rfl) T.b_abs (by decide +kernel) (pa_cons (pv 2) pa_nil)) (pe_op op_pow pe_int pe_int))))
    (pss_one (ps_ret (pe_disp (pps_cons pe_str (pv 1) (pps_cons pe_str (pe_lc (own := [("cell", 2)]) (g := gName 2) (tt := tYes) rfl nd (pi_list (pv 0)) (blkOk_by (own := [("cell", 2)]) (N := N__law_begun) (sc := C8.fnScope s__law_begun) (by decide +kernel)) (fun _ _ _ _ _ => (pg_name (i := 2) nd rfl (Or.inl rfl))) (fun _ _ _ _ _ => pts_nil) (fun _ _ _ _ _ => (pe_callB call_abs (by rfl) T.b_abs (by decide +kernel) (pa_cons (pv 2) pa_nil)))) (pps_cons pe_str pe_int (pps_cons pe_str pe_int pps_nil)))) (by rfl) (by rfl) (fun z => by cases z) (by decide))))), ?_⟩
    refine ⟨.ref a, rfl, a, rfl, ⟨_, hS⟩, fun G nG => lc_list (K := K) (a := a) (xs := ns.map V.int) (fun i H' => Same H H' ∧ H' G = some (.lst ((bigs (ns.take i)).map V.int))) ⟨same_upd nG, upd_same⟩ (fun i H' _ h => h.1.seq hS) ?_ ?_⟩
    · intro i x H' hx hP
      obtain ⟨n, rfl, hn⟩ := take_map_at hx
      have hs := bigs_step hn
      have lt : i < ns.length := (List.getElem?_eq_some_iff.mp hn).1
      have e18 : (10 : Int) ^ (18 : Int).toNat = 10 ^ 18 := rfl
      refine ⟨rfl, .int n, rfl, n, rfl, 10, 18, rfl, rfl, ⟨by decide, by decide, by decide⟩, _, _, rfl, rfl, _, rfl, ite2 (fun hb => ?_) (fun hb => ?_)⟩
      · have hb : (10 ^ 18 : Int) ≤ (if n < 0 then -n else n) := of_decide_eq_true hb
        have hz : bigs [n] = [(if n < 0 then -n else n) - 10 ^ 18] := by
          unfold bigs
          simp only [List.filter_cons, List.filter_nil, decide_eq_true hb, if_true, List.map_cons, List.map_nil]
        refine ⟨.int n, rfl, n, rfl, 10, 18, rfl, rfl, ⟨by decide, by decide, by decide⟩, _, _, rfl, rfl, _, hP.2, ?_, hP.1.put nG, ?_⟩
        · rw [List.length_map]
          exact small1000 (Nat.le_trans (bigs_len _) (by rw [List.length_take]; omega))
        · rw [upd_same, hs, hz, List.map_append]
          rfl
      · have hb : ¬ (10 ^ 18 : Int) ≤ (if n < 0 then -n else n) := fun z => hb (decide_eq_true z)
        have hz : bigs [n] = [] := by
          unfold bigs
          simp only [List.filter_cons, List.filter_nil, decide_eq_false hb, if_false, List.map_nil, Bool.false_eq_true]
        refine ⟨hP.1, ?_⟩
        rw [hs, hz, List.append_nil]
        exact hP.2
    · intro H1 hP
      obtain ⟨s1, g1⟩ := hP
      rw [List.length_map, List.take_length] at g1
      refine fun r nr => ?_
      refine ⟨.ref G, rfl, .ref a, rfl, a, rfl, ⟨_, (s1.new nr).seq hS⟩, fun C nC => lc_listY (K := K) (a := a) (xs := ns.map V.int)
        (fun i H' => Same (upd H1 r (.dK [])) H' ∧ H' C = some (.lst ((absL (ns.take i)).map V.int))) ⟨same_upd nC, upd_same⟩ (fun i H' _ h => h.1.seq ((s1.new nr).seq hS)) ?_ ?_⟩
      · intro i x H' hx hP
        obtain ⟨n, rfl, hn⟩ := take_map_at hx
        have hs := absL_step hn
        have lt : i < ns.length := (List.getElem?_eq_some_iff.mp hn).1
        refine ⟨rfl, .int n, rfl, n, rfl, _, hP.2, ?_, hP.1.put nC, ?_⟩
        · unfold absL
          rw [List.length_map, List.length_map, List.length_take]
          exact small1000 (by omega)
        · rw [upd_same, hs, List.map_append]
          rfl
      · rintro H2 ⟨s2, c2⟩
        have r2 : H2 r = some (.dK []) := s2 _ _ upd_same
        have nrG : G ≠ r := ne_of_none g1 nr
        have nrC : C ≠ r := (ne_of_none upd_same nC).symm
        have G2 : H2 G = some (.lst ((bigs ns).map V.int)) := s2 _ _ (by rw [upd_ne nrG]; exact g1)
        have nGC : G ≠ C := ne_of_none (show upd H1 r (.dK []) G = _ by rw [upd_ne nrG]; exact g1) nC
        refine ⟨r2, [(.inr "great", .ref G), (.inr "cells", .ref C), (.inr "left", .int 0), (.inr "turn", .int 0)], rfl, (by show 4 ≤ 15; decide), ?_⟩
        refine q r G _ (fun b o e => ?_) (s1.back nr) nG ⟨C, bigs ns, absL (ns.take (ns.map V.int).length), 0, 0, ?_, ?_, ?_, nGC.symm, by decide, by decide⟩
        · rw [upd_ne (ne_of_none e (s1.back nr))]
          exact s2 _ _ (at_new nr (s1 _ _ e))
        · rw [upd_same]
          rfl
        · rw [upd_ne nrG]
          exact G2
        · rw [upd_ne nrC]
          exact c2
/-! _law_blended -/
abbrev s__law_blended : Stmt := topS 18
abbrev N__law_blended : List Str := ["state", "turn", "found", "prime", "blend", "cell"]
theorem sc__law_blended : FnScope N__law_blended ["state"] (C8.fnScope s__law_blended) := C8.fnScope_by (by decide +kernel)
def spBlended : Sp := fun vs H Q _ => ∃ (a G : Addr) (n : Nat), vs = [.ref a] ∧ Sta H a G (n + 1) ∧
  ∀ r H', Sta H' a G n → KpS a G H H' → Q (.int r) H'
theorem d_blended (D : DefN K mg "_law_blended" s__law_blended) (T : Txt K mg aN aS aT) : C8.Cal P w K mg base 1 "_law_blended" spBlended [] := by
  have nd := sc__law_blended.nd
  refine cal_by D sc__law_blended (fun vs H Q E h => ?_) (fun _ _ _ _ _ _ us hl => match us, hl with | [_], _ => rfl) (fun f cdv A outer s H vs Q E hr h => ?_)
  · obtain ⟨a, G, n, rfl, _⟩ := h
    rfl
  · obtain ⟨a, G, n, rfl, hS, q⟩ := h
    obtain ⟨C, gs, cs, l, t, h1, h2, h3, h4, h5, h6⟩ := hS.ex
    refine ⟨_,
    (pss_cons (ps_par (i := 1) (j := 2) (by rfl) nd rfl rfl (by decide) rfl rfl (pa_cons (pe_op op_add (pe_dget (hu_of hr) (pv 0) pe_str (fun _ _ => rfl)) pe_int) (pa_cons pe_int pa_nil)) (by rfl))
    (pss_cons (ps_dput (hu_of hr) (pv 0) pe_str (pv 1) rfl)
    (pss_cons (ps_for PassesOwn.never rfl (pi_list (pe_lst (pa_cons pe_int (pa_cons pe_int (pa_cons pe_int pa_nil))))) (pg_name (i := 3) nd rfl (.inl rfl))
    (pss_cons (ps_set (i := 4) nd rfl (.inl rfl) (pe_op op_add (pe_op op_mul pe_int (pv 1)) (pe_op op_fdiv (pv 3) pe_int)))
      (pss_cons (ps_for PassesOwn.never rfl (pi_list (pe_dget (hu_of hr) (pv 0) pe_str (fun _ _ => rfl))) (pg_name (i := 5) nd rfl (.inl rfl))
      (pss_one (ps_set (i := 4) nd rfl (.inl rfl) (pe_op op_mod (pe_callTy call_int1 (by rfl) T.b_int (by decide +kernel) (pa_cons (pe_op op_add (pe_op op_add (pe_op op_mul (pv 4) pe_int) (pv 5)) (pv 1)) pa_nil)) (pv 3)))))
      (pss_one (ps_set (i := 2) nd rfl (.inl rfl) (pe_op op_add (pe_op op_mul (pv 2) pe_int) (pe_op op_mod (pe_callTy call_int1 (by rfl) T.b_int (by decide +kernel) (pa_cons (pe_op op_pow (pv 4) pe_int) pa_nil)) (pv 3))))))))
    (pss_one (ps_ret (pv 2)))))), ?_⟩
    -- turn, found = state['turn'] + 1, 0
    refine ⟨.ref a, rfl, a, .int t, rfl, get_turn _ _ _ _ h1, t, 1, rfl, rfl, _, _, rfl, ?_⟩
    -- state['turn'] = turn
    refine ⟨.int (t + 1), rfl, .ref a, rfl, a, _, rfl, set_turn _ _ _ _ (.int (t + 1)) h1, ?_⟩
    have naG : a ≠ G := hS.aG
    have naC : a ≠ C := ne_of h1 h3 (fun z => nomatch z)
    generalize hH1 : upd H a (.dK (four (.ref G) (.ref C) (.int l) (.int (t + 1)))) = H1
    have a1 : H1 a = some (.dK (four (.ref G) (.ref C) (.int l) (.int (t + 1)))) := by rw [← hH1, upd_same]
    have a2 : H1 G = some (.lst (gs.map V.int)) := by rw [← hH1, upd_ne naG.symm]; exact h2
    have a3 : H1 C = some (.lst (cs.map V.int)) := by rw [← hH1, upd_ne naC.symm]; exact h3
    have kp : KpS a G H H1 := by
      rw [← hH1]
      exact (Kp.refl _ H).put (by simp)
    clear hH1
    -- for prime in [..]
    refine ⟨by show 3 ≤ sizeLine; decide, fun p np => ?_⟩
    have s1 := same_upd (H := H1) (p := p) (o := .lst [.int 2147481487, .int 2147481373, .int 2147481367]) np
    generalize hH2 : upd H1 p (.lst [.int 2147481487, .int 2147481373, .int 2147481367]) = H2
    have p2 : H2 p = some (.lst [.int 2147481487, .int 2147481373, .int 2147481367]) := by rw [← hH2, upd_same]
    rw [hH2] at s1
    refine ⟨p, rfl, ⟨_, SqL.of p2⟩, ?_⟩
    refine for_list (K := K) (a := p) (xs := [.int 2147481487, .int 2147481373, .int 2147481367])
      (fun i σ H3 => H3 = H2 ∧ ∃ fo y3 y4 y5, σ = [some (.ref a), some (.int (t + 1)), some (.int fo), y3, y4, y5]) ⟨rfl, 0, none, none, none, rfl⟩ (fun i σ H3 _ h => by obtain ⟨rfl, _⟩ := h; exact SqL.of p2) ?_ ?_
    · rintro i x σ H3 hx ⟨rfl, fo, y3, y4, y5, rfl⟩
      obtain ⟨pr, rfl, hp1, hp2⟩ : ∃ pr : Int, x = .int pr ∧ 2147481367 ≤ pr ∧ pr ≤ 2147481487 := by
        match i, hx with
        | 0, hx => exact ⟨2147481487, (Option.some.inj hx).symm, by decide, by decide⟩
        | 1, hx => exact ⟨2147481373, (Option.some.inj hx).symm, by decide, by decide⟩
        | 2, hx => exact ⟨2147481367, (Option.some.inj hx).symm, by decide, by decide⟩
        | k + 3, hx => simp at hx
      have c3 : H3 C = some (.lst (cs.map V.int)) := s1 _ _ a3
      refine ⟨.int (t + 1), rfl, 47911, t + 1, rfl, rfl, .inl ⟨by decide, by decide⟩, .int pr, rfl, pr, 97, rfl, rfl, ⟨by decide, by decide⟩, _, _, rfl, rfl, ?_⟩
      refine ⟨.ref a, rfl, a, .ref C, rfl, get_cells _ _ _ _ (s1 _ _ a1), C, rfl, ⟨_, SqL.of c3⟩, ?_⟩
      refine for_list (K := K) (a := C) (xs := cs.map V.int)
        (fun i σ H4 => H4 = H3 ∧ ∃ bl y5, σ = [some (.ref a), some (.int (t + 1)), some (.int fo), some (.int pr), some (.int bl), y5] ∧ bl.natAbs < 2 ^ 64) ⟨rfl, _, _, rfl, ?_⟩ (fun i σ H4 _ h => by obtain ⟨rfl, _⟩ := h; exact SqL.of c3) ?_ ?_
      · have : 0 ≤ pr / 97 := Int.ediv_nonneg (by omega) (by decide)
        have : pr / 97 ≤ pr := Int.ediv_le_self _ (by omega)
        omega
      · rintro i x σ H4 hx ⟨rfl, bl, y5, rfl, hb⟩
        obtain ⟨cv, rfl⟩ : ∃ cv, x = .int cv := by
          rw [List.getElem?_map] at hx
          cases q : cs[i]? with
          | none => rw [q] at hx; cases hx
          | some c => rw [q] at hx; exact ⟨c, (Option.some.inj hx).symm⟩
        refine ⟨.int bl, rfl, bl, 66047, rfl, rfl, .inr ⟨by decide, by decide⟩, .int cv, rfl, _, cv, rfl, rfl, .int (t + 1), rfl, _, _, rfl, rfl, .inl ⟨_, rfl, .int pr, rfl, _, pr, rfl, rfl, by show (0 : Int) < pr; omega, rfl, _, _, rfl, ?_⟩⟩
        have := Int.emod_nonneg (bl * 66047 + cv + (t + 1)) (show pr ≠ 0 by omega)
        have := Int.emod_lt_of_pos (bl * 66047 + cv + (t + 1)) (show 0 < pr by omega)
        omega
      · rintro σ H4 ⟨rfl, bl, y5, rfl, hb⟩
        refine ⟨.int fo, rfl, fo, 2147483647, rfl, rfl, .inr ⟨by decide, by decide⟩, .int bl, rfl, bl, 5, rfl, rfl, ⟨by decide, by decide, hb⟩, .inl ⟨_, rfl, .int pr, rfl, _, pr, rfl, rfl, by show (0 : Int) < pr; omega, _, _, rfl, rfl, rfl, _, _, _, _, rfl⟩⟩
    · rintro σ H3 ⟨rfl, fo, y3, y4, y5, rfl⟩
      refine ⟨.int fo, rfl, ?_⟩
      refine q fo _ ⟨C, gs, cs, l, t + 1, s1 _ _ a1, s1 _ _ a2, s1 _ _ a3, h4, by omega, by omega⟩ (kp.trans (Kp.of s1))
/-! _law_draw -/
abbrev s__law_draw : Stmt := topS 19
abbrev N__law_draw : List Str := ["state", "size_here", "found"]
theorem sc__law_draw : FnScope N__law_draw ["state", "size_here"] (C8.fnScope s__law_draw) := C8.fnScope_by (by decide +kernel)
def spDraw : Sp := fun vs H Q _ => ∃ (a G : Addr) (n : Nat) (m : Int), vs = [.ref a, .int m] ∧ 0 < m ∧ m < 1073741824 ∧ Sta H a G (n + 1) ∧
  ∀ r H', 0 ≤ r → r < m → Sta H' a G n → KpS a G H H' → Q (.int r) H'
theorem d_draw (D : DefN K mg "_law_draw" s__law_draw) (T : Txt K mg aN aS aT) (D__law_blended : C8.Cal P w K mg base 1 "_law_blended" spBlended []) : C8.Cal P w K mg base 2 "_law_draw" spDraw [] := by
  have nd := sc__law_draw.nd
  refine cal_by D sc__law_draw (fun vs H Q E h => ?_) (fun _ _ _ _ _ _ us hl => match us, hl with | [_, _], _ => rfl) (fun f cdv A outer s H vs Q E hr h => ?_)
  · obtain ⟨a, G, n, m, rfl, _⟩ := h
    rfl
  · obtain ⟨a, G, n, m, rfl, m0, m1, hS, q⟩ := h
    obtain ⟨C, gs, cs, l, t, h1, h2, h3, h4, h5, h6⟩ := hS.ex
    refine ⟨_,
    (pss_cons (ps_if (pt_cmpR op_eq (pe_dget (hu_of hr) (pv 0) pe_str (fun _ _ => rfl)) pe_int (nomark _))
    (pss_one (ps_dput (hu_of hr) (pv 0) pe_str (pe_ifExp (pt_cmpR (op_neD hr.units) (pe_dget (hu_of hr) (pv 0) pe_str (fun _ _ => rfl)) (pe_lst pa_nil) (nomark _)) (pe_bm PySem.F.plainAttrs_list PySem.F.slot_list_pop PySem.F.type_list_pop mt_popAt (pe_dget (hu_of hr) (pv 0) pe_str (fun _ _ => rfl)) (pa_cons pe_int pa_nil)) (C8.pe_c D__law_blended hr (by decide) rfl (pa_cons (pv 0) pa_nil))) rfl))
    pss_nil)
    (pss_cons (ps_set (i := 2) nd rfl (.inl rfl) (pe_op op_mod (pe_callTy call_int1 (by rfl) T.b_int (by decide +kernel) (pa_cons (pe_dget (hu_of hr) (pv 0) pe_str (fun _ _ => rfl)) pa_nil)) (pv 1)))
    (pss_cons (ps_dput (hu_of hr) (pv 0) pe_str (pe_op op_fdiv (pe_dget (hu_of hr) (pv 0) pe_str (fun _ _ => rfl)) (pv 1)) rfl)
    (pss_one (ps_ret (pv 2)))))), ?_⟩
    -- what stands behind the if
    have tail : ∀ (l' : Int) (H1 : Hp) (C' : Addr) (gs' cs' : List Int) (t' : Int), H1 a = some (.dK (four (.ref G) (.ref C') (.int l') (.int t'))) → H1 G = some (.lst (gs'.map V.int)) → H1 C' = some (.lst (cs'.map V.int)) → C' ≠ G → 0 ≤ t' →
        t' + n ≤ 1099511627776 → KpS a G H H1 →
        tSeq (tAsg (tOp (rI (fun _ j => 0 < j) fun i j => .int (i % j)) (tCB (fun xs H Q => (∃ i, xs = [.int i] ∧ Q (.int i) H) ∨ ∃ k, xs = [.bl k] ∧ Q (.int (if k then 1 else 0)) H) (tCons (tDGet (tVar 0) (tC (.str "left"))) tNil)) (tVar 1)) (gName 2))
          (tSeq (sDPut (tVar 0) (tC (.str "left")) (tOp (rI CDiv fun i j => .int (i / j)) (tDGet (tVar 0) (tC (.str "left"))) (tVar 1))) (tRet (tVar 2)))
          { nx := fun _ H' => Q .non H', rt := Q } [some (.ref a), some (.int m), none] H1 := by
      intro l' H1 C' gs' cs' t' e1 e2 e3 e4 e5 e6 kp
      refine ⟨.ref a, rfl, a, .int l', rfl, get_left _ _ _ _ e1, .inl ⟨l', rfl, .int m, rfl, l', m, rfl, rfl, m0, ?_⟩⟩
      refine ⟨.ref a, rfl, a, .int l', rfl, get_left _ _ _ _ e1, .int m, rfl, l', m, rfl, rfl, ⟨m0, m1⟩, .ref a, rfl, a, _, rfl, set_left _ _ _ _ (.int (l' / m)) e1, ?_⟩
      refine ⟨.int (l' % m), rfl, ?_⟩
      have naG : a ≠ G := hS.aG
      have naC : a ≠ C' := ne_of e1 e3 (fun z => nomatch z)
      exact q _ _ (Int.emod_nonneg _ (by omega)) (Int.emod_lt_of_pos _ m0)
        ⟨C', gs', cs', l' / m, t', upd_same, by rw [upd_ne naG.symm]; exact e2, by rw [upd_ne naC.symm]; exact e3, e4, e5, e6⟩ (kp.put (by simp))
    -- if state['left'] == 0
    refine ⟨.ref a, rfl, a, .int l, rfl, get_left _ _ _ _ h1, rfl, _, rfl, ite2 (fun hb => ?_) (fun hb => ?_)⟩
    · -- state['great'] != []
      refine ⟨.ref a, rfl, a, .ref G, rfl, get_great _ _ _ _ h1, Nat.zero_le _, fun p np => ?_⟩
      refine ⟨_, _, dp_ints (SqL.of (at_new np h2)), dp_nil upd_same, shaped_ints gs, shaped_nil, _, rfl, ?_⟩
      rw [eqv_nil]
      have k1 := (Kp.refl [a, G] H).new (o := .lst []) np
      have b1 := at_new (o := .lst []) np h1
      have b2 := at_new (o := .lst []) np h2
      have b3 := at_new (o := .lst []) np h3
      have naG : a ≠ G := hS.aG
      have naC : a ≠ C := ne_of h1 h3 (fun z => nomatch z)
      cases gs with
      | nil =>
        refine iteF ?_
        refine ⟨.ref a, rfl, a, G, n, rfl, hS.new np, fun r H1 s1 k2 => ?_⟩
        obtain ⟨C1, gs1, cs1, l1, t1, d1, d2, d3, d4, d5, d6⟩ := s1.ex
        have naC1 : a ≠ C1 := ne_of d1 d3 (fun z => nomatch z)
        refine ⟨.ref a, rfl, a, _, rfl, set_left _ _ _ _ (.int r) d1, ?_⟩
        exact tail r _ C1 gs1 cs1 t1 upd_same (by rw [upd_ne naG.symm]; exact d2) (by rw [upd_ne naC1.symm]; exact d3) d4 d5 (by omega) ((k1.trans k2).put (by simp))
      | cons g0 gs =>
        refine iteT ?_
        refine ⟨.ref a, rfl, a, .ref G, rfl, get_great _ _ _ _ b1, .inl ⟨rfl, _, SqL.of b2⟩, G, _, 0, 0, .int g0, rfl, rfl, b2, by decide, by decide, ?_, rfl, ?_⟩
        · simp [seqIndex?]
        · have c1 : (upd (upd H p (.lst [])) G (.lst (gs.map V.int))) a = some (.dK (four (.ref G) (.ref C) (.int l) (.int t))) := by rw [upd_ne naG]; exact b1
          refine ⟨.ref a, rfl, a, _, rfl, set_left _ _ _ _ (.int g0) c1, ?_⟩
          exact tail g0 _ C gs cs t upd_same (by rw [upd_ne naG.symm, upd_same]; rfl) (by rw [upd_ne naC.symm, upd_ne h4]; exact b3) h4 h5 (by omega) ((k1.put (by simp)).put (by simp))
    · exact tail l H C gs cs t h1 h2 h3 h4 h5 (by omega) (Kp.refl _ _)
/-! _law_pick -/
abbrev s__law_pick : Stmt := topS 20
abbrev N__law_pick : List Str := ["state", "several"]
theorem sc__law_pick : FnScope N__law_pick ["state", "several"] (C8.fnScope s__law_pick) := C8.fnScope_by (by decide +kernel)
/-- several: a text, or a list of texts -/
def spPick (K : PySem.W.Frag) : Sp := fun vs H Q _ => ∃ (a G : Addr) (n : Nat) (x : V) (zs : List Str), vs = [.ref a, x] ∧ Sta H a G (n + 1) ∧ zs ≠ [] ∧ zs.length ≤ 1000 ∧
  ((∃ z, x = .str z ∧ zs = z.cps.toList.map fun c => (⟨#[c]⟩ : Str)) ∨ ∃ p, x = .ref p ∧ p ≠ a ∧ p ≠ G ∧ H p = some (.lst (zs.map V.str))) ∧
  ∀ z H', z ∈ zs → Sta H' a G n → KpS a G H H' → Q (.str z) H'
theorem d_pick (D : DefN K mg "_law_pick" s__law_pick) (T : Txt K mg aN aS aT) (D__law_draw : C8.Cal P w K mg base 2 "_law_draw" spDraw []) : C8.Cal P w K mg base 3 "_law_pick" (spPick K) [] := by
  have nd := sc__law_pick.nd
  refine cal_by D sc__law_pick (fun vs H Q E h => ?_) (fun _ _ _ _ _ _ us hl => match us, hl with | [_, _], _ => rfl) (fun f cdv A outer s H vs Q E hr h => ?_)
  · obtain ⟨a, G, n, x, zs, rfl, _⟩ := h
    rfl
  · obtain ⟨a, G, n, x, zs, rfl, hS, h0, hl, hx, q⟩ := h
    refine ⟨_,
    (pss_one (ps_ret (pe_ix ix_seq (pv 1) (C8.pe_c D__law_draw hr (by decide) rfl (pa_cons (pv 0) (pa_cons (pe_callB (CallR.or call_len_str call_len_seq) (by rfl) T.b_len (by decide +kernel) (pa_cons (pv 1) pa_nil)) pa_nil))) (fun _ _ => rfl)))), ?_⟩
    have lpos : 0 < zs.length := List.length_pos_iff.mpr h0
    rcases hx with ⟨z, rfl, hz⟩ | ⟨p, rfl, pa, pG, hp⟩
    · have hlen : z.length = zs.length := by
        rw [hz, List.length_map]
        exact Array.length_toList.symm
      have hsz : z.length ≤ sizeLine := Nat.le_of_lt (small1000 (by omega))
      refine ⟨.str z, rfl, .ref a, rfl, .str z, rfl, .inl ⟨z, rfl, hsz, a, G, n, (z.length : Int), rfl, by omega, by omega, hS, fun r H1 r0 r1 s1 k1 => ?_⟩⟩
      obtain ⟨j, rfl⟩ : ∃ j : Nat, r = (j : Int) := ⟨r.toNat, by omega⟩
      have hj : j < z.cps.toList.length := by
        rw [Array.length_toList]
        show j < z.length
        omega
      refine .inr (.inr ⟨z, (j : Int), z.cps.toList[j], rfl, rfl, hsz, atI_nat (List.getElem?_eq_getElem hj), ?_⟩)
      exact q _ H1 (by rw [hz]; exact List.mem_map.mpr ⟨_, List.getElem_mem hj, rfl⟩) s1 k1
    · refine ⟨.ref p, rfl, .ref a, rfl, .ref p, rfl, .inr ⟨p, zs.map V.str, rfl, .inl (SqL.of hp), a, G, n, _, rfl, by rw [List.length_map]; omega, by rw [List.length_map]; omega, hS, fun r H1 r0 r1 s1 k1 => ?_⟩⟩
      rw [List.length_map] at r1
      obtain ⟨j, rfl⟩ : ∃ j : Nat, r = (j : Int) := ⟨r.toNat, by omega⟩
      have hj : j < zs.length := by omega
      refine .inl ⟨p, zs.map V.str, (j : Int), .str zs[j], rfl, rfl, SqL.of (k1.at pa pG hp), atI_nat ?_, ?_⟩
      · rw [List.getElem?_map, List.getElem?_eq_getElem hj]
        rfl
      · exact q _ H1 (List.getElem_mem hj) s1 k1
/-! _law_tx_signs -/
abbrev s__law_tx_signs : Stmt := topS 22
abbrev N__law_tx_signs : List Str := []
theorem sc__law_tx_signs : FnScope N__law_tx_signs [] (C8.fnScope s__law_tx_signs) := C8.fnScope_by (by decide +kernel)
def signs : Str := " !\"#$&'()*+,-./0123456789:;<=>?@ABCDEFGHIJKLMNOPQRSTUVWXYZ[\\]^_`abcdefghijklmnopqrstuvwxyz{|}~"
def spSigns : Sp := fun vs H Q _ => vs = [] ∧ Q (.str signs) H
theorem d_signs (D : DefN K mg "_law_tx_signs" s__law_tx_signs) : C8.Cal P w K mg base 1 "_law_tx_signs" spSigns [] := by
  refine cal_by D sc__law_tx_signs (fun vs H Q E h => ?_) (fun _ _ _ _ _ _ us hl => match us, hl with | [], _ => rfl) (fun f cdv A outer s H vs Q E hr h => ?_)
  · obtain ⟨rfl, _⟩ := h
    rfl
  · obtain ⟨rfl, q⟩ := h
    exact ⟨_,
    (pss_one (ps_ret pe_str)), q⟩
end
end K62

set_option Elab.async false
set_option linter.all false
set_option maxRecDepth 100000
set_option maxHeartbeats 4000000
namespace K62
open PySem PySem.Spec PyProof.Rows L2 Sw M62 SX
/-! ### texts as lists of codes -/
theorem cut_to (l : List Nat) (i : Nat) : cutS (S l) none (some (i : Int)) = S (l.take i) := by
  unfold cutS
  rw [HT.sIx_none, HT.sIx_nat, S_len]
  show S ((l.drop 0).take (min i l.length - 0)) = _
  rw [List.drop_zero, Nat.sub_zero, List.take_eq_take_iff.mpr]
  omega
theorem cut_from (l : List Nat) (i : Nat) : cutS (S l) (some (i : Int)) none = S (l.drop i) := by
  unfold cutS
  rw [HT.sIx_none, HT.sIx_nat, S_len]
  show S ((l.drop (min i l.length)).take (l.length - min i l.length)) = _
  by_cases h : i ≤ l.length
  · rw [Nat.min_eq_left h, List.take_of_length_le (by rw [List.length_drop]; omega)]
  · rw [Nat.min_eq_right (by omega), List.drop_eq_nil_of_le (Nat.le_refl _), List.drop_eq_nil_of_le (by omega)]
    simp
theorem cut_mid (l : List Nat) (i j : Nat) : cutS (S l) (some (i : Int)) (some (j : Int)) = S ((l.drop i).take (j - i)) := by
  unfold cutS
  rw [HT.sIx_nat, HT.sIx_nat, S_len]
  show S ((l.drop (min i l.length)).take (min j l.length - min i l.length)) = _
  by_cases h : i ≤ l.length
  · rw [Nat.min_eq_left h, List.take_eq_take_iff.mpr]
    rw [List.length_drop]
    omega
  · rw [Nat.min_eq_right (show l.length ≤ i by omega), List.drop_eq_nil_of_le (Nat.le_refl _), List.drop_eq_nil_of_le (show l.length ≤ i by omega)]
    simp
theorem revS (l : List Nat) : revText (S l) = S l.reverse := rfl
theorem at_one {l : List Nat} {c i : Nat} : StrLaws.At (S l) (S [c]) (S l).length i ↔ l[i]? = some c := by
  unfold StrLaws.At Builtin.Str.subAt
  rw [S_len]
  show i + 1 ≤ l.length ∧ (l.toArray.extract i (i + 1) == #[c]) = true ↔ _
  rw [beq_iff_eq, ← Array.toList_inj, Array.toList_extract]
  show i + 1 ≤ l.length ∧ (l.drop i).take (i + 1 - i) = [c] ↔ _
  rw [Nat.add_sub_cancel_left]
  constructor
  · rintro ⟨h, e⟩
    rw [List.drop_eq_getElem_cons (show i < l.length by omega)] at e
    rw [List.getElem?_eq_getElem (show i < l.length by omega)]
    exact congrArg some (List.cons.inj e).1
  · intro e
    obtain ⟨h, e⟩ := List.getElem?_eq_some_iff.mp e
    refine ⟨h, ?_⟩
    rw [List.drop_eq_getElem_cons h, e]
    rfl
theorem rev_index {b r : List Nat} (h : 10 ∉ r) : ∃ rest, Builtin.Str.occurrences (S (b ++ 10 :: r).reverse) (S [10]) 0 (S (b ++ 10 :: r).reverse).length 1 = r.length :: rest := by
  have e : (b ++ 10 :: r).reverse = r.reverse ++ 10 :: b.reverse := by simp
  rw [e]
  have hat : (r.reverse ++ 10 :: b.reverse)[r.length]? = some 10 := by
    rw [List.getElem?_append_right (by rw [List.length_reverse]; exact Nat.le_refl _), List.length_reverse, Nat.sub_self]
    rfl
  rcases StrLaws.occ_head (S (r.reverse ++ 10 :: b.reverse)) (S [10]) 1 (Nat.le_refl 1) with ⟨_, hn⟩ | ⟨i, rest, e1, ha, hk⟩
  · exact (hn r.length (at_one.mpr hat)).elim
  · refine ⟨rest, ?_⟩
    rw [e1]
    have hi := at_one.mp ha
    have h1 : ¬ r.length < i := fun z => hk r.length z (at_one.mpr hat)
    have h2 : ¬ i < r.length := fun z => by
      rw [List.getElem?_append_left (by rw [List.length_reverse]; exact z)] at hi
      exact h (List.mem_reverse.mp (List.mem_of_getElem? hi))
    rw [show i = r.length by omega]
theorem lt_one (c d : Nat) : (([c] : List Nat) < [d]) ↔ c < d := by
  rw [List.cons_lt_cons_iff]
  simp
theorem pr_eq (c : Nat) : ((!decide ([c] < [32])) && !decide ([126] < [c])) = pr c := by
  unfold pr
  simp only [lt_one]
  by_cases h1 : c < 32 <;> by_cases h2 : 126 < c <;> simp [h1, h2] <;> omega
section
variable {P : Program} {w : World} {K : PySem.W.Frag} {mg : Str → Option Value} {base : Heap} {aN aS aT : Addr}
/-- a value that is no text -/
def NoText (K : PySem.W.Frag) (H : Hp) (v : V) : Prop := ∃ T, TyX K H v (.type T) ∧ kitB T "str" = some false
/-! is_signs -/
abbrev s_is_signs : Stmt := topS 5
abbrev N_is_signs : List Str := ["value", "sign"]
theorem sc_is_signs : FnScope N_is_signs ["value"] (C8.fnScope s_is_signs) := C8.fnScope_by (by decide +kernel)
def spIsSigns : Sp := fun vs H Q _ => ∃ l, vs = [.str (S l)] ∧ l.length ≤ 2000000 ∧ ∀ H', Same H H' → Q (.bl (l.all pr)) H'
theorem d_is_signs (D : DefN K mg "is_signs" s_is_signs) (T : Txt K mg aN aS aT) : C8.Cal P w K mg base 1 "is_signs" spIsSigns [] := by
  have nd := sc_is_signs.nd
  refine cal_by D sc_is_signs (fun vs H Q E h => ?_) (fun _ _ _ _ _ _ us hl => match us, hl with | [_], _ => rfl) (fun f cdv A outer s H vs Q E hr h => ?_)
  · obtain ⟨l, rfl, _⟩ := h
    rfl
  · obtain ⟨l, rfl, hl, q⟩ := h
    refine ⟨_,
    (pss_one (ps_ret (pe_and (pe_callB call_isA (by rfl) T.b_isinstance (by decide +kernel) (pa_cons (pv 0) (pa_cons (pe_bltn (v := .ty "str") (by rfl) T.b_str (by decide +kernel) rfl) pa_nil))) (pe_one (pe_callB (cr_all rfl) (by rfl) T.b_all (by decide +kernel) (pa_cons (pe_lc (own := [("sign", 1)]) (g := gName 1) (tt := tYes) rfl nd (pi_str (pv 0)) (blkOk_by (own := [("sign", 1)]) (N := N_is_signs) (sc := C8.fnScope s_is_signs) (by decide +kernel)) (fun _ _ _ _ _ => (pg_name (i := 1) nd rfl (Or.inl rfl))) (fun _ _ _ _ _ => pts_nil) (fun _ _ _ _ _ => (pe_chain op_le_str op_le_str pe_str (pv 1) pe_str))) pa_nil)))))), ?_⟩
    refine ⟨.str (S l), rfl, .inl ⟨.str (S l), .ty "str", .type "str", .type "str", true, rfl, .ty "str", .base (.str _), by exact kit_ty rfl, true, rfl, iteT ?_⟩⟩
    refine ⟨.str (S l), rfl, S l, rfl, fun D nD => lc_strY (fun i H' => Same H H' ∧ H' D = some (.lst ((l.take i).map fun c => V.bl (pr c)))) ⟨same_upd nD, upd_same⟩ ?_ ?_⟩
    · rintro i c H' hc ⟨s1, g1⟩
      have hc : l[i]? = some c := by simpa using hc
      have lt := (List.getElem?_eq_some_iff.mp hc).1
      have fin : ∃ acc, H' D = some (.lst acc) ∧ acc.length < sizeLine ∧ (Same H (upd H' D (.lst (acc ++ [V.bl (pr c)]))) ∧ upd H' D (.lst (acc ++ [V.bl (pr c)])) D = some (.lst ((l.take (i + 1)).map fun c => V.bl (pr c)))) := by
        refine ⟨_, g1, ?_, s1.put nD, ?_⟩
        · rw [List.length_map, List.length_take, sizeLine_eq]
          omega
        · rw [upd_same, List.take_add_one, hc, List.map_append]
          rfl
      have hp := pr_eq c
      refine ⟨rfl, .str ⟨#[c]⟩, rfl, _, _, rfl, rfl, _, rfl, ?_⟩
      by_cases hc : c < 32
      · rw [show (!decide ((⟨#[c]⟩ : Str).cps.toList < (" " : Str).cps.toList)) = false by
          rw [show ((" " : Str).cps.toList) = [32] by decide +kernel]
          simp only [lt_one, decide_eq_true hc, Bool.not_true]]
        refine iteF ?_
        rw [show pr c = false by rw [← hp]; simp only [lt_one, decide_eq_true hc, Bool.not_true, Bool.false_and]] at fin
        exact fin
      · rw [show (!decide ((⟨#[c]⟩ : Str).cps.toList < (" " : Str).cps.toList)) = true by
          rw [show ((" " : Str).cps.toList) = [32] by decide +kernel]
          simp only [lt_one, decide_eq_false hc, Bool.not_false]]
        refine iteT ⟨_, _, rfl, rfl, ?_⟩
        rw [show (!decide (("~" : Str).cps.toList < (⟨#[c]⟩ : Str).cps.toList)) = pr c by
          rw [show (("~" : Str).cps.toList) = [126] by decide +kernel, ← hp]
          simp only [lt_one, decide_eq_false hc, Bool.not_false, Bool.true_and]]
        exact fin
    · rintro H' ⟨s1, g1⟩
      have e1 : l.take (S l).cps.size = l := List.take_of_length_le (by simp)
      rw [e1] at g1
      refine ⟨D, l.map pr, rfl, SqL.of (by rw [List.map_map]; exact g1), ?_⟩
      rw [show (l.map pr).all id = l.all pr by rw [List.all_map]; rfl]
      exact q H' s1
/-! seal_sum -/
abbrev s_seal_sum : Stmt := topS 11
abbrev N_seal_sum : List Str := ["text", "found", "place", "sign"]
theorem sc_seal_sum : FnScope N_seal_sum ["text"] (C8.fnScope s_seal_sum) := C8.fnScope_by (by decide +kernel)
/-- the loop over the signs: found holds the sum so far, by m -/
theorem sum_step {l : List Nat} {i c : Nat} (h : l[i]? = some c) : sm (l.take (i + 1)) = sm (l.take i) + (i + 1) * c := by
  have lt := (List.getElem?_eq_some_iff.mp h).1
  unfold sm
  rw [List.take_add_one, h, sumF_app, List.length_take, Nat.min_eq_left (Nat.le_of_lt lt)]
  show _ + ((1 + i) * c + 0) = _
  rw [Nat.add_zero, Nat.add_comm 1 i]
def spSum : Sp := fun vs H Q _ => ∃ l, vs = [.str (S l)] ∧ l.length ≤ 2000000 ∧ ∀ H', Same H H' → Q (.int ((sm l % M62.P : Nat) : Int)) H'
theorem d_seal_sum (D : DefN K mg "seal_sum" s_seal_sum) (T : Txt K mg aN aS aT) : C8.Cal P w K mg base 1 "seal_sum" spSum [] := by
  have nd := sc_seal_sum.nd
  refine cal_by D sc_seal_sum (fun vs H Q E h => ?_) (fun _ _ _ _ _ _ us hl => match us, hl with | [_], _ => rfl) (fun f cdv A outer s H vs Q E hr h => ?_)
  · obtain ⟨l, rfl, _⟩ := h
    rfl
  · obtain ⟨l, rfl, hl, q⟩ := h
    refine ⟨_,
    (pss_cons (ps_set (i := 1) nd rfl (.inl rfl) pe_int)
    (pss_cons (ps_for PassesOwn.never rfl (pi_enumS (by rfl) T.b_enumerate (pa_cons (pv 0) pa_nil)) (pg_tup rfl (pgs_cons (pg_name (i := 2) nd rfl (.inl rfl)) (pgs_cons (pg_name (i := 3) nd rfl (.inl rfl)) pgs_nil)))
    (pss_one (ps_set (i := 1) nd rfl (.inl rfl) (pe_op op_mod (pe_op op_add (pv 1) (pe_op op_mul (pe_op op_add (pv 2) pe_int) (pe_callB call_ord (by rfl) T.b_ord (by decide +kernel) (pa_cons (pv 3) pa_nil)))) (C8.pe_gc rfl T.g_PRIME)))))
    (pss_one (ps_ret (pv 1))))), ?_⟩
    refine ⟨.str (S l), rfl, S l, rfl, ?_⟩
    refine for_enumS (fun i σ H' => Same H H' ∧ ∃ y2 y3, σ = [some (.str (S l)), some (.int ((sm (l.take i) % M62.P : Nat) : Int)), y2, y3]) ⟨Same.refl H, none, none, rfl⟩ ?_ ?_
    · rintro i c σ H1 Tp hc ⟨s1, y2, y3, rfl⟩ nT
      have hc : l[i]? = some c := by simpa using hc
      have lt := (List.getElem?_eq_some_iff.mp hc).1
      refine ⟨Tp, _, rfl, SqT.of upd_same, rfl, _, _, rfl, _, _, rfl, rfl, ?_⟩
      refine ⟨_, rfl, .int (i : Nat), rfl, _, 1, rfl, rfl, .str ⟨#[c]⟩, rfl, _, rfl, rfl, _, _, rfl, rfl, .inl ⟨by omega, by omega⟩, _, _, rfl, rfl, _, _, rfl, rfl, (by show (0 : Int) < 1000000007; decide), s1.new nT, some (.int (i : Nat)), some (.str ⟨#[c]⟩), ?_⟩
      have e : ((sm (l.take (i + 1)) % M62.P : Nat) : Int) = (((sm (l.take i) % M62.P : Nat) : Int) + ((i : Nat) + 1) * ((c : Nat) : Int)) % 1000000007 := by
        rw [sum_step hc]
        have : (((i : Nat) : Int) + 1) * ((c : Nat) : Int) = (((i + 1) * c : Nat) : Int) := by simp
        rw [this]
        generalize (i + 1) * c = k
        simp only [M62.P]
        omega
      rw [e]
      rfl
    · rintro σ H1 ⟨s1, y2, y3, rfl⟩
      have e1 : l.take (S l).cps.size = l := List.take_of_length_le (by simp)
      rw [e1]
      exact ⟨_, rfl, q H1 s1⟩
/-! is_sealable -/
abbrev s_is_sealable : Stmt := topS 12
abbrev N_is_sealable : List Str := ["value", "row"]
theorem sc_is_sealable : FnScope N_is_sealable ["value"] (C8.fnScope s_is_sealable) := C8.fnScope_by (by decide +kernel)
def spSealable (K : PySem.W.Frag) : Sp := fun vs H Q _ => ∃ v, vs = [v] ∧ ((∃ l, v = .str (S l) ∧ l.length ≤ 2000000 ∧ ∀ H', Same H H' → Q (.bl (decide (l.length ≤ 1000000) && l.all ok)) H') ∨ (NoText K H v ∧ Q (.bl false) H))
theorem split_10 (l : List Nat) : Txt.split (S l) "\n" = (TL.spl [10] 0 [] l).map S := by
  rw [show ("\n" : Str) = S [10] by decide +kernel]
  exact split_S (by simp) (by decide)
theorem rows_short : ∀ (l acc : List Nat), ∀ row ∈ TL.spl [10] 0 acc l, row.length ≤ acc.length + l.length
  | [], acc, row, h => by
    rw [TL.spl_nil] at h
    rw [List.mem_singleton.mp h]
    simp
  | c :: l, acc, row, h => by
    by_cases hc : c = 10
    · subst hc
      rw [spl_10] at h
      rcases List.mem_cons.mp h with rfl | h
      · simp
      · have := rows_short l [] row h
        simp only [List.length_nil, List.length_cons] at this ⊢
        omega
    · rw [spl_ne hc] at h
      have := rows_short l (acc ++ [c]) row h
      simp only [List.length_append, List.length_nil, List.length_cons] at this ⊢
      omega
theorem rows_many : ∀ (l acc : List Nat), (TL.spl [10] 0 acc l).length ≤ l.length + 1
  | [], acc => by
    rw [TL.spl_nil]
    simp
  | c :: l, acc => by
    by_cases hc : c = 10
    · subst hc
      rw [spl_10, List.length_cons, List.length_cons]
      have := rows_many l []
      omega
    · rw [spl_ne hc, List.length_cons]
      have := rows_many l (acc ++ [c])
      omega
theorem d_is_sealable (D : DefN K mg "is_sealable" s_is_sealable) (T : Txt K mg aN aS aT) (D_is_signs : C8.Cal P w K mg base 1 "is_signs" spIsSigns []) : C8.Cal P w K mg base 2 "is_sealable" (spSealable K) [] := by
  have nd := sc_is_sealable.nd
  refine cal_by D sc_is_sealable (fun vs H Q E h => ?_) (fun _ _ _ _ _ _ us hl => match us, hl with | [_], _ => rfl) (fun f cdv A outer s H vs Q E hr h => ?_)
  · obtain ⟨v, rfl, _⟩ := h
    rfl
  · obtain ⟨v, rfl, h⟩ := h
    refine ⟨_,
    (pss_cons (ps_if (PW.pt (pw_or (pt_not (pt_val (pe_callB call_isA (by rfl) T.b_isinstance (by decide +kernel) (pa_cons (pv 0) (pa_cons (pe_bltn (v := .ty "str") (by rfl) T.b_str (by decide +kernel) rfl) pa_nil))))) (pw_or1 (pt_cmpR op_gt (pe_callB call_len_str (by rfl) T.b_len (by decide +kernel) (pa_cons (pv 0) pa_nil)) (C8.pe_gc rfl T.g_MOST_SEALED) (nomark _)))))
    (pss_one (ps_ret pe_bl))
    pss_nil)
    (pss_one (ps_ret (pe_callB (cr_all rfl) (by rfl) T.b_all (by decide +kernel) (pa_cons (pe_lc (own := [("row", 1)]) (g := gName 1) (tt := tYes) rfl nd (pi_list (pe_split (pv 0) pe_str)) (blkOk_by (own := [("row", 1)]) (N := N_is_sealable) (sc := C8.fnScope s_is_sealable) (by decide +kernel)) (fun _ _ _ _ _ => (pg_name (i := 1) nd rfl (Or.inl rfl))) (fun _ _ _ _ _ => pts_nil) (fun _ _ _ _ _ => (C8.pe_c D_is_signs hr (by decide) rfl (pa_cons (pv 1) pa_nil)))) pa_nil))))), ?_⟩
    rcases h with ⟨l, rfl, hl, q⟩ | ⟨⟨ty, hty, hk⟩, q⟩
    · refine ⟨.str (S l), rfl, .inl ⟨.str (S l), .ty "str", .type "str", .type "str", true, rfl, .ty "str", .base (.str _), by exact kit_ty rfl, true, rfl, iteF ?_⟩⟩
      have hz : (S l).length ≤ sizeLine := by rw [S_len, sizeLine_eq]; omega
      refine ⟨.str (S l), rfl, S l, rfl, hz, _, _, rfl, rfl, _, rfl, ?_⟩
      rw [S_len]
      by_cases hb : l.length ≤ 1000000
      · rw [decide_eq_false (show ¬ (1000000 : Int) < (l.length : Int) by omega)]
        rw [decide_eq_true hb] at q
        refine iteF ?_
        refine ⟨.str (S l), rfl, ⟨S l, rfl⟩, S l, "\n", rfl, rfl, by decide +kernel, by rw [S_len, sizeLine_eq]; omega, fun p np => ⟨p, rfl, ⟨_, SqL.of upd_same⟩, fun C nC => ?_⟩⟩
        rw [split_10] at nC ⊢
        have s0 := same_upd (o := .lst (((TL.spl [10] 0 [] l).map S).map V.str)) np
        refine lc_listY (K := K) (a := p) (xs := ((TL.spl [10] 0 [] l).map S).map V.str)
          (fun i H' => Same (upd H p (.lst (((TL.spl [10] 0 [] l).map S).map V.str))) H' ∧ H' C = some (.lst (((TL.spl [10] 0 [] l).take i).map fun row => V.bl (row.all pr)))) ⟨same_upd nC, upd_same⟩ (fun i H' _ h => h.1.seq (SqL.of upd_same)) ?_ ?_
        · rintro i x H' hx ⟨s1, g1⟩
          obtain ⟨row, rfl, hrow⟩ : ∃ row, x = .str (S row) ∧ (TL.spl [10] 0 [] l)[i]? = some row := by
            rw [List.getElem?_map, List.getElem?_map] at hx
            cases q : (TL.spl [10] 0 [] l)[i]? with
            | none => rw [q] at hx; cases hx
            | some row => rw [q] at hx; exact ⟨row, (Option.some.inj hx).symm, rfl⟩
          have lt := (List.getElem?_eq_some_iff.mp hrow).1
          have hm := rows_many l []
          have hs := rows_short l [] row (List.mem_of_getElem? hrow)
          refine ⟨rfl, .str (S row), rfl, row, rfl, by simp at hs; omega, fun H2 s2 => ⟨_, s2 _ _ g1, ?_, (s1.trans s2).put nC, ?_⟩⟩
          · rw [List.length_map, List.length_take, sizeLine_eq]
            omega
          · rw [upd_same, List.take_add_one, hrow, List.map_append]
            rfl
        · rintro H' ⟨s1, g1⟩
          rw [List.length_map, List.length_map, List.take_length] at g1
          refine ⟨C, (TL.spl [10] 0 [] l).map fun row => row.all pr, rfl, SqL.of (by rw [List.map_map]; exact g1), ?_⟩
          rw [show ((TL.spl [10] 0 [] l).map fun row => row.all pr).all id = (TL.spl [10] 0 [] l).all (fun row => row.all pr) by rw [List.all_map]; rfl, spl_all]
          exact q H' (s0.trans s1)
      · rw [decide_eq_true (show (1000000 : Int) < (l.length : Int) by omega)]
        rw [decide_eq_false hb] at q
        exact iteT (q H (Same.refl H))
    · refine ⟨v, rfl, .inl ⟨v, .ty "str", .type ty, .type "str", false, rfl, .ty "str", hty, by exact kit_ty hk, false, rfl, iteT (iteT ?_)⟩⟩
      exact q
/-! sealed -/
abbrev s_sealed : Stmt := topS 13
abbrev N_sealed : List Str := ["text"]
theorem sc_sealed : FnScope N_sealed ["text"] (C8.fnScope s_sealed) := C8.fnScope_by (by decide +kernel)
def spSealed (K : PySem.W.Frag) (aT : Addr) : Sp := fun vs H Q E => ∃ v, vs = [v] ∧ ((∃ l, v = .str (S l) ∧ l.length ≤ 2000000 ∧ (l.length ≤ 1000000 → l.all ok = true → ∀ H', Same H H' → Q (.str (S (sld l))) H') ∧
  (¬ (l.length ≤ 1000000 ∧ l.all ok = true) → ∀ H', Same H H' → E (.ref aT) none H')) ∨ (NoText K H v ∧ E (.ref aT) none H))
theorem num_text (n : Nat) : (toString ((n : Nat) : Int) : String) = (toString ((n : Nat) : Int)) := rfl
theorem str_num (n : Nat) : (Str.ofString (toString ((n : Nat) : Int))) = S (numL n) := num_S n
theorem log_small {n : Nat} (h : n < 10 ^ 10) : ((n : Nat) : Int).natAbs.log2 < 1920 := by
  rw [Int.natAbs_natCast]
  by_cases h0 : n = 0
  · rw [h0]; decide
  · exact (Nat.log2_lt h0).mpr (Nat.lt_trans h (by decide +kernel))
theorem mod_small (l : List Nat) : sm l % M62.P < 10 ^ 10 := Nat.lt_trans (Nat.mod_lt _ (by decide)) (by decide)
theorem d_sealed (D : DefN K mg "sealed" s_sealed) (T : Txt K mg aN aS aT) (D_is_sealable : C8.Cal P w K mg base 2 "is_sealable" (spSealable K) []) (D_seal_sum : C8.Cal P w K mg base 1 "seal_sum" spSum []) :
    CalX P w K mg base 3 "sealed" ["text"] (spSealed K aT) := by
  have nd := sc_sealed.nd
  refine calX_by D sc_sealed (fun vs H Q E h => ?_) (fun _ _ _ _ _ _ us hl => match us, hl with | [_], _ => rfl) (fun _ _ _ _ _ _ us hl => match us, hl with | [_], _ => rfl) (fun f cdv A outer s H vs Q E hr h => ?_)
  · obtain ⟨v, rfl, _⟩ := h
    rfl
  · obtain ⟨v, rfl, h⟩ := h
    refine ⟨_,
    (pss_cons (ps_if (pt_not (pt_val (C8.pe_c D_is_sealable hr (by decide) rfl (pa_cons (pv 0) pa_nil))))
    (pss_one (ps_raise rfl (takes_of rfl rfl rfl rfl) (pmk_own0 PySem.F.excBase_ValueError T.x_BadThing T.c1_BadThing T.k_BadThing (raises_own T.sb_BadThing T.ty_BadThing) rfl)))
    pss_nil)
    (pss_one (ps_ret (pe_op op_add_str (pe_op op_add_str (pv 0) pe_str) (pe_callTy call_str_int (by rfl) T.b_str (by decide +kernel) (pa_cons (C8.pe_c D_seal_sum hr (by decide) rfl (pa_cons (pv 0) pa_nil)) pa_nil)))))), ?_⟩
    rcases h with ⟨l, rfl, hl, q1, q2⟩ | ⟨hno, q⟩
    · refine ⟨.str (S l), rfl, _, rfl, .inl ⟨l, rfl, hl, fun H1 s1 => ⟨_, rfl, ?_⟩⟩⟩
      by_cases hc : l.length ≤ 1000000 ∧ l.all ok = true
      · rw [decide_eq_true hc.1, hc.2]
        refine iteF ?_
        refine ⟨.str (S l), rfl, _, _, rfl, rfl, by rw [S_len, sizeLine_eq]; show l.length + 5 ≤ _; omega, .str (S l), rfl, l, rfl, hl, fun H2 s2 => ?_⟩
        refine ⟨_, rfl, log_small (mod_small l), _, _, rfl, rfl, ?_, ?_⟩
        · rw [str_num, S_len, show (S l ++ ("\nsum " : Str)) = S (l ++ 10 :: tg4) by rw [show ("\nsum " : Str) = S (10 :: tg4) by decide +kernel, S_cat], S_len]
          have := last_len l
          simp only [last, List.length_append, List.length_cons] at this ⊢
          rw [sizeLine_eq]
          omega
        · rw [str_num, show ("\nsum " : Str) = S (10 :: tg4) by decide +kernel, S_cat, S_cat]
          rw [show l ++ 10 :: tg4 ++ numL (sm l % M62.P) = sld l by simp [sld, last]]
          exact q1 hc.1 hc.2 H2 (s1.trans s2)
      · rw [show (decide (l.length ≤ 1000000) && l.all ok) = false by
          by_cases h1 : l.length ≤ 1000000
          · have h2 : l.all ok = false := by
              cases z : l.all ok with
              | false => rfl
              | true => exact (hc ⟨h1, z⟩).elim
            rw [h2, Bool.and_false]
          · rw [decide_eq_false h1, Bool.false_and]]
        exact iteT (q2 hc H1 s1)
    · refine ⟨v, rfl, _, rfl, .inr ⟨hno, ⟨_, rfl, iteT q⟩⟩⟩
end
end K62

set_option Elab.async false
set_option linter.all false
set_option maxRecDepth 100000
set_option maxHeartbeats 4000000
namespace K62
open PySem PySem.Spec PyProof.Rows L2 Sw M62 SX
section
variable {P : Program} {w : World} {K : PySem.W.Frag} {mg : Str → Option Value} {base : Heap} {aN aS aT : Addr}
/-! told_number -/
abbrev s_told_number : Stmt := topS 14
abbrev N_told_number : List Str := ["text", "sign"]
theorem sc_told_number : FnScope N_told_number ["text"] (C8.fnScope s_told_number) := C8.fnScope_by (by decide +kernel)
def toldV (t : List Nat) : V := match told t with
  | some n => .int (n : Int)
  | none => .non
def spTold : Sp := fun vs H Q _ => ∃ l, vs = [.str (S l)] ∧ l.length ≤ 2000000 ∧ ∀ H', Same H H' → Q (toldV l) H'
theorem dig_in (c : Nat) : decide (c ∈ ("0123456789" : Str).cps.toList) = dig c := by
  rw [show ("0123456789" : Str).cps.toList = [48, 49, 50, 51, 52, 53, 54, 55, 56, 57] by decide +kernel]
  unfold dig
  rw [← Bool.decide_and]
  congr 1
  simp only [List.mem_cons, List.not_mem_nil, or_false, eq_iff_iff]
  omega
theorem val_lt : ∀ (l : List Nat) (a : Nat), l.all dig = true → l.foldl (fun acc c => acc * 10 + (c - 48)) a < (a + 1) * 10 ^ l.length
  | [], a, _ => by simp
  | c :: l, a, h => by
    rw [List.all_cons, Bool.and_eq_true] at h
    have h1 : 48 ≤ c ∧ c ≤ 57 := by
      have := h.1
      simp only [dig, Bool.and_eq_true, decide_eq_true_eq] at this
      exact this
    have ih := val_lt l (a * 10 + (c - 48)) h.2
    rw [List.foldl_cons, List.length_cons, Nat.pow_succ]
    refine Nat.lt_of_lt_of_le ih ?_
    have : a * 10 + (c - 48) + 1 ≤ (a + 1) * 10 := by omega
    calc (a * 10 + (c - 48) + 1) * 10 ^ l.length ≤ (a + 1) * 10 * 10 ^ l.length := Nat.mul_le_mul_right _ this
      _ = (a + 1) * (10 ^ l.length * 10) := by rw [Nat.mul_assoc, Nat.mul_comm 10]
theorem S_eq {l m : List Nat} : (V.str (S l) = V.str (S m)) ↔ l = m := ⟨fun h => S_inj (V.str.inj h), fun h => by rw [h]⟩
theorem d_told_number (D : DefN K mg "told_number" s_told_number) (T : Txt K mg aN aS aT) : C8.Cal P w K mg base 1 "told_number" spTold [] := by
  have nd := sc_told_number.nd
  refine cal_by D sc_told_number (fun vs H Q E h => ?_) (fun _ _ _ _ _ _ us hl => match us, hl with | [_], _ => rfl) (fun f cdv A outer s H vs Q E hr h => ?_)
  · obtain ⟨l, rfl, _⟩ := h
    rfl
  · obtain ⟨l, rfl, hl, q⟩ := h
    refine ⟨_,
    (pss_cons (ps_if (PW.pt (pw_or (pt_cmpR op_eq (pv 0) pe_str (nomark _)) (pw_or (pt_cmpR op_gt (pe_callB call_len_str (by rfl) T.b_len (by decide +kernel) (pa_cons (pv 0) pa_nil)) (C8.pe_gc rfl T.g_MOST_SUM) (nomark _)) (pw_or1 (pt_not (pt_val (pe_callB (cr_all rfl) (by rfl) T.b_all (by decide +kernel) (pa_cons (pe_lc (own := [("sign", 1)]) (g := gName 1) (tt := tYes) rfl nd (pi_str (pv 0)) (blkOk_by (own := [("sign", 1)]) (N := N_told_number) (sc := C8.fnScope s_told_number) (by decide +kernel)) (fun _ _ _ _ _ => (pg_name (i := 1) nd rfl (Or.inl rfl))) (fun _ _ _ _ _ => pts_nil) (fun _ _ _ _ _ => (pe_cmpR op_in_sign (pv 1) (C8.pe_gc rfl T.g_FIGURES) (by rfl)))) pa_nil))))))))
    (pss_one (ps_ret pe_non))
    pss_nil)
    (pss_one (ps_ret (pe_ifExp (pt_cmpR op_eq (pv 0) (pe_callTy call_str_int (by rfl) T.b_str (by decide +kernel) (pa_cons (pe_callTy call_int_str (by rfl) T.b_int (by decide +kernel) (pa_cons (pv 0) pa_nil)) pa_nil)) (nomark _)) (pe_callTy call_int_str (by rfl) T.b_int (by decide +kernel) (pa_cons (pv 0) pa_nil)) pe_non)))), ?_⟩
    have emp : ("" : Str) = S [] := by decide +kernel
    refine ⟨.str (S l), rfl, rfl, _, rfl, ite2 (fun h0 => ?_) (fun h0 => ?_)⟩
    · have h0 : l = [] := by
        have z := of_decide_eq_true h0
        rw [emp] at z
        exact S_eq.mp z
      have e : toldV l = .non := by
        unfold toldV told
        rw [if_pos (.inl h0)]
      rw [e] at q
      exact iteT (q H (Same.refl H))
    · have h0 : l ≠ [] := fun z => h0 (decide_eq_true (by rw [z, emp]))
      refine ⟨.str (S l), rfl, S l, rfl, by rw [S_len, sizeLine_eq]; omega, _, _, rfl, rfl, _, rfl, ?_⟩
      rw [S_len]
      by_cases hb : 10 < l.length
      · rw [decide_eq_true (show (10 : Int) < (l.length : Int) by omega)]
        have e : toldV l = .non := by
          unfold toldV told
          rw [if_pos (.inr (.inl hb))]
        rw [e] at q
        exact iteT (iteT (q H (Same.refl H)))
      · rw [decide_eq_false (show ¬ (10 : Int) < (l.length : Int) by omega)]
        refine iteF ?_
        refine ⟨.str (S l), rfl, S l, rfl, fun C nC => lc_strY (fun i H' => Same H H' ∧ H' C = some (.lst ((l.take i).map fun c => V.bl (dig c)))) ⟨same_upd nC, upd_same⟩ ?_ ?_⟩
        · rintro i c H' hc ⟨s1, g1⟩
          have hc : l[i]? = some c := by simpa using hc
          have lt := (List.getElem?_eq_some_iff.mp hc).1
          refine ⟨rfl, .str ⟨#[c]⟩, rfl, c, _, rfl, rfl, _, g1, ?_, s1.put nC, ?_⟩
          · rw [List.length_map, List.length_take, sizeLine_eq]
            omega
          · rw [upd_same, List.take_add_one, hc, List.map_append, dig_in]
            rfl
        · rintro H1 ⟨s1, g1⟩
          have e1 : l.take (S l).cps.size = l := List.take_of_length_le (by simp)
          rw [e1] at g1
          refine ⟨C, l.map dig, rfl, SqL.of (by rw [List.map_map]; exact g1), ⟨_, rfl, ?_⟩⟩
          rw [show (l.map dig).all id = l.all dig by rw [List.all_map]; rfl]
          cases ha : l.all dig with
          | false =>
            have e : toldV l = .non := by
              unfold toldV told
              rw [if_pos (.inr (.inr (by rw [ha]; exact Bool.false_ne_true)))]
            rw [e] at q
            exact iteT (q H1 s1)
          | true =>
            refine iteF ?_
            have hi : intText? (S l) = some ((NumText.digitsVal l : Nat) : Int) := int_S ha h0 (by omega)
            have hv : NumText.digitsVal l < 10 ^ 10 := Nat.lt_of_lt_of_le (val_lt l 0 ha) (by rw [Nat.zero_add, Nat.one_mul]; exact Nat.pow_le_pow_right (by decide) (by omega))
            refine ⟨.str (S l), rfl, .str (S l), rfl, S l, _, rfl, hi, by rw [S_len]; omega, _, rfl, log_small hv, rfl, _, rfl, ?_⟩
            rw [str_num]
            have et : told l = if l = numL (NumText.digitsVal l) then some (NumText.digitsVal l) else none := by
              unfold told
              rw [if_neg]
              rintro (z | z | z)
              · exact h0 z
              · exact hb z
              · exact z ha
            by_cases hn : l = numL (NumText.digitsVal l)
            · rw [decide_eq_true (S_eq.mpr hn)]
              rw [if_pos hn] at et
              refine iteT ⟨.str (S l), rfl, S l, _, rfl, hi, by rw [S_len]; omega, ?_⟩
              have e : toldV l = .int ((NumText.digitsVal l : Nat) : Int) := by
                unfold toldV
                rw [et]
              rw [e] at q
              exact q H1 s1
            · rw [decide_eq_false (fun z => hn (S_eq.mp z))]
              rw [if_neg hn] at et
              have e : toldV l = .non := by
                unfold toldV
                rw [et]
              rw [e] at q
              exact iteF (q H1 s1)
/-! unsealed -/
abbrev s_unsealed : Stmt := topS 15
abbrev N_unsealed : List Str := ["text", "cut", "body", "last"]
theorem sc_unsealed : FnScope N_unsealed ["text"] (C8.fnScope s_unsealed) := C8.fnScope_by (by decide +kernel)
def spUnsealed (K : PySem.W.Frag) (aS : Addr) : Sp := fun vs H Q E => ∃ v, vs = [v] ∧ ((∃ l, v = .str (S l) ∧ l.length ≤ 1000000 ∧ (∀ b, opened l = some b → ∀ H', Same H H' → Q (.str (S b)) H') ∧
  (opened l = none → ∀ H', Same H H' → E (.ref aS) none H')) ∨ (NoText K H v ∧ E (.ref aS) none H))
theorem d_unsealed (D : DefN K mg "unsealed" s_unsealed) (T : Txt K mg aN aS aT) (D_is_sealable : C8.Cal P w K mg base 2 "is_sealable" (spSealable K) []) (D_seal_sum : C8.Cal P w K mg base 1 "seal_sum" spSum [])
    (D_told_number : C8.Cal P w K mg base 1 "told_number" spTold []) : CalX P w K mg base 3 "unsealed" ["text"] (spUnsealed K aS) := by
  have nd := sc_unsealed.nd
  refine calX_by D sc_unsealed (fun vs H Q E h => ?_) (fun _ _ _ _ _ _ us hl => match us, hl with | [_], _ => rfl) (fun _ _ _ _ _ _ us hl => match us, hl with | [_], _ => rfl) (fun f cdv A outer s H vs Q E hr h => ?_)
  · obtain ⟨v, rfl, _⟩ := h
    rfl
  · obtain ⟨v, rfl, h⟩ := h
    refine ⟨_,
    (pss_cons (ps_if (PW.pt (pw_or (pt_not (pt_val (pe_callB call_isA (by rfl) T.b_isinstance (by decide +kernel) (pa_cons (pv 0) (pa_cons (pe_bltn (v := .ty "str") (by rfl) T.b_str (by decide +kernel) rfl) pa_nil))))) (pw_or1 (pt_cmpR op_notIn_sign pe_str (pv 0) (by rfl)))))
    (pss_one (ps_raise rfl (takes_of rfl rfl rfl rfl) (pmk_own0 PySem.F.excBase_ValueError T.x_BadSeal T.c1_BadSeal T.k_BadSeal (raises_own T.sb_BadSeal T.ty_BadSeal) rfl)))
    pss_nil)
    (pss_cons (ps_set (i := 1) nd rfl (.inl rfl) (pe_op op_sub (pe_op op_sub (pe_callB call_len_str (by rfl) T.b_len (by decide +kernel) (pa_cons (pv 0) pa_nil)) pe_int) (pe_bm PySem.F.plainAttrs_str PySem.F.slot_str_index PySem.F.type_str_index mt_sindex (pe_revS (pv 0)) (pa_cons pe_str pa_nil))))
    (pss_cons (ps_par (i := 2) (j := 3) (by rfl) nd rfl rfl (by decide) rfl rfl (pa_cons (pe_slice sl_str (pv 0) po_none (po_some (pv 1))) (pa_cons (pe_slice sl_str (pv 0) (po_some (pe_op op_add (pv 1) pe_int)) po_none) pa_nil)) (by rfl))
    (pss_cons (ps_if (PW.pt (pw_or (pt_not (pt_val (C8.pe_c D_is_sealable hr (by decide) rfl (pa_cons (pv 2) pa_nil)))) (pw_or (pt_cmpR op_ne (pe_slice sl_str (pv 3) po_none (po_some pe_int)) pe_str (nomark _)) (pw_or1 (pt_cmpR op_ne (C8.pe_c D_told_number hr (by decide) rfl (pa_cons (pe_slice sl_str (pv 3) (po_some pe_int) po_none) pa_nil)) (C8.pe_c D_seal_sum hr (by decide) rfl (pa_cons (pv 2) pa_nil)) (nomark _))))))
    (pss_one (ps_raise rfl (takes_of rfl rfl rfl rfl) (pmk_own0 PySem.F.excBase_ValueError T.x_BadSeal T.c1_BadSeal T.k_BadSeal (raises_own T.sb_BadSeal T.ty_BadSeal) rfl)))
    pss_nil)
    (pss_one (ps_ret (pv 2))))))), ?_⟩
    rcases h with ⟨l, rfl, hl, q1, q2⟩ | ⟨⟨ty, hty, hk⟩, q⟩
    · have hz : (S l).length ≤ sizeLine := by rw [S_len, sizeLine_eq]; omega
      refine ⟨.str (S l), rfl, .inl ⟨.str (S l), .ty "str", .type "str", .type "str", true, rfl, .ty "str", .base (.str _), by exact kit_ty rfl, true, rfl, iteF ?_⟩⟩
      refine ⟨.str (S l), rfl, 10, S l, by rw [show ("\n" : Str) = ⟨#[10]⟩ by decide +kernel], rfl, _, rfl, ?_⟩
      show (if (!decide (10 ∈ l)) = true then _ else _)
      cases hcut : cutL l with
      | none =>
        rw [decide_eq_false (cut_none_iff.mp hcut)]
        refine iteT (q2 ?_ H (Same.refl H))
        unfold opened
        rw [hcut]
      | some br =>
        obtain ⟨b, r⟩ := br
        obtain ⟨el, hr10⟩ := cut_of hcut
        rw [decide_eq_true (show 10 ∈ l by rw [el]; simp)]
        refine iteF ?_
        obtain ⟨rest, hidx⟩ := rev_index (b := b) hr10
        rw [← el] at hidx
        have hlen : l.length = b.length + (r.length + 1) := by rw [el, List.length_append, List.length_cons]
        -- cut
        refine ⟨.str (S l), rfl, S l, rfl, hz, _, _, rfl, rfl, .str (S l), rfl, S l, rfl, hz, rfl, S l.reverse, "\n", r.length, rest, rfl, rfl, ?_, _, _, rfl, rfl, ?_⟩
        · rw [show ("\n" : Str) = S [10] by decide +kernel]
          exact hidx
        have ecut : ((S l).length : Int) - 1 - (r.length : Int) = ((b.length : Nat) : Int) := by
          rw [S_len]
          omega
        dsimp only
        rw [ecut]
        -- body, last
        refine ⟨.str (S l), rfl, _, rfl, _, rfl, S l, rfl, hz, .str (S l), rfl, _, rfl, _, _, rfl, rfl, _, rfl, S l, rfl, hz, _, _, rfl, ?_⟩
        rw [cut_to, show ((b.length : Nat) : Int) + 1 = ((b.length + 1 : Nat) : Int) by omega, cut_from]
        rw [show l.take b.length = b by rw [el]; simp, show l.drop (b.length + 1) = r by rw [el]; simp]
        have hbl : b.length ≤ 1000000 := by omega
        have hop : opened l = if b.all ok = true ∧ r = last b then some b else none := by
          unfold opened
          rw [hcut]
        refine ⟨.str (S b), rfl, _, rfl, .inl ⟨b, rfl, by omega, fun H1 s1 => ⟨_, rfl, ?_⟩⟩⟩
        rw [decide_eq_true hbl, Bool.true_and]
        cases hall : b.all ok with
        | false =>
          refine iteT (iteT (q2 ?_ H1 s1))
          rw [hop, hall, if_neg (fun z => Bool.false_ne_true z.1)]
        | true =>
          refine iteF ?_
          have hzr : (S r).length ≤ sizeLine := by rw [S_len, sizeLine_eq]; omega
          refine ⟨.str (S r), rfl, 4, rfl, S r, rfl, hzr, rfl, _, rfl, ?_⟩
          rw [show (4 : Int) = ((4 : Nat) : Int) from rfl, cut_to, show ("sum " : Str) = S tg4 by decide +kernel]
          by_cases h4 : r.take 4 = tg4
          · rw [decide_eq_true (S_eq.mpr h4)]
            refine iteF ?_
            refine ⟨.str (S r), rfl, 4, rfl, S r, rfl, hzr, r.drop 4, ?_, by rw [List.length_drop]; omega, fun H2 s2 => ?_⟩
            · rw [show (4 : Int) = ((4 : Nat) : Int) from rfl, cut_from]
              rfl
            refine ⟨.str (S b), rfl, b, rfl, by omega, fun H3 s3 => ?_⟩
            have s13 := (s1.trans s2).trans s3
            have scal1 : scal (toldV (r.drop 4)) (.int ((sm b % M62.P : Nat) : Int)) = true := by
              unfold toldV
              cases told (r.drop 4) <;> rfl
            refine ⟨scal1, _, rfl, ?_⟩
            by_cases hlast : r = last b
            · have ht := ((last_iff r b).mp hlast).2
              have e : toldV (r.drop 4) = .int ((sm b % M62.P : Nat) : Int) := by
                unfold toldV
                rw [ht]
              rw [e, decide_eq_true rfl]
              refine iteF ?_
              refine ⟨.str (S b), rfl, q1 b ?_ H3 s13⟩
              rw [hop, if_pos ⟨hall, hlast⟩]
            · have e : toldV (r.drop 4) ≠ .int ((sm b % M62.P : Nat) : Int) := fun z => by
                unfold toldV at z
                cases ht : told (r.drop 4) with
                | none => rw [ht] at z; cases z
                | some n =>
                  rw [ht] at z
                  have z2 : n = sm b % M62.P := Int.ofNat.inj (V.int.inj z)
                  exact hlast ((last_iff r b).mpr ⟨h4, by rw [ht, z2]⟩)
              rw [decide_eq_false e]
              refine iteT (q2 ?_ H3 s13)
              rw [hop, if_neg (fun z => hlast z.2)]
          · rw [decide_eq_false (fun z => h4 (S_eq.mp z))]
            refine iteT (iteT (q2 ?_ H1 s1))
            rw [hop, if_neg (fun z => h4 ((last_iff r b).mp z.2).1)]
    · refine ⟨v, rfl, .inl ⟨v, .ty "str", .type ty, .type "str", false, rfl, .ty "str", hty, by exact kit_ty hk, false, rfl, iteT (iteT ?_)⟩⟩
      exact q
/-! _law_k62_sum -/
abbrev s__law_k62_sum : Stmt := topS 23
abbrev N__law_k62_sum : List Str := ["text", "found", "place", "sign"]
theorem sc__law_k62_sum : FnScope N__law_k62_sum ["text"] (C8.fnScope s__law_k62_sum) := C8.fnScope_by (by decide +kernel)
def spLSum : Sp := fun vs H Q _ => ∃ l, vs = [.str (S l)] ∧ l.length ≤ 2000000 ∧ ∀ H', Same H H' → Q (.str (S (numL (sm l % M62.P)))) H'
theorem d_lsum (D : DefN K mg "_law_k62_sum" s__law_k62_sum) (T : Txt K mg aN aS aT) : C8.Cal P w K mg base 1 "_law_k62_sum" spLSum [] := by
  have nd := sc__law_k62_sum.nd
  refine cal_by D sc__law_k62_sum (fun vs H Q E h => ?_) (fun _ _ _ _ _ _ us hl => match us, hl with | [_], _ => rfl) (fun f cdv A outer s H vs Q E hr h => ?_)
  · obtain ⟨l, rfl, _⟩ := h
    rfl
  · obtain ⟨l, rfl, hl, q⟩ := h
    refine ⟨_,
    (pss_cons (ps_set (i := 1) nd rfl (.inl rfl) pe_int)
    (pss_cons (ps_for PassesOwn.never rfl (pi_enumS (by rfl) T.b_enumerate (pa_cons (pv 0) pa_nil)) (pg_tup rfl (pgs_cons (pg_name (i := 2) nd rfl (.inl rfl)) (pgs_cons (pg_name (i := 3) nd rfl (.inl rfl)) pgs_nil)))
    (pss_one (ps_set (i := 1) nd rfl (.inl rfl) (pe_op op_add (pv 1) (pe_op op_mul (pe_op op_add (pv 2) pe_int) (pe_callB call_ord (by rfl) T.b_ord (by decide +kernel) (pa_cons (pv 3) pa_nil)))))))
    (pss_one (ps_ret (pe_callTy call_str_int (by rfl) T.b_str (by decide +kernel) (pa_cons (pe_op op_mod (pe_callTy call_int1 (by rfl) T.b_int (by decide +kernel) (pa_cons (pv 1) pa_nil)) pe_int) pa_nil)))))), ?_⟩
    refine ⟨.str (S l), rfl, S l, rfl, ?_⟩
    refine for_enumS (fun i σ H' => Same H H' ∧ ∃ y2 y3, σ = [some (.str (S l)), some (.int ((sm (l.take i) : Nat) : Int)), y2, y3]) ⟨Same.refl H, none, none, rfl⟩ ?_ ?_
    · rintro i c σ H1 Tp hc ⟨s1, y2, y3, rfl⟩ nT
      have hc : l[i]? = some c := by simpa using hc
      have lt := (List.getElem?_eq_some_iff.mp hc).1
      refine ⟨Tp, _, rfl, SqT.of upd_same, rfl, _, _, rfl, _, _, rfl, rfl, ?_⟩
      refine ⟨_, rfl, .int (i : Nat), rfl, _, 1, rfl, rfl, .str ⟨#[c]⟩, rfl, _, rfl, rfl, _, _, rfl, rfl, .inl ⟨by omega, by omega⟩, _, _, rfl, rfl, s1.new nT, some (.int (i : Nat)), some (.str ⟨#[c]⟩), ?_⟩
      have e : ((sm (l.take (i + 1)) : Nat) : Int) = ((sm (l.take i) : Nat) : Int) + ((i : Nat) + 1) * ((c : Nat) : Int) := by
        rw [sum_step hc]
        simp
      rw [e]
      rfl
    · rintro σ H1 ⟨s1, y2, y3, rfl⟩
      have e1 : l.take (S l).cps.size = l := List.take_of_length_le (by simp)
      rw [e1]
      refine ⟨_, rfl, .inl ⟨_, rfl, _, 1000000007, rfl, rfl, (by show (0 : Int) < 1000000007; decide), ?_⟩⟩
      have e : ((sm l : Nat) : Int) % 1000000007 = ((sm l % M62.P : Nat) : Int) := by
        simp only [M62.P]
        omega
      dsimp only
      rw [e]
      refine ⟨_, rfl, log_small (mod_small l), ?_⟩
      rw [str_num]
      exact q H1 s1
/-! _law_k62_text -/
abbrev s__law_k62_text : Stmt := topS 24
abbrev N__law_k62_text : List Str := ["state", "found", "turn", "way", "lap"]
theorem sc__law_k62_text : FnScope N__law_k62_text ["state"] (C8.fnScope s__law_k62_text) := C8.fnScope_by (by decide +kernel)
def spText : Sp := fun vs H Q _ => ∃ (a G : Addr) (n : Nat), vs = [.ref a] ∧ Sta H a G (n + 100) ∧
  ∀ l H', l.all ok = true → l.length ≤ 60 → Sta H' a G n → KpS a G H H' → Q (.str (S l)) H'
theorem sign_ok {z : Str} (h : z ∈ signs.cps.toList.map fun c => (⟨#[c]⟩ : Str)) : ∃ c, z = S [c] ∧ ok c = true := by
  obtain ⟨c, hc, rfl⟩ := List.mem_map.mp h
  refine ⟨c, rfl, ?_⟩
  have : signs.cps.toList.all ok = true := by decide +kernel
  exact List.all_eq_true.mp this c hc
def someTexts : List Str := ["\n", "\nsum ", "sum 5", "\nsum 0", "\n\n", " "]
theorem some_ok {z : Str} (h : z ∈ someTexts) : ∃ l, z = S l ∧ l.all ok = true ∧ l.length ≤ 6 := by
  have h0 : someTexts.all (fun z => z.cps.toList.all ok && decide (z.cps.toList.length ≤ 6)) = true := by decide +kernel
  have h1 := List.all_eq_true.mp h0 z h
  rw [Bool.and_eq_true, decide_eq_true_eq] at h1
  exact ⟨z.cps.toList, (S_tl z).symm, h1.1, h1.2⟩
theorem d_text (D : DefN K mg "_law_k62_text" s__law_k62_text) (T : Txt K mg aN aS aT) (D__law_draw : C8.Cal P w K mg base 2 "_law_draw" spDraw []) (D__law_pick : C8.Cal P w K mg base 3 "_law_pick" (spPick K) [])
    (D__law_tx_signs : C8.Cal P w K mg base 1 "_law_tx_signs" spSigns []) : C8.Cal P w K mg base 4 "_law_k62_text" spText [] := by
  have nd := sc__law_k62_text.nd
  refine cal_by D sc__law_k62_text (fun vs H Q E h => ?_) (fun _ _ _ _ _ _ us hl => match us, hl with | [_], _ => rfl) (fun f cdv A outer s H vs Q E hr h => ?_)
  · obtain ⟨a, G, n, rfl, _⟩ := h
    rfl
  · obtain ⟨a, G, n, rfl, hS, q⟩ := h
    refine ⟨_,
    (pss_cons (ps_set (i := 1) nd rfl (.inl rfl) pe_str)
    (pss_cons (ps_for PassesOwn.never rfl (pi_range1 (by rfl) T.b_range (pa_cons (C8.pe_c D__law_draw hr (by decide) rfl (pa_cons (pv 0) (pa_cons pe_int pa_nil))) pa_nil)) (pg_name (i := 2) nd rfl (.inl rfl))
    (pss_cons (ps_set (i := 3) nd rfl (.inl rfl) (C8.pe_c D__law_draw hr (by decide) rfl (pa_cons (pv 0) (pa_cons pe_int pa_nil))))
      (pss_cons (ps_if (pt_cmpR op_eq (pv 3) pe_int (nomark _))
      (pss_cons (ps_set (i := 1) nd rfl (.inl rfl) (pe_op op_add_str (pv 1) (C8.pe_c D__law_pick hr (by decide) rfl (pa_cons (pv 0) (pa_cons (pe_lst (pa_cons pe_str (pa_cons pe_str (pa_cons pe_str (pa_cons pe_str (pa_cons pe_str (pa_cons pe_str pa_nil))))))) pa_nil)))))
        (pss_one ps_continue))
      pss_nil)
      (pss_one (ps_for PassesOwn.never rfl (pi_range1 (by rfl) T.b_range (pa_cons (pe_op op_add pe_int (C8.pe_c D__law_draw hr (by decide) rfl (pa_cons (pv 0) (pa_cons pe_int pa_nil)))) pa_nil)) (pg_name (i := 4) nd rfl (.inl rfl))
      (pss_one (ps_set (i := 1) nd rfl (.inl rfl) (pe_op op_add_str (pv 1) (C8.pe_c D__law_pick hr (by decide) rfl (pa_cons (pv 0) (pa_cons (pe_c0 D__law_tx_signs hr (by decide) rfl) pa_nil)))))))))))
    (pss_one (ps_ret (pv 1))))), ?_⟩
    have emp : ("" : Str) = S [] := by decide +kernel
    rw [emp]
    refine ⟨.ref a, rfl, a, G, n + 99, 9, rfl, by decide, by decide, hS, fun r H1 r0 r1 s1 k1 => ?_⟩
    refine ⟨r, rfl, by omega, by omega, ?_⟩
    obtain ⟨m, rfl⟩ : ∃ m : Nat, r = (m : Int) := ⟨r.toNat, by omega⟩
    refine for_range (lo := 0) (n := ((m : Nat) : Int).toNat) (fun i σ H2 => i ≤ 8 ∧ Sta H2 a G (n + 99 - 9 * i) ∧ KpS a G H H2 ∧ ∃ l y2 y3 y4, σ = [some (.ref a), some (.str (S l)), y2, y3, y4] ∧ l.all ok = true ∧ l.length ≤ 6 * i)
      ⟨by omega, s1, k1, [], none, none, none, rfl, rfl, by simp⟩ ?_ ?_
    · rintro i σ H2 hi ⟨i8, s2, k2, l, y2, y3, y4, rfl, hok, hlen⟩
      have hi : i < m := by simpa using hi
      obtain ⟨k, hk⟩ : ∃ k, n + 99 - 9 * i = k + 9 := ⟨n + 90 - 9 * i, by omega⟩
      rw [hk] at s2
      refine ⟨.ref a, rfl, a, G, k + 8, 5, rfl, by decide, by decide, s2, fun w H3 w0 w1 s3 k3 => ?_⟩
      have k13 := k2.trans k3
      refine ⟨.int w, rfl, rfl, _, rfl, ite2 (fun hw => ?_) (fun hw => ?_)⟩
      · refine ⟨.str (S l), rfl, .ref a, rfl, by show 6 ≤ sizeLine; decide, fun p np => ?_⟩
        have hpa : p ≠ a := by
          obtain ⟨C, gs, cs, l0, t0, h1, h2, _⟩ := s3.ex
          exact (ne_of_none h1 np).symm
        have hpG : p ≠ G := by
          obtain ⟨C, gs, cs, l0, t0, h1, h2, _⟩ := s3.ex
          exact (ne_of_none h2 np).symm
        refine ⟨a, G, k + 7, .ref p, someTexts, rfl, s3.new np, by simp [someTexts], by simp [someTexts], .inr ⟨p, rfl, hpa, hpG, upd_same⟩, fun z H4 hz s4 k4 => ?_⟩
        obtain ⟨lz, rfl, hz1, hz2⟩ := some_ok hz
        refine ⟨_, _, rfl, rfl, by rw [S_len, S_len, sizeLine_eq]; omega, ?_⟩
        rw [S_cat]
        refine ⟨by omega, s4.mono (by omega), (k13.new np).trans k4, l ++ lz, _, _, _, rfl, ?_, ?_⟩
        · rw [List.all_append, hok, hz1]
          rfl
        · rw [List.length_append]
          omega
      · refine ⟨.ref a, rfl, a, G, k + 7, 6, rfl, by decide, by decide, s3, fun j H4 j0 j1 s4 k4 => ?_⟩
        refine ⟨1, j, rfl, rfl, 1 + j, rfl, by omega, by omega, ?_⟩
        obtain ⟨jn, rfl⟩ : ∃ jn : Nat, j = (jn : Int) := ⟨j.toNat, by omega⟩
        refine for_range (lo := 0) (n := (1 + ((jn : Nat) : Int)).toNat) (fun i2 σ H5 => i2 ≤ 6 ∧ Sta H5 a G (k + 7 - i2) ∧ KpS a G H H5 ∧ ∃ l2 z2 z3 z4, σ = [some (.ref a), some (.str (S l2)), z2, z3, z4] ∧ l2.all ok = true ∧ l2.length ≤ l.length + i2)
          ⟨by omega, s4, k13.trans k4, l, _, _, _, rfl, hok, by omega⟩ ?_ ?_
        · rintro i2 σ H5 hi2 ⟨i6, s5, k5, l2, z2, z3, z4, rfl, hok2, hlen2⟩
          obtain ⟨k0, hk0⟩ : ∃ k0, k + 7 - i2 = k0 + 1 := ⟨k + 6 - i2, by omega⟩
          rw [hk0] at s5
          refine ⟨.str (S l2), rfl, .ref a, rfl, rfl, ?_⟩
          refine ⟨a, G, k0, .str signs, _, rfl, s5, by decide +kernel, by decide +kernel, .inl ⟨signs, rfl, rfl⟩, fun z H6 hz s6 k6 => ?_⟩
          obtain ⟨c, rfl, hc⟩ := sign_ok hz
          refine ⟨_, _, rfl, rfl, by rw [S_len, S_len, sizeLine_eq]; show l2.length + 1 ≤ _; omega, ?_⟩
          rw [S_cat]
          refine ⟨by omega, s6.mono (by omega), k5.trans k6, l2 ++ [c], _, _, _, rfl, ?_, ?_⟩
          · rw [List.all_append, hok2]
            simp [hc]
          · rw [List.length_append, List.length_singleton]
            omega
        · rintro σ H5 ⟨i6, s5, k5, l2, z2, z3, z4, rfl, hok2, hlen2⟩
          exact ⟨by omega, s5.mono (by omega), k5, l2, _, _, _, rfl, hok2, by omega⟩
    · rintro σ H2 ⟨i8, s2, k2, l, y2, y3, y4, rfl, hok, hlen⟩
      exact ⟨.str (S l), rfl, q l H2 hok (by omega) (s2.mono (by omega)) k2⟩
end
end K62

set_option Elab.async false
set_option linter.all false
set_option maxRecDepth 100000
set_option maxHeartbeats 4000000
namespace K62
open PySem PySem.Spec PyProof.Rows L2 Sw M62 SX
section
variable {P : Program} {w : World} {K : PySem.W.Frag} {mg : Str → Option Value} {base : Heap} {aN aS aT : Addr}
/-! _law_k62_opened -/
abbrev s__law_k62_opened : Stmt := topS 25
abbrev N__law_k62_opened : List Str := ["text", "rows", "body", "sign"]
theorem sc__law_k62_opened : FnScope N__law_k62_opened ["text"] (C8.fnScope s__law_k62_opened) := C8.fnScope_by (by decide +kernel)
def openV (l : List Nat) : V := match opened l with
  | some b => .str (S b)
  | none => .non
def spOpened : Sp := fun vs H Q _ => ∃ l, vs = [.str (S l)] ∧ l.length ≤ 1000000 ∧ ∀ H', Same H H' → Q (openV l) H'
theorem nok_eq (c : Nat) : (!decide (c = 10) && !(decide (32 ≤ c) && decide (c ≤ 126))) = !ok c := by
  unfold ok pr
  cases decide (c = 10) <;> cases decide (32 ≤ c) <;> cases decide (c ≤ 126) <;> rfl
theorem filt_nil (l : List Nat) : (l.filter fun c => !ok c).isEmpty = l.all ok := by
  induction l with
  | nil => rfl
  | cons c l ih =>
    rw [List.filter_cons, List.all_cons]
    cases h : ok c with
    | true => simpa using ih
    | false => simp
theorem d_opened (D : DefN K mg "_law_k62_opened" s__law_k62_opened) (T : Txt K mg aN aS aT) (D__law_k62_sum : C8.Cal P w K mg base 1 "_law_k62_sum" spLSum []) : C8.Cal P w K mg base 2 "_law_k62_opened" spOpened [] := by
  have nd := sc__law_k62_opened.nd
  refine cal_by D sc__law_k62_opened (fun vs H Q E h => ?_) (fun _ _ _ _ _ _ us hl => match us, hl with | [_], _ => rfl) (fun f cdv A outer s H vs Q E hr h => ?_)
  · obtain ⟨l, rfl, _⟩ := h
    rfl
  · obtain ⟨l, rfl, hl, q⟩ := h
    refine ⟨_,
    (pss_cons (ps_set (i := 1) nd rfl (.inl rfl) (pe_split (pv 0) pe_str))
    (pss_cons (ps_set (i := 2) nd rfl (.inl rfl) (pe_join pe_str (pe_slice sl_list (pv 1) po_none (po_some (pe_un un_neg pe_int)))))
    (pss_cons (ps_if (PW.pt (pw_or (pt_cmpR op_eq (pe_callB call_len_seq (by rfl) T.b_len (by decide +kernel) (pa_cons (pv 1) pa_nil)) pe_int (nomark _)) (pw_or1 (pt_cmpR (op_neD hr.units) (pe_lc (own := [("sign", 3)]) (g := gName 3) rfl nd (pi_str (pv 2)) (blkOk_by (own := [("sign", 3)]) (N := N__law_k62_opened) (sc := C8.fnScope s__law_k62_opened) (by decide +kernel)) (fun _ _ _ _ _ => (pg_name (i := 3) nd rfl (Or.inl rfl))) (fun _ _ _ _ _ => (pts_one (PW.pt (pw_and (pt_cmpR op_ne (pv 3) pe_str (nomark _)) (pw_and1 (pt_not (pt_chain op_le op_le pe_int (pe_callB call_ord (by rfl) T.b_ord (by decide +kernel) (pa_cons (pv 3) pa_nil)) pe_int))))))) (fun _ _ _ _ _ => pe_int)) (pe_lst pa_nil) (nomark _)))))
    (pss_one (ps_ret pe_non))
    pss_nil)
    (pss_one (ps_ret (pe_ifExp (pt_cmpR op_eq (pe_ix ix_list (pv 1) (pe_un un_neg pe_int) (fun _ _ => rfl)) (pe_op op_add_str pe_str (C8.pe_c D__law_k62_sum hr (by decide) rfl (pa_cons (pv 2) pa_nil))) (nomark _)) (pv 2) pe_non)))))), ?_⟩
    -- rows
    refine ⟨.str (S l), rfl, ⟨S l, rfl⟩, S l, "\n", rfl, rfl, by decide +kernel, by rw [S_len, sizeLine_eq]; omega, fun p np => ?_⟩
    rw [split_10]
    have hm := rows_many l []
    -- body = "\n".join(rows[:-1])
    obtain ⟨X, r0, hX, hlenX⟩ : ∃ X r0, TL.spl [10] 0 [] l = X ++ [r0] ∧ (TL.spl [10] 0 [] l).length = X.length + 1 := by
      have hne : TL.spl [10] 0 [] l ≠ [] := by
        intro z
        by_cases h : 10 ∈ l
        · cases hc : cutL l with
          | none => exact cut_none_iff.mp hc h
          | some br =>
            obtain ⟨b, r⟩ := br
            obtain ⟨rfl, hr⟩ := cut_of hc
            obtain ⟨X, h1, h2, -⟩ := spl_cut hr b []
            rw [h2] at z
            simp at z
        · rw [spl_free [] h] at z
          cases z
      refine ⟨(TL.spl [10] 0 [] l).dropLast, (TL.spl [10] 0 [] l).getLast hne, (List.dropLast_concat_getLast hne).symm, ?_⟩
      rw [List.length_dropLast]
      have := List.length_pos_iff.mpr hne
      omega
    have ecut : cutV (((TL.spl [10] 0 [] l).map S).map V.str) none (some (-1)) = (X.map S).map V.str := by
      unfold cutV
      have hn : (((TL.spl [10] 0 [] l).map S).map V.str).length = X.length + 1 := by rw [List.length_map, List.length_map, hlenX]
      have hi : HT.sIx (((TL.spl [10] 0 [] l).map S).map V.str).length (((TL.spl [10] 0 [] l).map S).map V.str).length (some (-1)) = X.length := by
        rw [hn]
        simp only [HT.sIx]
        split <;> omega
      rw [HT.sIx_none, hi, List.drop_zero, Nat.sub_zero, hX, List.map_append, List.map_append]
      rw [List.take_append_of_le_length (by simp)]
      exact List.take_of_length_le (by simp)
    have sumrows : ∀ (l acc : List Nat), ((TL.spl [10] 0 acc l).map List.length).sum ≤ acc.length + l.length := by
      intro l
      induction l with
      | nil => intro acc; rw [TL.spl_nil]; simp
      | cons c l ih =>
        intro acc
        by_cases hc : c = 10
        · subst hc
          have := ih []
          rw [spl_10, List.map_cons, List.sum_cons]
          simp only [List.length_nil, List.length_cons] at this ⊢
          omega
        · have := ih (acc ++ [c])
          rw [spl_ne hc]
          simp only [List.length_append, List.length_nil, List.length_cons] at this ⊢
          omega
    have nl : ("\n" : Str) = S [10] := by decide +kernel
    have s0 := same_upd (o := .lst (((TL.spl [10] 0 [] l).map S).map V.str)) np
    refine ⟨⟨_, rfl⟩, .ref p, rfl, 1, rfl, -1, rfl, p, _, rfl, SqL.of upd_same, fun p2 np2 => ?_⟩
    rw [ecut]
    have s1 := s0.trans (same_upd (o := .lst ((X.map S).map V.str)) np2)
    have hsum := sumrows l []
    rw [hX, List.map_append, List.sum_append] at hsum
    refine ⟨_, p2, X.map S, rfl, rfl, .inl (SqL.of upd_same), ?_, ?_⟩
    · rw [List.length_map, show ((X.map S).map (·.length)) = X.map List.length by rw [List.map_map]; exact List.map_congr_left fun x _ => S_len x, show ("\n" : Str).length = 1 by decide +kernel]
      simp only [List.length_nil] at hsum
      omega
    have gp : (upd (upd H p (.lst (((TL.spl [10] 0 [] l).map S).map V.str))) p2 (.lst ((X.map S).map V.str))) p = some (.lst (((TL.spl [10] 0 [] l).map S).map V.str)) := at_new np2 upd_same
    generalize hH1 : upd (upd H p (.lst (((TL.spl [10] 0 [] l).map S).map V.str))) p2 (.lst ((X.map S).map V.str)) = H1 at s1 gp
    rw [nl, join_S]
    -- if
    refine ⟨.ref p, rfl, p, _, rfl, .inl (SqL.of gp), rfl, _, rfl, ?_⟩
    rw [List.length_map, List.length_map]
    by_cases hone : 10 ∈ l
    · cases hcut : cutL l with
      | none => exact (cut_none_iff.mp hcut hone).elim
      | some br =>
        obtain ⟨b, r⟩ := br
        obtain ⟨el, hr10⟩ := cut_of hcut
        obtain ⟨X2, hX2, hX3, hX4⟩ := spl_cut hr10 b []
        rw [← el, hX] at hX3
        obtain ⟨rfl, e2⟩ := List.append_inj' hX3 rfl
        obtain rfl : r0 = r := (List.cons.inj e2).1
        rw [hX4, List.nil_append]
        have hbl : b.length ≤ l.length := by rw [el, List.length_append]; omega
        rw [decide_eq_false (show ¬ V.int (((TL.spl [10] 0 [] l).length : Nat) : Int) = V.int 1 by
          intro z
          have z2 := V.int.inj z
          exact (spl_one l).mp (by omega) hone)]
        refine iteF ?_
        refine ⟨.str (S b), rfl, S b, rfl, fun C nC => lc_str (fun i H' => Same H1 H' ∧ H' C = some (.lst ((((b.take i).filter fun c => !ok c).map fun _ => (1 : Int)).map V.int))) ⟨same_upd nC, upd_same⟩ ?_ ?_⟩
        · rintro i c H' hc ⟨s2, g2⟩
          have hc : b[i]? = some c := by simpa using hc
          have lt := (List.getElem?_eq_some_iff.mp hc).1
          have stp : (b.take (i + 1)).filter (fun c => !ok c) = (b.take i).filter (fun c => !ok c) ++ [c].filter (fun c => !ok c) := by
            rw [List.take_add_one, hc, List.filter_append]
            rfl
          have kept : ok c = false → ∃ acc, H' C = some (.lst acc) ∧ acc.length < sizeLine ∧ (Same H1 (upd H' C (.lst (acc ++ [V.int 1]))) ∧ upd H' C (.lst (acc ++ [V.int 1])) C = some (.lst ((((b.take (i + 1)).filter fun c => !ok c).map fun _ => (1 : Int)).map V.int))) := fun hk => by
            refine ⟨_, g2, ?_, s2.put nC, ?_⟩
            · rw [List.length_map, List.length_map, sizeLine_eq]
              have := List.length_filter_le (fun c => !ok c) (b.take i)
              rw [List.length_take] at this
              omega
            · rw [upd_same, stp, List.map_append, List.map_append]
              simp [hk]
          have left_ : ok c = true → (Same H1 H' ∧ H' C = some (.lst ((((b.take (i + 1)).filter fun c => !ok c).map fun _ => (1 : Int)).map V.int))) := fun hk => by
            refine ⟨s2, ?_⟩
            rw [stp, show [c].filter (fun c => !ok c) = [] by simp [hk], List.append_nil]
            exact g2
          refine ⟨rfl, .str ⟨#[c]⟩, rfl, rfl, _, rfl, ?_⟩
          by_cases h10 : c = 10
          · have hk : ok c = true := by rw [h10]; rfl
            rw [decide_eq_true (show V.str (⟨#[c]⟩ : Str) = V.str (S [10]) by rw [h10])]
            exact iteF (iteF (left_ hk))
          · rw [decide_eq_false (show ¬ V.str (⟨#[c]⟩ : Str) = V.str (S [10]) from fun z => h10 (List.cons.inj (S_eq (l := [c]) (m := [10]) |>.mp z)).1)]
            refine iteT ?_
            refine ⟨.str ⟨#[c]⟩, rfl, ⟨#[c]⟩, rfl, rfl, 32, _, rfl, rfl, _, rfl, ?_⟩
            have okc : ok c = pr c := by unfold ok; rw [decide_eq_false h10, Bool.false_or]
            by_cases h32 : 32 ≤ c
            · rw [decide_eq_true (show (32 : Int) ≤ ((((⟨#[c]⟩ : Str).cps.getD 0 0 : Nat)) : Int) by show (32 : Int) ≤ (c : Int); omega)]
              refine iteT ⟨_, 126, rfl, rfl, _, rfl, ?_⟩
              by_cases h126 : c ≤ 126
              · have hk : ok c = true := by rw [okc]; unfold pr; rw [decide_eq_true h32, decide_eq_true h126]; rfl
                rw [decide_eq_true (show ((((⟨#[c]⟩ : Str).cps.getD 0 0 : Nat)) : Int) ≤ 126 by show (c : Int) ≤ 126; omega)]
                exact iteF (left_ hk)
              · have hk : ok c = false := by rw [okc]; unfold pr; rw [decide_eq_false h126, Bool.and_false]
                rw [decide_eq_false (show ¬ ((((⟨#[c]⟩ : Str).cps.getD 0 0 : Nat)) : Int) ≤ 126 by show ¬ (c : Int) ≤ 126; omega)]
                exact iteT (kept hk)
            · have hk : ok c = false := by rw [okc]; unfold pr; rw [decide_eq_false h32, Bool.false_and]
              rw [decide_eq_false (show ¬ (32 : Int) ≤ ((((⟨#[c]⟩ : Str).cps.getD 0 0 : Nat)) : Int) by show ¬ (32 : Int) ≤ (c : Int); omega)]
              exact iteF ⟨_, rfl, iteT (kept hk)⟩
        · rintro H2 ⟨s2, g2⟩
          have e1 : b.take (S b).cps.size = b := List.take_of_length_le (by simp)
          rw [e1] at g2
          refine ⟨Nat.zero_le _, fun p3 np3 => ?_⟩
          refine ⟨_, _, dp_ints (SqL.of (at_new np3 g2)), dp_nil upd_same, shaped_ints _, shaped_nil, _, rfl, ?_⟩
          rw [eqv_nil, List.isEmpty_map, filt_nil]
          have s3 := (s1.trans s2).new (o := .lst []) np3
          have hop : opened l = if b.all ok = true ∧ r0 = last b then some b else none := by
            unfold opened
            rw [hcut]
          cases hall : b.all ok with
          | false =>
            have e : openV l = .non := by unfold openV; rw [hop, hall, if_neg (fun z => Bool.false_ne_true z.1)]
            rw [e] at q
            exact iteT (q _ s3)
          | true =>
            refine iteF ?_
            have gp3 := at_new (o := .lst []) np3 (s2 _ _ gp)
            refine ⟨.ref p, rfl, 1, rfl, p, _, -1, .str (S r0), rfl, rfl, SqL.of gp3, ?_, .str (S b), rfl, b, rfl, by omega, fun H3 s4 => ?_⟩
            · rw [hX, List.map_append, List.map_append]
              exact atI_last _ _
            refine ⟨_, _, rfl, rfl, ?_, rfl, _, rfl, ?_⟩
            · rw [show ("sum " : Str) = S tg4 by decide +kernel, S_len, S_len, sizeLine_eq]
              have := last_len b
              simp only [last, List.length_append] at this
              omega
            rw [show ("sum " : Str) = S tg4 by decide +kernel, S_cat]
            by_cases hlast : r0 = last b
            · rw [decide_eq_true (show V.str (S r0) = V.str (S (tg4 ++ numL (sm b % M62.P))) from S_eq.mpr hlast)]
              have e : openV l = .str (S b) := by unfold openV; rw [hop, if_pos ⟨hall, hlast⟩]
              rw [e] at q
              exact iteT ⟨_, rfl, q H3 (s3.trans s4)⟩
            · rw [decide_eq_false (show ¬ V.str (S r0) = V.str (S (tg4 ++ numL (sm b % M62.P))) from fun z => hlast (S_eq.mp z))]
              have e : openV l = .non := by unfold openV; rw [hop, if_neg (fun z => hlast z.2)]
              rw [e] at q
              exact iteF (q H3 (s3.trans s4))
    · rw [(spl_one l).mpr hone, decide_eq_true (show V.int ((1 : Nat) : Int) = V.int 1 from rfl)]
      have e : openV l = .non := by
        unfold openV opened
        rw [cut_none hone]
      rw [e] at q
      exact iteT (iteT (q H1 s1))
/-! _law_k62_near -/
abbrev s__law_k62_near : Stmt := topS 26
abbrev N__law_k62_near : List Str := ["state", "text", "at", "sign", "way"]
theorem sc__law_k62_near : FnScope N__law_k62_near ["state", "text"] (C8.fnScope s__law_k62_near) := C8.fnScope_by (by decide +kernel)
def spNear : Sp := fun vs H Q _ => ∃ (a G : Addr) (n : Nat) (l : List Nat), vs = [.ref a, .str (S l)] ∧ l ≠ [] ∧ l.length ≤ 1000000 ∧ Sta H a G (n + 4) ∧
  ∀ l' H', Nr l l' → Sta H' a G n → KpS a G H H' → Q (.str (S l')) H'
theorem sign_nl {z : Str} (h : z ∈ (signs ++ ("\n" : Str)).cps.toList.map fun c => (⟨#[c]⟩ : Str)) : ∃ c, z = S [c] ∧ ok c = true := by
  obtain ⟨c, hc, rfl⟩ := List.mem_map.mp h
  refine ⟨c, rfl, ?_⟩
  have : (signs ++ ("\n" : Str)).cps.toList.all ok = true := by decide +kernel
  exact List.all_eq_true.mp this c hc
theorem d_near (D : DefN K mg "_law_k62_near" s__law_k62_near) (T : Txt K mg aN aS aT) (D__law_draw : C8.Cal P w K mg base 2 "_law_draw" spDraw []) (D__law_pick : C8.Cal P w K mg base 3 "_law_pick" (spPick K) [])
    (D__law_tx_signs : C8.Cal P w K mg base 1 "_law_tx_signs" spSigns []) : C8.Cal P w K mg base 4 "_law_k62_near" spNear [] := by
  have nd := sc__law_k62_near.nd
  refine cal_by D sc__law_k62_near (fun vs H Q E h => ?_) (fun _ _ _ _ _ _ us hl => match us, hl with | [_, _], _ => rfl) (fun f cdv A outer s H vs Q E hr h => ?_)
  · obtain ⟨a, G, n, l, rfl, _⟩ := h
    rfl
  · obtain ⟨a, G, n, l, rfl, hne, hl, hS, q⟩ := h
    refine ⟨_,
    (pss_cons (ps_par3 (i := 2) (j := 3) (l := 4) (by rfl) nd rfl rfl rfl (by decide) (by decide) (by decide) rfl rfl rfl (pa_cons (C8.pe_c D__law_draw hr (by decide) rfl (pa_cons (pv 0) (pa_cons (pe_callB call_len_str (by rfl) T.b_len (by decide +kernel) (pa_cons (pv 1) pa_nil)) pa_nil))) (pa_cons (C8.pe_c D__law_pick hr (by decide) rfl (pa_cons (pv 0) (pa_cons (pe_op op_add_str (pe_c0 D__law_tx_signs hr (by decide) rfl) pe_str) pa_nil))) (pa_cons (C8.pe_c D__law_draw hr (by decide) rfl (pa_cons (pv 0) (pa_cons pe_int pa_nil))) pa_nil))) (by rfl))
    (pss_cons (ps_set (i := 2) nd rfl (.inl rfl) (pe_ifExp (pt_cmpR op_gt (C8.pe_c D__law_draw hr (by decide) rfl (pa_cons (pv 0) (pa_cons pe_int pa_nil))) pe_int (nomark _)) (pv 2) (pe_op op_sub (pe_op op_sub (pe_callB call_len_str (by rfl) T.b_len (by decide +kernel) (pa_cons (pv 1) pa_nil)) pe_int) (pe_op op_mod (pe_callTy call_int1 (by rfl) T.b_int (by decide +kernel) (pa_cons (pv 2) pa_nil)) (pe_callB (call_min2 rfl) (by rfl) T.b_min (by decide +kernel) (pa_cons (pe_callB call_len_str (by rfl) T.b_len (by decide +kernel) (pa_cons (pv 1) pa_nil)) (pa_cons pe_int pa_nil)))))))
    (pss_cons (ps_if (pt_cmpR op_eq (pv 4) pe_int (nomark _))
    (pss_one (ps_ret (pe_op op_add_str (pe_op op_add_str (pe_slice sl_str (pv 1) po_none (po_some (pv 2))) (pv 3)) (pe_slice sl_str (pv 1) (po_some (pe_op op_add (pv 2) pe_int)) po_none))))
    pss_nil)
    (pss_cons (ps_if (pt_cmpR op_eq (pv 4) pe_int (nomark _))
    (pss_one (ps_ret (pe_op op_add_str (pe_slice sl_str (pv 1) po_none (po_some (pv 2))) (pe_slice sl_str (pv 1) (po_some (pe_op op_add (pv 2) pe_int)) po_none))))
    pss_nil)
    (pss_cons (ps_if (pt_cmpR op_eq (pv 4) pe_int (nomark _))
    (pss_one (ps_ret (pe_op op_add_str (pe_op op_add_str (pe_slice sl_str (pv 1) po_none (po_some (pv 2))) (pv 3)) (pe_slice sl_str (pv 1) (po_some (pv 2)) po_none))))
    pss_nil)
    (pss_one (ps_ret (pe_op op_add_str (pe_op op_add_str (pe_op op_add_str (pe_slice sl_str (pv 1) po_none (po_some (pv 2))) (pe_slice sl_str (pv 1) (po_some (pe_op op_add (pv 2) pe_int)) (po_some (pe_op op_add (pv 2) pe_int)))) (pe_slice sl_str (pv 1) (po_some (pv 2)) (po_some (pe_op op_add (pv 2) pe_int)))) (pe_slice sl_str (pv 1) (po_some (pe_op op_add (pv 2) pe_int)) po_none))))))))), ?_⟩
    have hz : (S l).length ≤ sizeLine := by rw [S_len, sizeLine_eq]; omega
    have hpos : 0 < l.length := List.length_pos_iff.mpr hne
    -- at, sign, way
    refine ⟨.ref a, rfl, .str (S l), rfl, S l, rfl, hz, a, G, n + 3, _, rfl, by rw [S_len]; omega, by rw [S_len]; omega, hS, fun r H1 r0 r1 s1 k1 => ?_⟩
    rw [S_len] at r1
    refine ⟨.ref a, rfl, rfl, _, _, rfl, rfl, by decide +kernel, a, G, n + 2, .str (signs ++ ("\n" : Str)), _, rfl, s1, by decide +kernel, by decide +kernel, .inl ⟨_, rfl, rfl⟩, fun z H2 hz2 s2 k2 => ?_⟩
    obtain ⟨c, rfl, hc⟩ := sign_nl hz2
    refine ⟨.ref a, rfl, a, G, n + 1, 4, rfl, by decide, by decide, s2, fun way H3 w0 w1 s3 k3 => ?_⟩
    refine ⟨_, _, _, rfl, ?_⟩
    -- at
    refine ⟨.ref a, rfl, a, G, n, 3, rfl, by decide, by decide, s3, fun t3 H4 t0 t1 s4 k4 => ?_⟩
    have k14 := ((k1.trans k2).trans k3).trans k4
    refine ⟨_, _, rfl, rfl, _, rfl, ?_⟩
    -- behind it
    have tail : ∀ i : Nat, i < l.length →
        tSeq (tIfS (tTest (tOp rEq (tVar 4) (tC (.int 0)))) (tRet (tOp (fun x y H Q => ∃ i j, x = .str i ∧ y = .str j ∧ i.length + j.length ≤ sizeLine ∧ Q (.str (i ++ j)) H) (tOp (fun x y H Q => ∃ i j, x = .str i ∧ y = .str j ∧ i.length + j.length ≤ sizeLine ∧ Q (.str (i ++ j)) H) (tSl rSlS (tVar 1) tNoPart (tPart (tVar 2))) (tVar 3)) (tSl rSlS (tVar 1) (tPart (tOp (rI0 fun i j => .int (i + j)) (tVar 2) (tC (.int 1)))) tNoPart))) tNext)
          (tSeq (tIfS (tTest (tOp rEq (tVar 4) (tC (.int 1)))) (tRet (tOp (fun x y H Q => ∃ i j, x = .str i ∧ y = .str j ∧ i.length + j.length ≤ sizeLine ∧ Q (.str (i ++ j)) H) (tSl rSlS (tVar 1) tNoPart (tPart (tVar 2))) (tSl rSlS (tVar 1) (tPart (tOp (rI0 fun i j => .int (i + j)) (tVar 2) (tC (.int 1)))) tNoPart))) tNext)
          (tSeq (tIfS (tTest (tOp rEq (tVar 4) (tC (.int 2)))) (tRet (tOp (fun x y H Q => ∃ i j, x = .str i ∧ y = .str j ∧ i.length + j.length ≤ sizeLine ∧ Q (.str (i ++ j)) H) (tOp (fun x y H Q => ∃ i j, x = .str i ∧ y = .str j ∧ i.length + j.length ≤ sizeLine ∧ Q (.str (i ++ j)) H) (tSl rSlS (tVar 1) tNoPart (tPart (tVar 2))) (tVar 3)) (tSl rSlS (tVar 1) (tPart (tVar 2)) tNoPart))) tNext)
            (tRet (tOp (fun x y H Q => ∃ i j, x = .str i ∧ y = .str j ∧ i.length + j.length ≤ sizeLine ∧ Q (.str (i ++ j)) H) (tOp (fun x y H Q => ∃ i j, x = .str i ∧ y = .str j ∧ i.length + j.length ≤ sizeLine ∧ Q (.str (i ++ j)) H) (tOp (fun x y H Q => ∃ i j, x = .str i ∧ y = .str j ∧ i.length + j.length ≤ sizeLine ∧ Q (.str (i ++ j)) H) (tSl rSlS (tVar 1) tNoPart (tPart (tVar 2)))
              (tSl rSlS (tVar 1) (tPart (tOp (rI0 fun i j => .int (i + j)) (tVar 2) (tC (.int 1)))) (tPart (tOp (rI0 fun i j => .int (i + j)) (tVar 2) (tC (.int 2)))))) (tSl rSlS (tVar 1) (tPart (tVar 2)) (tPart (tOp (rI0 fun i j => .int (i + j)) (tVar 2) (tC (.int 1)))))) (tSl rSlS (tVar 1) (tPart (tOp (rI0 fun i j => .int (i + j)) (tVar 2) (tC (.int 2)))) tNoPart)))))
          { nx := fun _ H' => Q .non H', rt := Q } [some (.ref a), some (.str (S l)), some (.int (i : Nat)), some (.str (S [c])), some (.int way)] H4 := by
      intro i hi
      have e1 : ((i : Nat) : Int) + 1 = ((i + 1 : Nat) : Int) := by omega
      have e2 : ((i : Nat) : Int) + 2 = ((i + 2 : Nat) : Int) := by omega
      have lt1 : (l.take i).length ≤ l.length := by rw [List.length_take]; omega
      have ld : ∀ j, (l.drop j).length ≤ l.length := fun j => by rw [List.length_drop]; omega
      refine ⟨.int way, rfl, rfl, _, rfl, ite2 (fun hw => ?_) (fun hw => ?_)⟩
      · refine ⟨.str (S l), rfl, .int (i : Nat), rfl, _, rfl, S l, rfl, hz, .str (S [c]), rfl, _, _, rfl, rfl, ?_, .str (S l), rfl, .int (i : Nat), rfl, _, _, rfl, rfl, _, rfl, S l, rfl, hz, _, _, rfl, rfl, ?_, ?_⟩
        · rw [cut_to, S_len, S_len, sizeLine_eq]; have := lt1; show _ + 1 ≤ _; omega
        · rw [e1, cut_to, cut_from, S_cat, S_len, S_len, List.length_append, sizeLine_eq]; have := ld (i + 1); show _ + 1 + _ ≤ _; omega
        · rw [e1, cut_to, cut_from, S_cat, S_cat, List.append_assoc]
          exact q _ H4 ⟨i, c, hi, hc, .inl rfl⟩ s4 k14
      · refine ⟨.int way, rfl, rfl, _, rfl, ite2 (fun hw => ?_) (fun hw => ?_)⟩
        · refine ⟨.str (S l), rfl, .int (i : Nat), rfl, _, rfl, S l, rfl, hz, .str (S l), rfl, .int (i : Nat), rfl, _, _, rfl, rfl, _, rfl, S l, rfl, hz, _, _, rfl, rfl, ?_, ?_⟩
          · rw [e1, cut_to, cut_from, S_len, S_len, sizeLine_eq]; have := ld (i + 1); omega
          · rw [e1, cut_to, cut_from, S_cat]
            exact q _ H4 ⟨i, c, hi, hc, .inr (.inl rfl)⟩ s4 k14
        · refine ⟨.int way, rfl, rfl, _, rfl, ite2 (fun hw => ?_) (fun hw => ?_)⟩
          · refine ⟨.str (S l), rfl, .int (i : Nat), rfl, _, rfl, S l, rfl, hz, .str (S [c]), rfl, _, _, rfl, rfl, ?_, .str (S l), rfl, .int (i : Nat), rfl, _, rfl, S l, rfl, hz, _, _, rfl, rfl, ?_, ?_⟩
            · rw [cut_to, S_len, S_len, sizeLine_eq]; show _ + 1 ≤ _; omega
            · rw [cut_to, cut_from, S_cat, S_len, S_len, List.length_append, sizeLine_eq]; have := ld i; show _ + 1 + _ ≤ _; omega
            · rw [cut_to, cut_from, S_cat, S_cat, List.append_assoc]
              exact q _ H4 ⟨i, c, hi, hc, .inr (.inr (.inl rfl))⟩ s4 k14
          · have m1 : ((l.drop (i + 1)).take (i + 2 - (i + 1))).length ≤ 1 := by rw [List.length_take]; omega
            have m2 : ((l.drop i).take (i + 1 - i)).length ≤ 1 := by rw [List.length_take]; omega
            refine ⟨.str (S l), rfl, .int (i : Nat), rfl, _, rfl, S l, rfl, hz, .str (S l), rfl, .int (i : Nat), rfl, _, _, rfl, rfl, _, rfl, .int (i : Nat), rfl, _, _, rfl, rfl, _, rfl, S l, rfl, hz, _, _, rfl, rfl, ?_,
              .str (S l), rfl, .int (i : Nat), rfl, _, rfl, .int (i : Nat), rfl, _, _, rfl, rfl, _, rfl, S l, rfl, hz, _, _, rfl, rfl, ?_, .str (S l), rfl, .int (i : Nat), rfl, _, _, rfl, rfl, _, rfl, S l, rfl, hz, _, _, rfl, rfl, ?_, ?_⟩
            · rw [e1, e2, cut_to, cut_mid, S_len, S_len, sizeLine_eq]; omega
            · rw [e1, e2, cut_to, cut_mid, cut_mid, S_cat, S_len, S_len, List.length_append, sizeLine_eq]; omega
            · rw [e1, e2, cut_to, cut_mid, cut_mid, cut_from, S_cat, S_cat, S_len, S_len, List.length_append, List.length_append, sizeLine_eq]; have := ld (i + 2); omega
            · rw [e1, e2, cut_to, cut_mid, cut_mid, cut_from, S_cat, S_cat, S_cat, show i + 2 - (i + 1) = 1 by omega, show i + 1 - i = 1 by omega, List.append_assoc, List.append_assoc]
              exact q _ H4 ⟨i, c, hi, hc, .inr (.inr (.inr rfl))⟩ s4 k14
    obtain ⟨rn, rfl⟩ : ∃ rn : Nat, r = (rn : Int) := ⟨r.toNat, by omega⟩
    refine ite2 (fun hb => ?_) (fun hb => ?_)
    · exact ⟨_, rfl, tail rn (by omega)⟩
    · refine ⟨.str (S l), rfl, S l, rfl, hz, _, _, rfl, rfl, .int (rn : Nat), rfl, .inl ⟨_, rfl, .str (S l), rfl, S l, rfl, hz, _, 12, rfl, _, _, rfl, rfl, ?_, _, _, rfl, rfl, ?_⟩⟩
      · rw [S_len]
        show (0 : Int) < if (12 : Int) < (l.length : Int) then 12 else (l.length : Int)
        split <;> omega
      · have hmn : (0 : Int) < (if (12 : Int) < ((S l).length : Int) then 12 else ((S l).length : Int)) ∧ (if (12 : Int) < ((S l).length : Int) then 12 else ((S l).length : Int)) ≤ (l.length : Int) := by
          rw [S_len]
          split <;> omega
        generalize (if (12 : Int) < ((S l).length : Int) then 12 else ((S l).length : Int)) = mn at hmn
        have r0' := Int.emod_nonneg ((rn : Nat) : Int) (show mn ≠ 0 by omega)
        have r1' := Int.emod_lt_of_pos ((rn : Nat) : Int) hmn.1
        obtain ⟨i, hi⟩ : ∃ i : Nat, ((S l).length : Int) - 1 - ((rn : Nat) : Int) % mn = (i : Int) := ⟨(((S l).length : Int) - 1 - ((rn : Nat) : Int) % mn).toNat, by rw [S_len]; omega⟩
        have hil : i < l.length := by rw [S_len] at hi; omega
        dsimp only
        rw [hi]
        exact tail i hil
end
end K62

set_option Elab.async false
set_option linter.all false
set_option maxRecDepth 100000
set_option maxHeartbeats 4000000
namespace K62
open PySem PySem.Spec PyProof.Rows L2 Sw M62 SX LamX
/-! _law_caught -/
abbrev s__law_caught : Stmt := topS 21
abbrev N__law_caught : List Str := ["work", "caught", "error"]
theorem sc__law_caught : FnScope N__law_caught ["work"] (C8.fnScope s__law_caught) := C8.fnScope_by (by decide +kernel)
section
variable {P : Program} {w : World} {K : PySem.W.Frag} {mg : Str → Option Value} {base : Heap}
/-- a def whose code object is known -/
structure DefC (K : PySem.W.Frag) (mg : Str → Option Value) (x : Str) (st : Stmt) (f c : Addr) : Prop where
  ex : ∃ (oc kV doc pm ct : Value) (od an : Option Addr) (osl : Array (Option Value)), K.lookup f = some ⟨oc, od, .func (PySem.W.fnOf x x (C8.fnArgs st) (C8.fnBody st) (C8.fnScope st) .none kV doc pm an (.ref c) ct), osl⟩
  cd : PySem.W.codeIn K (.ref c) x = true
  mgf : mg x = some (.ref f)
  kp : PySem.W.keepIn K (.ref f) = true
theorem cal_byC {x : Str} {st : Stmt} {N ps : List Str} {k : Nat} {sp : Sp} {f c : Addr} (D : DefC K mg x st f c) (S : FnScope N ps (C8.fnScope st)) (len : ∀ vs H Q E, sp vs H Q E → vs.length = ps.length)
    (hb : ∀ (kV doc pm : Value) (an : Option Addr) (cdv ct : Value) (us : List Value), us.length = ps.length → bindArgs (PySem.W.fnOf x x (C8.fnArgs st) (C8.fnBody st) (C8.fnScope st) .none kV doc pm an cdv ct) ⟨us, []⟩ = pure (ps.zip us))
    (hbody : ∀ (A : Around) (outer : List Env) (s : Shared) (H : Hp) (vs : List V) (Q : VK) (E : XK), Room k (A.deeper (envOfC x (C8.fnScope st) s.heap.objs.size f (.ref c))) → sp vs H Q E →
      ∃ t, PSs (cxOf C8.CX0 P w K mg base N x (C8.fnScope st) f (.ref c) A outer s H E).nox (C8.fnBody st) t ∧ t { nx := fun _ H' => Q .non H', rt := Q } (start N vs) H) : C8.Cal P w K mg base (k + 1) x sp [] := by
  obtain ⟨oc, kV, doc, pm, ct, od, an, osl, lk⟩ := D.ex
  refine ⟨f, _, ps, [], fn_of lk D.cd S len (fun A outer s H vs Q E hr hsp => ?_), D.mgf, D.kp, .all (hb kV doc pm an (.ref c) ct), .nil⟩
  obtain ⟨t, h, q⟩ := hbody A outer s H vs Q E hr hsp
  exact ⟨t, h.nox, q⟩
end
section
variable {X : Cx}
theorem passB {A : Around} {outer : List Env} {s : Shared} {H : Hp} {E : XK} {scope : Scope} {f c' : Addr} : Passes (L2.CX (lamCx X A outer s H E scope f c').prog (lamCx X A outer s H E scope f c').w) (lamCx X A outer s H E scope f c') E :=
  passes_call (takes_of rfl rfl rfl rfl) (fun _ _ _ _ h => h)
theorem pe_caught {T : List (Addr × Str)} {aN c P : Addr} {k : Nat} {params : Arguments} {body : Expr} {scope : Scope} {t : XK → TE} {p lpos pos : Pos} (D : DefN X.K X.mg "_law_caught" s__law_caught) (gN : X.mg "NetError" = some (.ref aN)) (hg : Gl X "_law_caught")
    (TB : TabB X.base X.mg c P) (hcode : X.env.code = .ref c) (hmT : (P, X.env.qual ++ "<lambda>") ∈ T) (hu : ∀ p ∈ T, p.1 = P → p.2 = X.env.qual ++ "<lambda>") (hr : Room (k + 2) X.A) (L : LamS X.env.scope scope) (hdef : defaultsOf params X.env = ([], []))
    (hbind : ∀ (q : Str) (cl : List (Str × Addr)) (pm cv ctv : Value), bindArgs (PySem.W.kla_fn "<lambda>" q params body scope cl pm cv ctv) ⟨[], []⟩ = pure [])
    (hbody : ∀ (A : Around) (outer : List Env) (s : Shared) (H : Hp) (E : XK) (f c' : Addr), Room k (A.deeper (lamEnv X scope s.heap.objs.size f c')) → PE (lamCx X A outer s H E scope f c') body (t E)) :
    PE X (.Call (.Name "_law_caught" p) [.Lambda params body scope lpos] [] pos) (tLam T (TCaught X.K aN) t) := by
  obtain ⟨f, fd, F, df⟩ := D.ex
  obtain ⟨oc, od, dV, kV, doc, pm, an, cdv, ct, osl, rfl, lk, hcd⟩ := F.fn.ex
  obtain rfl : dV = .none := df
  exact pe_lamcall (a := "work") hg F.mgf F.kp lk hcd (.all fun us hl => match us, hl with | [_], _ => rfl) sc__law_caught rfl (.inl (by decide +kernel)) (caught_gives (p15 := ⟨0, 0, 0, 0⟩) (p16 := ⟨0, 0, 0, 0⟩) sc__law_caught (by decide +kernel) (by decide +kernel) (by decide +kernel) gN) TB hcode hmT hu hr L hdef hbind hbody
end
section
variable {P : Program} {w : World} {K : PySem.W.Frag} {mg : Str → Option Value} {base : Heap} {aN aS aT : Addr}
/-! _law_k62_told -/
abbrev s__law_k62_told : Stmt := topS 27
abbrev N__law_k62_told : List Str := ["text", "due", "error"]
theorem sc__law_k62_told : FnScope N__law_k62_told ["text"] (C8.fnScope s__law_k62_told) := C8.fnScope_by (by decide +kernel)
def qTold : Str := "_law_k62_told" ++ ".<locals>." ++ "<lambda>"
def qLaw : Str := "law" ++ ".<locals>." ++ "<lambda>"
def tabsOf (p1 p2 : Addr) : List (Addr × Str) := [(p1, qTold), (p2, qLaw)]
def spLTold (T : List (Addr × Str)) : Sp := fun vs H Q _ => ∃ l, vs = [.str (S l)] ∧ l.length ≤ 1000000 ∧ Tabs T H ∧ ∀ H', ExtN H H' → Tabs T H' → Q (.bl true) H'
theorem d_told {f c p1 p2 : Addr} (D : DefC K mg "_law_k62_told" s__law_k62_told f c) (T : Txt K mg aN aS aT) (TB : TabB base mg c p1) (ne : p1 ≠ p2) (DC : DefN K mg "_law_caught" s__law_caught)
    (D__law_k62_opened : C8.Cal P w K mg base 2 "_law_k62_opened" spOpened []) (D_unsealed : CalX P w K mg base 3 "unsealed" ["text"] (spUnsealed K aS)) : C8.Cal P w K mg base 6 "_law_k62_told" (spLTold (tabsOf p1 p2)) [] := by
  have nd := sc__law_k62_told.nd
  have gN := T.c1_NetError
  have hmT : (p1, (("_law_k62_told" : Str) ++ ".<locals>.") ++ "<lambda>") ∈ tabsOf p1 p2 := List.mem_cons_self
  have hu : ∀ p ∈ tabsOf p1 p2, p.1 = p1 → p.2 = (("_law_k62_told" : Str) ++ ".<locals>.") ++ "<lambda>" := fun p hp e => by
    rcases List.mem_cons.mp hp with rfl | hp
    · rfl
    · obtain rfl := List.mem_singleton.mp hp
      exact (ne e.symm).elim
  refine cal_byC D sc__law_k62_told (fun vs H Q E h => ?_) (fun _ _ _ _ _ _ us hl => match us, hl with | [_], _ => rfl) (fun A outer s H vs Q E hr h => ?_)
  · obtain ⟨l, rfl, _⟩ := h
    rfl
  · obtain ⟨l, rfl, hl, hT, q⟩ := h
    refine ⟨_,
    (pss_cons (ps_par (i := 1) (j := 2) (by rfl) nd rfl rfl (by decide) rfl rfl (pa_cons (C8.pe_c D__law_k62_opened hr (by decide) rfl (pa_cons (pv 0) pa_nil)) (pa_cons (pe_caught DC gN rfl TB rfl hmT hu hr (lamS_by (by show lamSB (C8.fnScope s__law_k62_told) _ = true; decide +kernel)) rfl (fun _ _ _ _ _ => rfl) (fun _ _ _ _ _ _ _ hr2 => (pe_cXk0 D_unsealed hr2 (by decide) rfl passB (pk_cons (pv 0) pk_nil)))) pa_nil)) (by rfl))
    (pss_cons (ps_if (pt_cmpR op_isN (pv 1) pe_non (nomark _))
    (pss_one (ps_ret (pe_callB call_isA (by rfl) T.b_isinstance (by decide +kernel) (pa_cons (pv 2) (pa_cons (C8.pe_gc rfl T.c_BadSeal) pa_nil)))))
    pss_nil)
    (pss_one (ps_ret (pe_and (pe_cmpR op_isN (pv 2) pe_non (nomark _)) (pe_one (pe_cmpR op_eq (pe_cX D_unsealed hr (by decide) rfl passL (pa_cons (pv 0) pa_nil)) (pv 1) (nomark _)))))))), ?_⟩
    refine ⟨.str (S l), rfl, l, rfl, hl, fun H1 s1 => ?_⟩
    refine ⟨hT.ext s1, fun H2 e2 T2 => ?_⟩
    cases ho : opened l with
    | none =>
      have e : openV l = .non := by unfold openV; rw [ho]
      rw [e]
      refine ⟨.str (S l), rfl, rfl, rfl, .str (S l), rfl, .inl ⟨l, rfl, hl, fun b hb => ?_, fun _ H3 s3 => ?_⟩⟩
      · rw [ho] at hb; cases hb
      · refine ⟨aS, rfl, rfl, T.m_BadSeal, fun a na => ?_⟩
        have e3 := (e2.trans (ExtN.of s3)).trans (ExtN.of (same_upd (o := ErrO aS a) na))
        have T3 := (T2.ext s3).ext (same_upd (o := ErrO aS a) na)
        refine ⟨_, _, rfl, _, rfl, rfl, _, rfl, iteT ?_⟩
        refine ⟨.ref a, rfl, .inr ⟨a, aS, .ref aS, .ref aS, true, rfl, T.e_BadSeal, upd_same, .own aS, T.i_BadSeal, ?_⟩⟩
        exact q _ (ExtN.trans (ExtN.of s1) e3) T3
    | some b =>
      have e : openV l = .str (S b) := by unfold openV; rw [ho]
      rw [e]
      refine ⟨.str (S l), rfl, rfl, rfl, .str (S l), rfl, .inl ⟨l, rfl, hl, fun b2 hb H3 s3 => ?_, fun z => ?_⟩⟩
      · obtain rfl : b = b2 := by rw [ho] at hb; exact Option.some.inj hb
        refine ⟨.non, rfl, ?_⟩
        refine ⟨_, _, rfl, _, rfl, rfl, _, rfl, iteF ?_⟩
        refine ⟨.non, rfl, rfl, _, rfl, ?_⟩
        refine iteT ⟨.str (S l), rfl, .str (S l), rfl, .inl ⟨l, rfl, hl, fun b2 hb H4 s4 => ?_, fun z => ?_⟩⟩
        · obtain rfl : b = b2 := by rw [ho] at hb; exact Option.some.inj hb
          refine ⟨_, rfl, rfl, ?_⟩
          rw [decide_eq_true rfl]
          exact q _ (((ExtN.of s1).trans e2).trans (ExtN.of (s3.trans s4))) (T2.ext (s3.trans s4))
        · rw [ho] at z; cases z
      · rw [ho] at z; cases z
end
end K62

set_option Elab.async false
set_option linter.all false
set_option maxRecDepth 100000
set_option maxHeartbeats 4000000
namespace K62
open PySem PySem.Spec PyProof.Rows L2 Sw M62 SX LamX
section
variable {P : Program} {w : World} {K : PySem.W.Frag} {mg : Str → Option Value} {base : Heap} {aN aS aT : Addr}
/-! law -/
abbrev s_law : Stmt := topS 28
abbrev N_law : List Str := ["script", "state", "lap", "text", "whole", "turn", "near", "odd", "great"]
theorem sc_law : FnScope N_law ["script"] (C8.fnScope s_law) := C8.fnScope_by (by decide +kernel)
theorem Sta_ext {H H' : Hp} {a G : Addr} {n : Nat} (s : Sta H a G n) (e : ExtN H H') : Sta H' a G n := by
  obtain ⟨C, gs, cs, l, t, h1, h2, h3, h4⟩ := s.ex
  exact ⟨C, gs, cs, l, t, e _ _ h1 (fun _ z => nomatch z), e _ _ h2 (fun _ z => nomatch z), e _ _ h3 (fun _ z => nomatch z), h4⟩
theorem Tabs_kp {T : List (Addr × Str)} {H H' : Hp} {a G : Addr} {n : Nat} (t : Tabs T H) (s : Sta H a G n) (k : KpS a G H H') : Tabs T H' := by
  obtain ⟨C, gs, cs, l, tt, h1, h2, _⟩ := s.ex
  intro p hp
  obtain ⟨ps, e1, e2, e3⟩ := t p hp
  refine ⟨ps, k.at (fun z => ?_) (fun z => ?_) e1, e2, fun pos cv hc => ?_⟩
  · rw [z, h1] at e1; cases e1
  · rw [z, h2] at e1; cases e1
  · obtain ⟨c, c1, c2⟩ := e3 pos cv hc
    refine ⟨c, c1, k.at (fun z => ?_) (fun z => ?_) c2⟩
    · rw [z, h1] at c2; exact HO.noConfusion (Option.some.inj c2)
    · rw [z, h2] at c2; exact HO.noConfusion (Option.some.inj c2)
theorem ite_rest (b : Bool) {A R : Hp → Prop} (H2 : Hp) (Mid : Hp → Prop) (m : Mid H2) (hr : ∀ H, Mid H → R H) (ha : b = true → (∀ H, Mid H → R H) → A H2) : (fun (c : Bool) (H : Hp) => if c = true then A H else R H) b H2 := by
  cases b with
  | true => exact iteT (ha rfl hr)
  | false => exact iteF (hr _ m)
theorem dig_ok {c : Nat} (h : dig c = true) : ok c = true := by
  unfold dig at h
  unfold ok pr
  rw [Bool.and_eq_true, decide_eq_true_eq, decide_eq_true_eq] at h
  rw [decide_eq_true (show 32 ≤ c by omega), decide_eq_true (show c ≤ 126 by omega)]
  exact Bool.or_true _
theorem sld_ok {l : List Nat} (h : l.all ok = true) : (sld l).all ok = true := by
  unfold sld last
  rw [List.all_append, List.all_cons, List.all_append, h]
  have h1 : (numL (sm l % M62.P)).all ok = true := List.all_eq_true.mpr fun c hc => dig_ok (List.all_eq_true.mp (numL_all _) c hc)
  rw [h1]
  rfl
/-- an odd text of unsealed -/
def OddU (K : PySem.W.Frag) (H : Hp) (x : V) : Prop := (∃ l, x = .str (S l) ∧ l.length ≤ 1000000 ∧ opened l = none) ∨ NoText K H x
def OddS (K : PySem.W.Frag) (H : Hp) (x : V) : Prop := (∃ l, x = .str (S l) ∧ l.length ≤ 2000000 ∧ 9 ∈ l) ∨ NoText K H x
theorem no9 {l : List Nat} (h : 9 ∈ l) : ¬ l.all ok = true := fun z => by
  have := List.all_eq_true.mp z 9 h
  revert this
  decide
theorem opened_9 (l : List Nat) : opened (l ++ 9 :: 10 :: [115, 117, 109, 32, 48]) = none := by
  have e : l ++ 9 :: 10 :: [115, 117, 109, 32, 48] = (l ++ [9]) ++ 10 :: [115, 117, 109, 32, 48] := by simp
  rw [e]
  unfold opened
  rw [cut_some (by decide)]
  exact if_neg fun z => no9 (l := l ++ [9]) (by simp) z.1
theorem opened_free {l : List Nat} (h : 10 ∉ l) : opened l = none := by
  unfold opened
  rw [cut_none h]
theorem no_non {K : PySem.W.Frag} {H : Hp} : NoText K H .non := ⟨"NoneType", .base .non, by decide +kernel⟩
theorem no_int {K : PySem.W.Frag} {H : Hp} (i : Int) : NoText K H (.int i) := ⟨"int", .base (.int _), by decide +kernel⟩
theorem no_bl {K : PySem.W.Frag} {H : Hp} (b : Bool) : NoText K H (.bl b) := ⟨"bool", .base (.bl _), by decide +kernel⟩
theorem no_lst {K : PySem.W.Frag} {H : Hp} {p : Addr} {xs : List V} (h : H p = some (.lst xs)) : NoText K H (.ref p) := ⟨"list", .base (.lst h), by decide +kernel⟩
theorem no_tup {K : PySem.W.Frag} {H : Hp} {p : Addr} {xs : List V} (h : H p = some (.tup xs)) : NoText K H (.ref p) := ⟨"tuple", .base (.tup h), by decide +kernel⟩
def ends : List Str := [" ", "\n", "0", "\nsum 0", "\nsum 00", "\nsum -1", "\nSum 0"]
theorem ends_len {z : Str} (h : z ∈ ends) : ∃ l, z = S l ∧ l.length ≤ 8 := by
  have h0 : ends.all (fun z => decide (z.cps.toList.length ≤ 8)) = true := by decide +kernel
  have h1 := List.all_eq_true.mp h0 z h
  rw [decide_eq_true_eq] at h1
  exact ⟨z.cps.toList, (S_tl z).symm, h1⟩
theorem great_sum : sm (List.replicate 4200 126) % M62.P = 111584593 := by decide +kernel
theorem great_ok : (List.replicate 4200 126).all ok = true := by decide +kernel
def spLaw (K : PySem.W.Frag) (T : List (Addr × Str)) : Sp := fun vs H Q _ => ∃ (a : Addr) (ns : List Int), vs = [.ref a] ∧ SqL K H a (ns.map V.int) ∧ ns.length ≤ 1000 ∧ Tabs T H ∧ ∀ H', Q (.bl true) H'
/-- what the laps keep -/
structure Lap (T : List (Addr × Str)) (H : Hp) (r G : Addr) (n : Nat) : Prop where
  st : Sta H r G n
  tb : Tabs T H
theorem Lap.ext {T : List (Addr × Str)} {H H' : Hp} {r G : Addr} {n : Nat} (l : Lap T H r G n) (e : ExtN H H') (t : Tabs T H') : Lap T H' r G n := ⟨Sta_ext l.st e, t⟩
theorem Lap.same {T : List (Addr × Str)} {H H' : Hp} {r G : Addr} {n : Nat} (l : Lap T H r G n) (e : Same H H') : Lap T H' r G n := ⟨l.st.same e, l.tb.ext e⟩
theorem Lap.draw {T : List (Addr × Str)} {H H' : Hp} {r G : Addr} {n m : Nat} (l : Lap T H r G n) (k : KpS r G H H') (s : Sta H' r G m) : Lap T H' r G m := ⟨s, Tabs_kp l.tb l.st k⟩
theorem Lap.mono {T : List (Addr × Str)} {H : Hp} {r G : Addr} {n m : Nat} (l : Lap T H r G n) (h : m ≤ n) : Lap T H r G m := ⟨l.st.mono h, l.tb⟩
theorem fn_byC {x : Str} {st : Stmt} {N ps : List Str} {k : Nat} {sp : Sp} {f c : Addr} {oc kV doc pm ct : Value} {od an : Option Addr} {osl : Array (Option Value)} (lk : K.lookup f = some ⟨oc, od, .func (PySem.W.fnOf x x (C8.fnArgs st) (C8.fnBody st) (C8.fnScope st) .none kV doc pm an (.ref c) ct), osl⟩) (hcd : PySem.W.codeIn K (.ref c) x = true)
    (S : FnScope N ps (C8.fnScope st)) (len : ∀ vs H Q E, sp vs H Q E → vs.length = ps.length)
    (hbody : ∀ (A : Around) (outer : List Env) (s : Shared) (H : Hp) (vs : List V) (Q : VK) (E : XK), Room k (A.deeper (envOfC x (C8.fnScope st) s.heap.objs.size f (.ref c))) → sp vs H Q E →
      ∃ t, PSs (cxOf C8.CX0 P w K mg base N x (C8.fnScope st) f (.ref c) A outer s H E).nox (C8.fnBody st) t ∧ t { nx := fun _ H' => Q .non H', rt := Q } (start N vs) H) :
    FnOk P w K mg base C8.CX0 (k + 1) f (PySem.W.fnOf x x (C8.fnArgs st) (C8.fnBody st) (C8.fnScope st) .none kV doc pm an (.ref c) ct) ps sp :=
  fn_of lk hcd S len fun A outer s H vs Q E hr hsp => by
    obtain ⟨t, h, q⟩ := hbody A outer s H vs Q E hr hsp
    exact ⟨t, h.nox, q⟩
theorem d_law {f c p1 p2 : Addr} {oc kV doc pm ct : Value} {od an : Option Addr} {osl : Array (Option Value)} (lk : K.lookup f = some ⟨oc, od, .func (PySem.W.fnOf "law" "law" (C8.fnArgs s_law) (C8.fnBody s_law) (C8.fnScope s_law) .none kV doc pm an (.ref c) ct), osl⟩) (hcd : PySem.W.codeIn K (.ref c) "law" = true) (T : Txt K mg aN aS aT) (TB : TabB base mg c p2) (ne : p1 ≠ p2) (DC : DefN K mg "_law_caught" s__law_caught)
    (D__law_begun : C8.Cal P w K mg base 1 "_law_begun" (spBegun K) []) (D__law_k62_text : C8.Cal P w K mg base 4 "_law_k62_text" spText []) (D__law_k62_near : C8.Cal P w K mg base 4 "_law_k62_near" spNear [])
    (D__law_k62_sum : C8.Cal P w K mg base 1 "_law_k62_sum" spLSum []) (D__law_pick : C8.Cal P w K mg base 3 "_law_pick" (spPick K) [])
    (D__law_k62_told : C8.Cal P w K mg base 6 "_law_k62_told" (spLTold (tabsOf p1 p2)) [])
    (D_sealed : CalX P w K mg base 3 "sealed" ["text"] (spSealed K aT)) (D_unsealed : CalX P w K mg base 3 "unsealed" ["text"] (spUnsealed K aS)) : FnOk P w K mg base C8.CX0 7 f (PySem.W.fnOf "law" "law" (C8.fnArgs s_law) (C8.fnBody s_law) (C8.fnScope s_law) .none kV doc pm an (.ref c) ct) ["script"] (spLaw K (tabsOf p1 p2)) := by
  have nd := sc_law.nd
  have gN := T.c1_NetError
  have hmT : (p2, (("law" : Str) ++ ".<locals>.") ++ "<lambda>") ∈ tabsOf p1 p2 := List.mem_cons_of_mem _ List.mem_cons_self
  have hu : ∀ p ∈ tabsOf p1 p2, p.1 = p2 → p.2 = (("law" : Str) ++ ".<locals>.") ++ "<lambda>" := fun p hp e => by
    rcases List.mem_cons.mp hp with rfl | hp
    · exact (ne e).elim
    · obtain rfl := List.mem_singleton.mp hp
      rfl
  refine fn_byC lk hcd sc_law (fun vs H Q E h => ?_) (fun A outer s H vs Q E hr h => ?_)
  · obtain ⟨a, ns, rfl, _⟩ := h
    rfl
  · obtain ⟨a, ns, rfl, hS, hlen, hT, q⟩ := h
    refine ⟨_,
    (pss_cons (ps_set (i := 1) nd rfl (.inl rfl) (C8.pe_c D__law_begun hr (by decide) rfl (pa_cons (pv 0) pa_nil)))
    (pss_cons (ps_for PassesOwn.never rfl (pi_range1 (by rfl) T.b_range (pa_cons (pe_op op_add pe_int (pe_callB (call_min2 rfl) (by rfl) T.b_min (by decide +kernel) (pa_cons (pe_callB call_len_seq (by rfl) T.b_len (by decide +kernel) (pa_cons (pv 0) pa_nil)) (pa_cons pe_int pa_nil)))) pa_nil)) (pg_name (i := 2) nd rfl (.inl rfl))
    (pss_cons (ps_set (i := 3) nd rfl (.inl rfl) (C8.pe_c D__law_k62_text hr (by decide) rfl (pa_cons (pv 1) pa_nil)))
      (pss_cons (ps_set (i := 4) nd rfl (.inl rfl) (pe_cXk0 D_sealed hr (by decide) rfl passL (pk_cons (pv 3) pk_nil)))
      (pss_cons (ps_if (PW.pt (pw_or (pt_cmpR op_ne (pv 4) (pe_op op_add_str (pe_op op_add_str (pv 3) pe_str) (C8.pe_c D__law_k62_sum hr (by decide) rfl (pa_cons (pv 3) pa_nil))) (nomark _)) (pw_or (pt_cmpR op_ne (pe_cX D_unsealed hr (by decide) rfl passL (pa_cons (pv 4) pa_nil)) (pv 3) (nomark _)) (pw_or (pt_cmpR op_ne (pe_cXk0 D_unsealed hr (by decide) rfl passL (pk_cons (pe_cX D_sealed hr (by decide) rfl passL (pa_cons (pv 4) pa_nil)) pk_nil)) (pv 4) (nomark _)) (pw_or1 (pt_not (pt_val (C8.pe_c D__law_k62_told hr (by decide) rfl (pa_cons (pv 3) pa_nil)))))))))
      (pss_one (ps_ret pe_bl))
      pss_nil)
      (pss_cons (ps_for PassesOwn.never rfl (pi_range1 (by rfl) T.b_range (pa_cons pe_int pa_nil)) (pg_name (i := 5) nd rfl (.inl rfl))
      (pss_cons (ps_set (i := 6) nd rfl (.inr rfl) (C8.pe_c D__law_k62_near hr (by decide) rfl (pa_cons (pv 1) (pa_cons (pv 4) pa_nil))))
        (pss_cons (ps_if (PW.pt (pw_and (pt_cmpR op_ne (pv 6) (pv 4) (nomark _)) (pw_and1 (pt_not (pt_val (pe_callB call_isA (by rfl) T.b_isinstance (by decide +kernel) (pa_cons (pe_caught DC gN rfl TB rfl hmT hu hr (lamS_by (by show lamSB (C8.fnScope s_law) _ = true; decide +kernel)) rfl (fun _ _ _ _ _ => rfl) (fun _ _ _ _ _ _ _ hr2 => (pe_cX D_unsealed hr2 (by decide) rfl passB (pa_cons (pv 6) pa_nil)))) (pa_cons (C8.pe_gc rfl T.c_BadSeal) pa_nil))))))))
        (pss_one (ps_ret pe_bl))
        pss_nil)
        (pss_one (ps_if (PW.pt (pw_or (pt_not (pt_val (C8.pe_c D__law_k62_told hr (by decide) rfl (pa_cons (C8.pe_c D__law_k62_near hr (by decide) rfl (pa_cons (pv 1) (pa_cons (pe_op op_add_str (pv 6) pe_str) pa_nil))) pa_nil)))) (pw_or1 (pt_not (pt_val (C8.pe_c D__law_k62_told hr (by decide) rfl (pa_cons (pe_op op_add_str (pv 4) (C8.pe_c D__law_pick hr (by decide) rfl (pa_cons (pv 1) (pa_cons (pe_lst (pa_cons pe_str (pa_cons pe_str (pa_cons pe_str (pa_cons pe_str (pa_cons pe_str (pa_cons pe_str (pa_cons pe_str pa_nil)))))))) pa_nil)))) pa_nil)))))))
        (pss_one (ps_ret pe_bl))
        pss_nil)))))
      (pss_cons (ps_for PassesOwn.never rfl (pi_list (pe_lst (pa_cons pe_non (pa_cons pe_int (pa_cons pe_bl (pa_cons (pe_lst (pa_cons pe_str pa_nil)) (pa_cons (pe_tup (pa_cons pe_str pa_nil)) (pa_cons (pe_op op_add_str (pe_op op_add_str (pv 3) pe_str) pe_str) (pa_cons pe_str (pa_cons pe_str pa_nil)))))))))) (pg_name (i := 7) nd rfl (.inr rfl))
      (pss_one (ps_if (pt_not (pt_val (pe_callB call_isA (by rfl) T.b_isinstance (by decide +kernel) (pa_cons (pe_caught DC gN rfl TB rfl hmT hu hr (lamS_by (by show lamSB (C8.fnScope s_law) _ = true; decide +kernel)) rfl (fun _ _ _ _ _ => rfl) (fun _ _ _ _ _ _ _ hr2 => (pe_cX D_unsealed hr2 (by decide) rfl passB (pa_cons (pv 7) pa_nil)))) (pa_cons (C8.pe_gc rfl T.c_BadSeal) pa_nil)))))
        (pss_one (ps_ret pe_bl))
        pss_nil)))
      (pss_one (ps_for PassesOwn.never rfl (pi_list (pe_lst (pa_cons pe_non (pa_cons pe_int (pa_cons pe_bl (pa_cons (pe_lst (pa_cons (pv 3) pa_nil)) (pa_cons (pe_tup (pa_cons (pv 3) pa_nil)) (pa_cons (pe_op op_add_str (pv 3) pe_str) (pa_cons (pe_op op_add_str pe_str (pv 3)) (pa_cons (pe_op op_add_str (pe_op op_add_str (pv 3) pe_str) (pv 3)) pa_nil)))))))))) (pg_name (i := 7) nd rfl (.inr rfl))
      (pss_one (ps_if (pt_not (pt_val (pe_callB call_isA (by rfl) T.b_isinstance (by decide +kernel) (pa_cons (pe_caught DC gN rfl TB rfl hmT hu hr (lamS_by (by show lamSB (C8.fnScope s_law) _ = true; decide +kernel)) rfl (fun _ _ _ _ _ => rfl) (fun _ _ _ _ _ _ _ hr2 => (pe_cX D_sealed hr2 (by decide) rfl passB (pa_cons (pv 7) pa_nil)))) (pa_cons (C8.pe_gc rfl T.c_BadThing) pa_nil)))))
        (pss_one (ps_ret pe_bl))
        pss_nil))))))))))
    (pss_cons (ps_set (i := 8) nd rfl (.inl rfl) (pe_op op_repS pe_str pe_int))
    (pss_one (ps_ret (pe_and (pe_cmpR op_eq (pe_cX D_sealed hr (by decide) rfl passL (pa_cons (pv 8) pa_nil)) (pe_op op_add_str (pe_op op_add_str (pv 8) pe_str) (pe_callTy call_str_int (by rfl) T.b_str (by decide +kernel) (pa_cons (pe_op op_sub (pe_op op_mul (pe_op op_mul pe_int pe_int) pe_int) pe_int) pa_nil))) (nomark _)) (pe_and (pe_cmpR op_eq (pe_cX D_unsealed hr (by decide) rfl passL (pa_cons pe_str pa_nil)) pe_str (nomark _)) (pe_one (pe_cmpR op_eq (pe_cX D_sealed hr (by decide) rfl passL (pa_cons pe_str pa_nil)) pe_str (nomark _)))))))))), ?_⟩
    refine ⟨.ref a, rfl, a, ns, rfl, hS, hlen, fun r G H1 s1 nr nG S1 => ?_⟩
    have L1 : Lap (tabsOf p1 p2) H1 r G 1099511627776 := ⟨S1, hT.ext s1⟩
    have lm : ∀ (l : List Nat), l.length ≤ 1000000 → (S l).length ≤ sizeLine := fun l h => by rw [S_len, sizeLine_eq]; omega
    have tSum : ("\nsum " : Str) = S (10 :: tg4) := by decide +kernel
    obtain ⟨m, hm, m11⟩ : ∃ m : Nat, (3 + (if (8 : Int) < (((ns.map V.int).length : Nat) : Int) then 8 else (((ns.map V.int).length : Nat) : Int)) : Int) = (m : Int) ∧ m ≤ 11 := by
      split
      · exact ⟨11, by omega, by omega⟩
      · exact ⟨3 + (ns.map V.int).length, by omega, by omega⟩
    refine ⟨.ref a, rfl, a, ns.map V.int, rfl, .inl (s1.seq hS), _, _, rfl, _, _, rfl, rfl, ((m : Nat) : Int), congrArg (fun z => [V.int z]) hm, by omega, by omega, ?_⟩
    refine for_range (lo := 0) (n := ((m : Nat) : Int).toNat) (fun i σ H' => i ≤ m ∧ Lap (tabsOf p1 p2) H' r G (1099511627776 - 300 * i) ∧ ∃ y2 y3 y4 y5 y6 y7 y8, σ = [some (.ref a), some (.ref r), y2, y3, y4, y5, y6, y7, y8])
      ⟨by omega, L1, none, none, none, none, none, none, none, rfl⟩ ?_ ?_
    · rintro i σ H2 hi ⟨_, L2, y2, y3, y4, y5, y6, y7, y8, rfl⟩
      have hi : i < m := by simpa using hi
      obtain ⟨k, hk⟩ : ∃ k, 1099511627776 - 300 * i = k + 200 + 100 := ⟨1099511627776 - 300 * i - 300, by omega⟩
      rw [hk] at L2
      refine ⟨.ref r, rfl, r, G, k + 200, rfl, L2.st, fun l H3 hok hlen s3 k3 => ?_⟩
      have L3 := L2.draw k3 s3
      have hsl := sld_len l
      have hsl2 := sld_len (sld l)
      refine ⟨.str (S l), rfl, rfl, rfl, .str (S l), rfl, .inl ⟨l, rfl, by omega, fun _ _ H4 s4 => ?_, fun z => (z ⟨by omega, hok⟩).elim⟩⟩
      have L4 := L3.same s4
      rw [tSum]
      refine ⟨.str (S (sld l)), rfl, .str (S l), rfl, _, _, rfl, rfl, ?_, .str (S l), rfl, l, rfl, by omega, fun H5 s5 => ⟨_, _, rfl, rfl, ?_, rfl, _, rfl, ?_⟩⟩
      · rw [S_len, S_len, sizeLine_eq]; show l.length + 5 ≤ _; omega
      · rw [S_cat, S_len, S_len, sizeLine_eq]
        have := last_len l
        simp only [last, List.length_append] at this
        rw [List.length_append]
        show l.length + 5 + _ ≤ _
        omega
      rw [S_cat, S_cat, show l ++ 10 :: tg4 ++ numL (sm l % M62.P) = sld l by simp [sld, last], decide_eq_true rfl]
      have L5 := L4.same s5
      refine iteF ?_
      refine ⟨.str (S (sld l)), rfl, .str (S (sld l)), rfl, .inl ⟨sld l, rfl, by omega, fun b hb H6 s6 => ?_, fun z => by rw [opened_sld hok] at z; cases z⟩⟩
      obtain rfl : l = b := by rw [opened_sld hok] at hb; exact Option.some.inj hb
      refine ⟨.str (S l), rfl, rfl, _, rfl, ?_⟩
      rw [decide_eq_true rfl]
      have L6 := L5.same s6
      refine iteF ?_
      refine ⟨.str (S (sld l)), rfl, .str (S (sld l)), rfl, .inl ⟨sld l, rfl, by omega, fun _ _ H7 s7 => ?_, fun z => (z ⟨by omega, sld_ok hok⟩).elim⟩⟩
      refine ⟨rfl, rfl, .str (S (sld (sld l))), rfl, .inl ⟨sld (sld l), rfl, by omega, fun b hb H8 s8 => ?_, fun z => by rw [opened_sld (sld_ok hok)] at z; cases z⟩⟩
      obtain rfl : sld l = b := by rw [opened_sld (sld_ok hok)] at hb; exact Option.some.inj hb
      refine ⟨.str (S (sld l)), rfl, rfl, _, rfl, ?_⟩
      rw [decide_eq_true rfl]
      have L8 := (L6.same s7).same s8
      refine iteF ?_
      refine ⟨.str (S l), rfl, l, rfl, by omega, L8.tb, fun H9 e9 T9 => ⟨_, rfl, ?_⟩⟩
      have L9 := L8.ext e9 T9
      refine iteF ?_
      -- near
      refine ⟨20, rfl, by decide, by decide, ?_⟩
      refine for_range (lo := 0) (n := (20 : Int).toNat) (fun i σ H' => i ≤ 20 ∧ Lap (tabsOf p1 p2) H' r G (k + 200 - 10 * i) ∧ ∃ y2 y5 y6 y7 y8, σ = [some (.ref a), some (.ref r), y2, some (.str (S l)), some (.str (S (sld l))), y5, y6, y7, y8])
        ⟨by omega, L9, _, _, _, _, _, rfl⟩ ?_ ?_
      · rintro j σ H2 hj ⟨_, L2, y2, y5, y6, y7, y8, rfl⟩
        have hj : j < 20 := hj
        obtain ⟨k2, hk2⟩ : ∃ k2, k + 200 - 10 * j = k2 + 1 + 1 + 4 + 4 := ⟨k + 200 - 10 * j - 10, by omega⟩
        rw [hk2] at L2
        refine ⟨.ref r, rfl, .str (S (sld l)), rfl, r, G, k2 + 1 + 1 + 4, sld l, rfl, fun z => ?_, by omega, L2.st, fun l' H3 hN s3 k3 => ?_⟩
        · have := len_sld l
          rw [z] at this
          exact Nat.not_lt_zero _ this
        have L3 := L2.draw k3 s3
        have hl' := nr_len hN
        refine ⟨.str (S l'), rfl, .str (S (sld l)), rfl, rfl, _, rfl, ?_⟩
        by_cases hne2 : l' = sld l
        rw [decide_eq_true (show V.str (S l') = V.str (S (sld l)) by rw [hne2])]
        refine iteF (iteF ?_)
        have LX := L3
        generalize H3 = HX at LX ⊢
        rotate_left
        rw [decide_eq_false (show ¬ V.str (S l') = V.str (S (sld l)) from fun z => hne2 (S_eq.mp z))]
        refine iteT ⟨L3.tb, fun H4 e4 T4 => ?_⟩
        have L4 := L3.ext e4 T4
        refine ⟨.str (S l'), rfl, .str (S l'), rfl, .inl ⟨l', rfl, by omega, fun b hb => ?_, fun _ H5 s5 => ⟨aS, rfl, rfl, T.m_BadSeal, fun x nx => ?_⟩⟩⟩
        · rw [near_bad hok (by omega) hN hne2] at hb
          cases hb
        have L5 := (L4.same s5).same (same_upd (o := ErrO aS x) nx)
        refine .inr ⟨x, aS, .ref aS, .ref aS, true, rfl, T.e_BadSeal, upd_same, .own aS, T.i_BadSeal, ⟨_, rfl, ?_⟩⟩
        refine iteF ?_
        have LX := L5
        generalize upd H5 x (ErrO aS x) = HX at LX ⊢
        all_goals
          have es : ("s" : Str) = S [115] := by decide +kernel
          rw [es]
          refine ⟨.ref r, rfl, .str (S l'), rfl, _, _, rfl, rfl, ?_, ?_⟩
          · rw [S_len, S_len, sizeLine_eq]; show _ + 1 ≤ _; omega
          rw [S_cat]
          refine ⟨r, G, k2 + 1 + 1, l' ++ [115], rfl, by simp, by rw [List.length_append]; show _ + 1 ≤ _; omega, LX.st, fun l2 H5 hN2 s5 k5 => ?_⟩
          have hl2 := nr_len hN2
          rw [List.length_append] at hl2
          have hl2 : l2.length ≤ l'.length + 1 + 1 := hl2
          have L5 := LX.draw k5 s5
          refine ⟨l2, rfl, by omega, L5.tb, fun H6 e6 T6 => ⟨_, rfl, ?_⟩⟩
          have L6 := L5.ext e6 T6
          refine iteF ?_
          refine ⟨.str (S (sld l)), rfl, .ref r, rfl, by show 7 ≤ sizeLine; decide, fun p np => ?_⟩
          obtain ⟨C, gs, cs, l0, t0, g1, g2, _⟩ := L6.st.ex
          refine ⟨r, G, k2 + 1, .ref p, ends, rfl, L6.st.new np, by simp [ends], by simp [ends], .inr ⟨p, rfl, (ne_of_none g1 np).symm, (ne_of_none g2 np).symm, upd_same⟩, fun z H7 hz s7 k7 => ?_⟩
          have L7 := (L6.same (same_upd (o := .lst (ends.map V.str)) np)).draw k7 s7
          obtain ⟨lz, rfl, hz2⟩ := ends_len hz
          refine ⟨_, _, rfl, rfl, ?_, ?_⟩
          · rw [S_len, S_len, sizeLine_eq]; omega
          rw [S_cat]
          refine ⟨sld l ++ lz, rfl, by rw [List.length_append]; omega, L7.tb, fun H8 e8 T8 => ⟨_, rfl, ?_⟩⟩
          have L8 := L7.ext e8 T8
          refine iteF ?_
          exact ⟨by omega, L8.mono (by omega), _, _, _, _, _, rfl⟩
      · rintro σ H2 ⟨_, L2, y2, y5, y6, y7, y8, rfl⟩
        -- the odd things of unsealed
        have tTab : ("\t" : Str) = S [9] := by decide +kernel
        have tSum0 : ("\nsum 0" : Str) = S (10 :: [115, 117, 109, 32, 48]) := by decide +kernel
        have tS0 : ("sum 0" : Str) = S [115, 117, 109, 32, 48] := by decide +kernel
        have tE : ("" : Str) = S [] := by decide +kernel
        have eo : S l ++ S [9] ++ S (10 :: [115, 117, 109, 32, 48]) = S (l ++ 9 :: 10 :: [115, 117, 109, 32, 48]) := by
          rw [S_cat, S_cat]
          simp
        refine ⟨by decide, fun q1 n1 => ⟨by decide, fun q2 n2 => ⟨.str (S l), rfl, _, _, rfl, rfl, ?_, _, _, rfl, rfl, ?_, ?_⟩⟩⟩
        · rw [tTab, S_len, S_len, sizeLine_eq]; show _ + 1 ≤ _; omega
        · rw [tTab, tSum0, S_cat, S_len, S_len, List.length_append, sizeLine_eq]; show _ + 1 + 6 ≤ _; omega
        rw [tTab, tSum0, eo, tE, tS0]
        refine ⟨by show 8 ≤ sizeLine; decide, fun p np => ⟨p, rfl, ⟨_, SqL.of upd_same⟩, ?_⟩⟩
        have g1 : upd (upd (upd H2 q1 (.lst [V.str (S (10 :: [115, 117, 109, 32, 48]))])) q2 (.tup [V.str (S (10 :: [115, 117, 109, 32, 48]))])) p (.lst [V.non, V.int 5, V.bl true, V.ref q1, V.ref q2, V.str (S (l ++ 9 :: 10 :: [115, 117, 109, 32, 48])), V.str (S []), V.str (S [115, 117, 109, 32, 48])]) q1 = some (.lst [V.str (S (10 :: [115, 117, 109, 32, 48]))]) := at_new np (at_new n2 upd_same)
        have g2 : upd (upd (upd H2 q1 (.lst [V.str (S (10 :: [115, 117, 109, 32, 48]))])) q2 (.tup [V.str (S (10 :: [115, 117, 109, 32, 48]))])) p (.lst [V.non, V.int 5, V.bl true, V.ref q1, V.ref q2, V.str (S (l ++ 9 :: 10 :: [115, 117, 109, 32, 48])), V.str (S []), V.str (S [115, 117, 109, 32, 48])]) q2 = some (.tup [V.str (S (10 :: [115, 117, 109, 32, 48]))]) := at_new np upd_same
        refine for_list (K := K) (a := p) (xs := [V.non, V.int 5, V.bl true, V.ref q1, V.ref q2, V.str (S (l ++ 9 :: 10 :: [115, 117, 109, 32, 48])), V.str (S []), V.str (S [115, 117, 109, 32, 48])])
          (fun i σ H' => Lap (tabsOf p1 p2) H' r G k ∧ H' p = some (.lst [V.non, V.int 5, V.bl true, V.ref q1, V.ref q2, V.str (S (l ++ 9 :: 10 :: [115, 117, 109, 32, 48])), V.str (S []), V.str (S [115, 117, 109, 32, 48])]) ∧
            H' q1 = some (.lst [V.str (S (10 :: [115, 117, 109, 32, 48]))]) ∧ H' q2 = some (.tup [V.str (S (10 :: [115, 117, 109, 32, 48]))]) ∧
            ∃ y2 y5 y6 y7 y8, σ = [some (.ref a), some (.ref r), y2, some (.str (S l)), some (.str (S (sld l))), y5, y6, y7, y8])
          ⟨((L2.same (same_upd n1)).same (same_upd n2)).same (same_upd np) |>.mono (by omega), upd_same, g1, g2, _, _, _, _, _, rfl⟩ (fun i σ H' _ h => SqL.of h.2.1) ?_ ?_
        · rintro j x σ H' hx ⟨L, gp, g1, g2, y2, y5, y6, y7, y8, rfl⟩
          have odd : ∀ H3, ExtN H' H3 → OddU K H3 x := fun H3 e3 => by
            have g1 := e3 _ _ g1 (fun _ z => nomatch z)
            have g2 := e3 _ _ g2 (fun _ z => nomatch z)
            have hm := List.mem_of_getElem? hx
            simp only [List.mem_cons, List.not_mem_nil, or_false] at hm
            rcases hm with rfl | rfl | rfl | rfl | rfl | rfl | rfl | rfl
            · exact .inr no_non
            · exact .inr (no_int _)
            · exact .inr (no_bl _)
            · exact .inr (no_lst g1)
            · exact .inr (no_tup g2)
            · exact .inl ⟨_, rfl, by rw [List.length_append]; show _ + 7 ≤ _; omega, opened_9 l⟩
            · exact .inl ⟨_, rfl, by decide, opened_free (by decide)⟩
            · exact .inl ⟨_, rfl, by decide, opened_free (by decide)⟩
          refine ⟨L.tb, fun H3 e3 T3 => ?_⟩
          have L3 := L.ext e3 T3
          have fin : ∀ H4, Same H3 H4 → ∀ b, H4 b = none → Lap (tabsOf p1 p2) (upd H4 b (ErrO aS b)) r G k ∧ upd H4 b (ErrO aS b) p = some (.lst [V.non, V.int 5, V.bl true, V.ref q1, V.ref q2, V.str (S (l ++ 9 :: 10 :: [115, 117, 109, 32, 48])), V.str (S []), V.str (S [115, 117, 109, 32, 48])]) ∧
              upd H4 b (ErrO aS b) q1 = some (.lst [V.str (S (10 :: [115, 117, 109, 32, 48]))]) ∧ upd H4 b (ErrO aS b) q2 = some (.tup [V.str (S (10 :: [115, 117, 109, 32, 48]))]) := fun H4 s4 b nb =>
            ⟨(L3.same s4).same (same_upd nb), at_new nb (s4 _ _ (e3 _ _ gp (fun _ z => nomatch z))), at_new nb (s4 _ _ (e3 _ _ g1 (fun _ z => nomatch z))), at_new nb (s4 _ _ (e3 _ _ g2 (fun _ z => nomatch z)))⟩
          refine ⟨x, rfl, x, rfl, ?_⟩
          rcases odd H3 e3 with ⟨lx, rfl, hlx, ho⟩ | hno
          · refine .inl ⟨lx, rfl, hlx, fun b hb => (by rw [ho] at hb; cases hb), fun _ H4 s4 => ⟨aS, rfl, rfl, T.m_BadSeal, fun b nb => ?_⟩⟩
            obtain ⟨f1, f2, f3, f4⟩ := fin H4 s4 b nb
            refine .inr ⟨b, aS, .ref aS, .ref aS, true, rfl, T.e_BadSeal, upd_same, .own aS, T.i_BadSeal, ⟨_, rfl, iteF ?_⟩⟩
            exact ⟨f1, f2, f3, f4, _, _, _, _, _, rfl⟩
          · refine .inr ⟨hno, ⟨aS, rfl, rfl, T.m_BadSeal, fun b nb => ?_⟩⟩
            obtain ⟨f1, f2, f3, f4⟩ := fin H3 (Same.refl H3) b nb
            refine .inr ⟨b, aS, .ref aS, .ref aS, true, rfl, T.e_BadSeal, upd_same, .own aS, T.i_BadSeal, ⟨_, rfl, iteF ?_⟩⟩
            exact ⟨f1, f2, f3, f4, _, _, _, _, _, rfl⟩
        · rintro σ H3 ⟨L3, _, _, _, y2, y5, y6, y7, y8, rfl⟩
          have e1 : S l ++ S [9] = S (l ++ [9]) := S_cat _ _
          have e2 : S [9] ++ S l = S (9 :: l) := S_cat _ _
          have e4 : S (l ++ [9]) ++ S l = S (l ++ 9 :: l) := by rw [S_cat]; simp
          refine ⟨.str (S l), rfl, by show 1 ≤ sizeLine; decide, fun q1 n1 => ⟨.str (S l), rfl, by show 1 ≤ sizeLine; decide, fun q2 n2 => ⟨.str (S l), rfl, _, _, rfl, rfl, ?_, .str (S l), rfl, _, _, rfl, rfl, ?_, .str (S l), rfl, _, _, rfl, rfl, ?_, .str (S l), rfl, _, _, rfl, rfl, ?_, ?_⟩⟩⟩
          · rw [S_len, S_len, sizeLine_eq]; show _ + 1 ≤ _; omega
          · rw [S_len, S_len, sizeLine_eq]; show 1 + _ ≤ _; omega
          · rw [S_len, S_len, sizeLine_eq]; show _ + 1 ≤ _; omega
          · rw [S_cat, S_len, S_len, List.length_append, sizeLine_eq]; show _ + 1 + _ ≤ _; omega
          rw [e1, e2, e4]
          refine ⟨by show 8 ≤ sizeLine; decide, fun p np => ⟨p, rfl, ⟨_, SqL.of upd_same⟩, ?_⟩⟩
          have g1 : upd (upd (upd H3 q1 (.lst [V.str (S l)])) q2 (.tup [V.str (S l)])) p (.lst [V.non, V.int 5, V.bl true, V.ref q1, V.ref q2, V.str (S (l ++ [9])), V.str (S (9 :: l)), V.str (S (l ++ 9 :: l))]) q1 = some (.lst [V.str (S l)]) := at_new np (at_new n2 upd_same)
          have g2 : upd (upd (upd H3 q1 (.lst [V.str (S l)])) q2 (.tup [V.str (S l)])) p (.lst [V.non, V.int 5, V.bl true, V.ref q1, V.ref q2, V.str (S (l ++ [9])), V.str (S (9 :: l)), V.str (S (l ++ 9 :: l))]) q2 = some (.tup [V.str (S l)]) := at_new np upd_same
          refine for_list (K := K) (a := p) (xs := [V.non, V.int 5, V.bl true, V.ref q1, V.ref q2, V.str (S (l ++ [9])), V.str (S (9 :: l)), V.str (S (l ++ 9 :: l))])
            (fun i σ H' => Lap (tabsOf p1 p2) H' r G k ∧ H' p = some (.lst [V.non, V.int 5, V.bl true, V.ref q1, V.ref q2, V.str (S (l ++ [9])), V.str (S (9 :: l)), V.str (S (l ++ 9 :: l))]) ∧
              H' q1 = some (.lst [V.str (S l)]) ∧ H' q2 = some (.tup [V.str (S l)]) ∧
              ∃ y2 y5 y6 y7 y8, σ = [some (.ref a), some (.ref r), y2, some (.str (S l)), some (.str (S (sld l))), y5, y6, y7, y8])
            ⟨((L3.same (same_upd n1)).same (same_upd n2)).same (same_upd np) |>.mono (by omega), upd_same, g1, g2, _, _, _, _, _, rfl⟩ (fun i σ H' _ h => SqL.of h.2.1) ?_ ?_
          · rintro j x σ H' hx ⟨L, gp, g1, g2, y2, y5, y6, y7, y8, rfl⟩
            have odd : ∀ H6, ExtN H' H6 → OddS K H6 x := fun H6 e3 => by
              have g1 := e3 _ _ g1 (fun _ z => nomatch z)
              have g2 := e3 _ _ g2 (fun _ z => nomatch z)
              have hm := List.mem_of_getElem? hx
              simp only [List.mem_cons, List.not_mem_nil, or_false] at hm
              rcases hm with rfl | rfl | rfl | rfl | rfl | rfl | rfl | rfl
              · exact .inr no_non
              · exact .inr (no_int _)
              · exact .inr (no_bl _)
              · exact .inr (no_lst g1)
              · exact .inr (no_tup g2)
              · exact .inl ⟨_, rfl, by rw [List.length_append]; show _ + 1 ≤ _; omega, by simp⟩
              · exact .inl ⟨_, rfl, by rw [List.length_cons]; omega, by simp⟩
              · exact .inl ⟨_, rfl, by rw [List.length_append, List.length_cons]; omega, by simp⟩
            refine ⟨L.tb, fun H6 e3 T3 => ?_⟩
            have L6 := L.ext e3 T3
            have fin : ∀ H4, Same H6 H4 → ∀ b, H4 b = none → Lap (tabsOf p1 p2) (upd H4 b (ErrO aT b)) r G k ∧ upd H4 b (ErrO aT b) p = some (.lst [V.non, V.int 5, V.bl true, V.ref q1, V.ref q2, V.str (S (l ++ [9])), V.str (S (9 :: l)), V.str (S (l ++ 9 :: l))]) ∧
                upd H4 b (ErrO aT b) q1 = some (.lst [V.str (S l)]) ∧ upd H4 b (ErrO aT b) q2 = some (.tup [V.str (S l)]) := fun H4 s4 b nb =>
              ⟨(L6.same s4).same (same_upd nb), at_new nb (s4 _ _ (e3 _ _ gp (fun _ z => nomatch z))), at_new nb (s4 _ _ (e3 _ _ g1 (fun _ z => nomatch z))), at_new nb (s4 _ _ (e3 _ _ g2 (fun _ z => nomatch z)))⟩
            refine ⟨x, rfl, x, rfl, ?_⟩
            rcases odd H6 e3 with ⟨lx, rfl, hlx, ho⟩ | hno
            · refine .inl ⟨lx, rfl, hlx, fun _ z => (no9 ho z).elim, fun _ H4 s4 => ⟨aT, rfl, rfl, T.m_BadThing, fun b nb => ?_⟩⟩
              obtain ⟨f1, f2, f3, f4⟩ := fin H4 s4 b nb
              refine .inr ⟨b, aT, .ref aT, .ref aT, true, rfl, T.e_BadThing, upd_same, .own aT, T.i_BadThing, ⟨_, rfl, iteF ?_⟩⟩
              exact ⟨f1, f2, f3, f4, _, _, _, _, _, rfl⟩
            · refine .inr ⟨hno, ⟨aT, rfl, rfl, T.m_BadThing, fun b nb => ?_⟩⟩
              obtain ⟨f1, f2, f3, f4⟩ := fin H6 (Same.refl H6) b nb
              refine .inr ⟨b, aT, .ref aT, .ref aT, true, rfl, T.e_BadThing, upd_same, .own aT, T.i_BadThing, ⟨_, rfl, iteF ?_⟩⟩
              exact ⟨f1, f2, f3, f4, _, _, _, _, _, rfl⟩
          · rintro σ H6 ⟨L6, _, _, _, y2, y5, y6, y7, y8, rfl⟩
            exact ⟨by omega, L6.mono (by omega), _, _, _, _, _, _, _, rfl⟩
    · rintro σ H2 ⟨_, L2, y2, y3, y4, y5, y6, y7, y8, rfl⟩
      refine ⟨126, 4200, by decide +kernel, rfl, by decide, by decide, ?_⟩
      have gl := List.length_replicate (n := 4200) (a := 126)
      have gok := great_ok
      have gsm := great_sum
      generalize List.replicate 4200 126 = gr at gl gok gsm ⊢
      have hg := sld_len gr
      refine ⟨.str (S gr), rfl, .str (S gr), rfl, .inl ⟨gr, rfl, by omega, fun _ _ H3 s3 => ?_, fun z => (z ⟨by omega, gok⟩).elim⟩⟩
      have t0 : ("\nsum 0" : Str) = S (sld []) := by decide +kernel
      have tE : ("" : Str) = S [] := by decide +kernel
      rw [tSum, t0, tE]
      refine ⟨.str (S gr), rfl, _, _, rfl, rfl, ?_, ?_⟩
      · rw [S_len, S_len, sizeLine_eq, gl]; show _ + 5 ≤ _; omega
      refine ⟨_, _, rfl, rfl, .inl ⟨by decide, by decide⟩, _, _, rfl, rfl, .inl ⟨by decide, by decide⟩, _, _, rfl, rfl, _, rfl, ?_, ?_⟩
      · decide
      have ei : ((63 : Int) * 4200 * 4201 - 1000000007) = ((111584593 : Nat) : Int) := by decide
      rw [ei, str_num]
      have eq : S gr ++ S (10 :: tg4) ++ S (numL 111584593) = S (sld gr) := by
        rw [S_cat, S_cat, sld, last, gsm]
        simp
      have hb0 : (numL 111584593).length ≤ 9 := by decide +kernel
      refine ⟨_, _, rfl, rfl, ?_, rfl, _, rfl, ?_⟩
      · rw [S_cat, S_len, S_len, sizeLine_eq, List.length_append, gl]; show 4200 + 5 + _ ≤ _; omega
      rw [eq, decide_eq_true rfl]
      refine iteT ⟨.str (S (sld [])), rfl, .inl ⟨sld [], rfl, by decide, fun b hb H4 s4 => ?_, fun z => by rw [opened_sld rfl] at z; cases z⟩⟩
      rw [opened_sld rfl] at hb
      obtain rfl : [] = b := Option.some.inj hb
      refine ⟨rfl, _, rfl, ?_⟩
      rw [decide_eq_true rfl]
      refine iteT ⟨.str (S []), rfl, .inl ⟨[], rfl, by decide, fun _ _ H5 s5 => ⟨rfl, ?_⟩, fun z => (z ⟨by decide, rfl⟩).elim⟩⟩
      rw [decide_eq_true rfl]
      exact q _
end
end K62

set_option Elab.async false
set_option linter.all false
set_option maxRecDepth 100000
set_option maxHeartbeats 4000000
namespace K62
open PySem PySem.Spec PyProof.Rows L2 Sw M62 SX LamX
/-- the end, the tables of all defs told empty -/
theorem walk_tabs {l : PySem.W.OpenLaw} {n k : Nat} {q : Program} {loose : List Str} {XP : (Str → Option Value) → Heap → Prop} {YP : World → Heap → Prop} {d : DefRec} {K : Params → PySem.W.Frag} {CX : World → CXT} {x : Str}
    (hn : l.most = some n) (hn2 : n ≤ sizeLine) (hdf : d.params.defaults = []) (hr : Room k callerA) (hY : ∀ (w : World) (h : Heap), YP w h → (K w.params).In h)
    (F : ∀ (w : World) (mg : Str → Option Value) (fa : Addr) (h : Heap), YP w h → (K w.params).In h → h.Ns mainGlobals mg → mg d.name = some (.ref fa) →
      (∀ (y : Str) (c P : Addr), ((recsOf q).find? fun e => e.name == y).isSome = true → PySem.W.tabIn (K w.params) y = some (c, P) → PySem.W.CodeHd h c P ∧ h.get? P = some { cls := .none, data := .fields #[] }) → LawAtS l w (K w.params) (CX w) k n x mg fa h)
    (hCX : ∀ (w : World) (H : Hp) (s : Shared) (e : Value) (s' : Shared), CX w [] H s (fun _ _ _ => False) e s' → False) :
    PySem.W.WalkO q loose XP YP l.row.toRowW d [] (fun f vs => PySem.call f vs) := by
  refine Att.attach_callB hn hdf fun w s₀ s₁ mg mb fa o pm cd doc a vs ns G Y ho hd hcd hmg hobj hints hlen hbits hg => ?_
  have KX := hY w _ Y
  obtain ⟨fd, cs, sp, hT, nT, C, hb, hsp, hF⟩ := F w mg fa _ Y KX G.T.g hmg (fun y c P hr ht => by
    obtain ⟨dr, hdr⟩ := Option.isSome_iff_exists.mp hr
    exact PySem.W.tab_of G.T KX hdr ht)
  exact law_callTs KX G.T.g G.T.b G.T.builtins G.T.nolimit hg hT nT C G.T.bmain hobj hints (Nat.le_trans hlen hn2) hr hF hb (fun H hH hS => hsp H a ns hlen hbits hH hS) fun H e s' => hCX w H s₁ e s'
theorem all_mk {l : PySem.W.OpenLaw} {w : World} {K : PySem.W.Frag} {h : Heap} {mg : Str → Option Value} {fa aN aS aT f1 c1 p1 f2 c2 p2 : Addr} (hfa : mg "law" = some (.ref fa)) (T : Txt K mg aN aS aT)
    (D_is_signs : DefN K mg "is_signs" s_is_signs)
    (D_seal_sum : DefN K mg "seal_sum" s_seal_sum)
    (D_is_sealable : DefN K mg "is_sealable" s_is_sealable)
    (D_sealed : DefN K mg "sealed" s_sealed)
    (D_told_number : DefN K mg "told_number" s_told_number)
    (D_unsealed : DefN K mg "unsealed" s_unsealed)
    (D__law_begun : DefN K mg "_law_begun" s__law_begun)
    (D__law_blended : DefN K mg "_law_blended" s__law_blended)
    (D__law_draw : DefN K mg "_law_draw" s__law_draw)
    (D__law_pick : DefN K mg "_law_pick" s__law_pick)
    (D__law_caught : DefN K mg "_law_caught" s__law_caught)
    (D__law_tx_signs : DefN K mg "_law_tx_signs" s__law_tx_signs)
    (D__law_k62_sum : DefN K mg "_law_k62_sum" s__law_k62_sum)
    (D__law_k62_text : DefN K mg "_law_k62_text" s__law_k62_text)
    (D__law_k62_opened : DefN K mg "_law_k62_opened" s__law_k62_opened)
    (D__law_k62_near : DefN K mg "_law_k62_near" s__law_k62_near)
    (Dt : DefC K mg "_law_k62_told" s__law_k62_told f1 c1) (Dl : DefC K mg "law" s_law f2 c2)
    (t1 : PySem.W.CodeHd h c1 p1 ∧ h.get? p1 = some { cls := .none, data := .fields #[] }) (t2 : PySem.W.CodeHd h c2 p2 ∧ h.get? p2 = some { cls := .none, data := .fields #[] }) (n1 : K.lookup p1 = none) (n2 : K.lookup p2 = none) (ne : p1 ≠ p2) : LawAtS l w K C8.CX0 7 63 "script" mg fa h := by
  obtain ⟨oc, kV, doc, pm, ct, od, an, osl, lk⟩ := Dl.ex
  have hcd := Dl.cd
  obtain rfl : fa = f2 := by
    have ml := Dl.mgf
    rw [hfa] at ml
    exact Value.ref.inj (Option.some.inj ml)
  refine ⟨PySem.W.fnOf "law" "law" (C8.fnArgs s_law) (C8.fnBody s_law) (C8.fnScope s_law) .none kV doc pm an (.ref c2) ct, [(c1, p1), (c2, p2)], spLaw K (tabsOf p1 p2), fun p hp => ?_, fun p hp => ?_, fun p hp => ?_, fun s u => .of_eq rfl, fun H a ns hl _ hH hS => ?_, fun base _ _ TB => ?_⟩
  · rcases List.mem_cons.mp hp with rfl | hp
    · exact t1.2
    · obtain rfl := List.mem_singleton.mp hp
      exact t2.2
  · rcases List.mem_cons.mp hp with rfl | hp
    · exact n1
    · obtain rfl := List.mem_singleton.mp hp
      exact n2
  · rcases List.mem_cons.mp hp with rfl | hp
    · exact t1.1
    · obtain rfl := List.mem_singleton.mp hp
      exact t2.1
  · refine ⟨a, ns, rfl, hS, by omega, fun p hp => ?_, fun _ => rfl⟩
    rcases List.mem_cons.mp hp with rfl | hp
    · exact TabS.nil (hH (c1, p1) List.mem_cons_self)
    · obtain rfl := List.mem_singleton.mp hp
      exact TabS.nil (hH (c2, p2) (List.mem_cons_of_mem _ List.mem_cons_self))
  · have TB1 := TB (c1, p1) List.mem_cons_self
    have TB2 := TB (c2, p2) (List.mem_cons_of_mem _ List.mem_cons_self)
    have C_blended := d_blended (P := l.prog) (w := w) (base := base) D__law_blended T
    have C_draw := d_draw D__law_draw T C_blended
    have C_pick := d_pick D__law_pick T C_draw
    have C_signs := d_signs (P := l.prog) (w := w) (base := base) D__law_tx_signs
    have C_is_signs := d_is_signs (P := l.prog) (w := w) (base := base) D_is_signs T
    have C_sum := d_seal_sum (P := l.prog) (w := w) (base := base) D_seal_sum T
    have C_is_sealable := d_is_sealable D_is_sealable T C_is_signs
    have C_sealed := d_sealed D_sealed T C_is_sealable C_sum
    have C_told_number := d_told_number (P := l.prog) (w := w) (base := base) D_told_number T
    have C_unsealed := d_unsealed D_unsealed T C_is_sealable C_sum C_told_number
    have C_lsum := d_lsum (P := l.prog) (w := w) (base := base) D__law_k62_sum T
    have C_text := d_text D__law_k62_text T C_draw C_pick C_signs
    have C_opened := d_opened D__law_k62_opened T C_lsum
    have C_near := d_near D__law_k62_near T C_draw C_pick C_signs
    have C_begun := d_begun (P := l.prog) (w := w) (base := base) D__law_begun T
    have C_told := d_told Dt T TB1 ne D__law_caught C_opened C_unsealed
    exact d_law lk hcd T TB2 ne D__law_caught C_begun C_text C_near C_lsum C_pick C_told C_sealed C_unsealed
end K62

set_option Elab.async false
set_option linter.all false
set_option maxRecDepth 100000
set_option maxHeartbeats 4000000
namespace K62
open PySem PySem.Spec PyProof.Rows L2 Sw M62 SX LamX
theorem exm_by {K : PySem.W.Frag} {C N : Addr} (b : PySem.W.subIn K (.ref N) (.type "BaseException") = some true) (i : PySem.W.isClsIn K N = true) (t : PySem.W.typeIn K (.ref N) = some (.type "type")) (s : PySem.W.subIn K (.ref C) (.ref N) = some true) : PySem.W.exmOne K (.ref C) (.ref N) = some true := by
  unfold PySem.W.exmOne PySem.W.kitCls
  unfold PySem.W.isClsIn at i
  show (if (PySem.W.subIn K (.ref N) (.type "BaseException") == some true) = true then (if ((PySem.W.clsIn K N).isSome && PySem.W.typeIn K (.ref N) == some (.type "type")) = true then PySem.W.subIn K (.ref C) (.ref N) else none) else none) = some true
  rw [b, t, i]
  exact (if_pos (beq_iff_eq.mpr rfl)).trans ((if_pos (beq_iff_eq.mpr rfl)).trans s)
theorem tabIn_of {K : PySem.W.Frag} {x : Str} {f c P : Addr} {oc e : Value} {od dd : Option Addr} {osl sl : Array (Option Value)} {fd : FuncData} {vs : Array Value} (a : PySem.W.nsIn K mainGlobals x = some (some (.ref f))) (l : K.lookup f = some ⟨oc, od, .func fd, osl⟩) (lf : fd.code = .ref c)
    (lc : K.lookup c = some ⟨e, dd, .fields vs, sl⟩) (v : (vs[11]? : Option Value) = some (.ref P)) : PySem.W.tabIn K x = some (c, P) := by
  unfold PySem.W.tabIn
  rw [a]
  dsimp only
  rw [l]
  dsimp only
  rw [lf]
  dsimp only
  rw [lc]
  dsimp only
  rw [v]
theorem kit_self {K : PySem.W.Frag} (C : Addr) : PySem.W.kitOne K (.ref C) (.ref C) = some true := by
  unfold PySem.W.kitOne
  rw [if_pos (beq_iff_eq.mpr rfl)]
theorem txt_mk {K : PySem.W.Frag} {h : Heap} {mg : Str → Option Value} {aN aS aT : Addr} {u1 u2 u3 u4 : Value} (X : K.In h) (G : h.Ns mainGlobals mg)
    (b_len : PySem.W.nsIn K mainGlobals "len" = some none)
    (b_abs : PySem.W.nsIn K mainGlobals "abs" = some none)
    (b_int : PySem.W.nsIn K mainGlobals "int" = some none)
    (b_str : PySem.W.nsIn K mainGlobals "str" = some none)
    (b_ord : PySem.W.nsIn K mainGlobals "ord" = some none)
    (b_min : PySem.W.nsIn K mainGlobals "min" = some none)
    (b_all : PySem.W.nsIn K mainGlobals "all" = some none)
    (b_range : PySem.W.nsIn K mainGlobals "range" = some none)
    (b_enumerate : PySem.W.nsIn K mainGlobals "enumerate" = some none)
    (b_isinstance : PySem.W.nsIn K mainGlobals "isinstance" = some none)
    (g_PRIME : PySem.W.nsIn K mainGlobals "PRIME" = some (some u1)) (r_PRIME : RelV (.int 1000000007) u1)
    (g_MOST_SEALED : PySem.W.nsIn K mainGlobals "MOST_SEALED" = some (some u2)) (r_MOST_SEALED : RelV (.int 1000000) u2)
    (g_MOST_SUM : PySem.W.nsIn K mainGlobals "MOST_SUM" = some (some u3)) (r_MOST_SUM : RelV (.int 10) u3)
    (g_FIGURES : PySem.W.nsIn K mainGlobals "FIGURES" = some (some u4)) (r_FIGURES : RelV (.str "0123456789") u4)
    (a_NetError : PySem.W.nsIn K mainGlobals "NetError" = some (some (.ref aN)))
    (a_BadSeal : PySem.W.nsIn K mainGlobals "BadSeal" = some (some (.ref aS)))
    (a_BadThing : PySem.W.nsIn K mainGlobals "BadThing" = some (some (.ref aT)))
    (sb_NetError : PySem.W.subIn K (.ref aN) (.type "BaseException") = some true)
    (ty_NetError : PySem.W.typeIn K (.ref aN) = some (.type "type"))
    (ic_NetError : PySem.W.isClsIn K aN = true)
    (x_BadSeal : PySem.W.excIn K aS [.type "ValueError", .type "Exception", .type "BaseException", .type "object"] "ValueError.__new__" = true)
    (k_BadSeal : PySem.W.keepIn K (.ref aS) = true)
    (sb_BadSeal : PySem.W.subIn K (.ref aS) (.type "BaseException") = some true)
    (ty_BadSeal : PySem.W.typeIn K (.ref aS) = some (.type "type"))
    (m_BadSeal : PySem.W.subIn K (.ref aS) (.ref aN) = some true)
    (hg_BadSeal : PySem.W.findIn K (.ref aS) "__getattribute__" = some (some (.builtin "BaseException.__getattribute__")))
    (hk_BadSeal : PySem.W.findIn K (.ref aS) "__getattr__" = some none)
    (hd_BadSeal : PySem.W.hasDictIn K aS = true)
    (ha_BadSeal : PySem.W.findIn K (.ref aS) "__class__" = some (some (.builtin "object.__class__")))
    (hm_BadSeal : PySem.W.mroIn K aS (.type "object") = some true)
    (x_BadThing : PySem.W.excIn K aT [.type "ValueError", .type "Exception", .type "BaseException", .type "object"] "ValueError.__new__" = true)
    (k_BadThing : PySem.W.keepIn K (.ref aT) = true)
    (sb_BadThing : PySem.W.subIn K (.ref aT) (.type "BaseException") = some true)
    (ty_BadThing : PySem.W.typeIn K (.ref aT) = some (.type "type"))
    (m_BadThing : PySem.W.subIn K (.ref aT) (.ref aN) = some true)
    (hg_BadThing : PySem.W.findIn K (.ref aT) "__getattribute__" = some (some (.builtin "BaseException.__getattribute__")))
    (hk_BadThing : PySem.W.findIn K (.ref aT) "__getattr__" = some none)
    (hd_BadThing : PySem.W.hasDictIn K aT = true)
    (ha_BadThing : PySem.W.findIn K (.ref aT) "__class__" = some (some (.builtin "object.__class__")))
    (hm_BadThing : PySem.W.mroIn K aT (.type "object") = some true)
    (hn : PySem.W.specialIn K (.builtin "object.__class__") "__get__" = some (some (.builtin "getset_descriptor.__get__")))
    (ht : PySem.W.takesIn K (.builtin "object.__class__") = some true) : Txt K mg aN aS aT where
  b_len := PySem.W.mg_none_of X G b_len
  b_abs := PySem.W.mg_none_of X G b_abs
  b_int := PySem.W.mg_none_of X G b_int
  b_str := PySem.W.mg_none_of X G b_str
  b_ord := PySem.W.mg_none_of X G b_ord
  b_min := PySem.W.mg_none_of X G b_min
  b_all := PySem.W.mg_none_of X G b_all
  b_range := PySem.W.mg_none_of X G b_range
  b_enumerate := PySem.W.mg_none_of X G b_enumerate
  b_isinstance := PySem.W.mg_none_of X G b_isinstance
  g_PRIME := ⟨_, PySem.W.mg_of X G g_PRIME, r_PRIME⟩
  g_MOST_SEALED := ⟨_, PySem.W.mg_of X G g_MOST_SEALED, r_MOST_SEALED⟩
  g_MOST_SUM := ⟨_, PySem.W.mg_of X G g_MOST_SUM, r_MOST_SUM⟩
  g_FIGURES := ⟨_, PySem.W.mg_of X G g_FIGURES, r_FIGURES⟩
  c_BadSeal := ⟨_, PySem.W.mg_of X G a_BadSeal, rfl⟩
  c_BadThing := ⟨_, PySem.W.mg_of X G a_BadThing, rfl⟩
  c1_NetError := PySem.W.mg_of X G a_NetError
  c1_BadSeal := PySem.W.mg_of X G a_BadSeal
  c1_BadThing := PySem.W.mg_of X G a_BadThing
  m_BadSeal := exm_by sb_NetError ic_NetError ty_NetError m_BadSeal
  i_BadSeal := kit_self _
  x_BadSeal := x_BadSeal
  k_BadSeal := k_BadSeal
  sb_BadSeal := sb_BadSeal
  ty_BadSeal := ty_BadSeal
  e_BadSeal := ⟨hg_BadSeal, hk_BadSeal, sb_BadSeal, hd_BadSeal, ha_BadSeal, hn, ht, hm_BadSeal⟩
  m_BadThing := exm_by sb_NetError ic_NetError ty_NetError m_BadThing
  i_BadThing := kit_self _
  x_BadThing := x_BadThing
  k_BadThing := k_BadThing
  sb_BadThing := sb_BadThing
  ty_BadThing := ty_BadThing
  e_BadThing := ⟨hg_BadThing, hk_BadThing, sb_BadThing, hd_BadThing, ha_BadThing, hn, ht, hm_BadThing⟩
theorem defC_mk {K : PySem.W.Frag} {h : Heap} {mg : Str → Option Value} {x : Str} {st : Stmt} {f c : Addr} {oc kV doc pm ct : Value} {od an : Option Addr} {osl : Array (Option Value)} (X : K.In h) (G : h.Ns mainGlobals mg) (a : PySem.W.nsIn K mainGlobals x = some (some (.ref f)))
    (l : K.lookup f = some ⟨oc, od, .func (PySem.W.fnOf x x (C8.fnArgs st) (C8.fnBody st) (C8.fnScope st) .none kV doc pm an (.ref c) ct), osl⟩) (cd : PySem.W.codeIn K (.ref c) x = true) (k : PySem.W.keepIn K (.ref f) = true) : DefC K mg x st f c :=
  ⟨⟨_, _, _, _, _, _, _, _, l⟩, cd, PySem.W.mg_of X G a, k⟩
end K62
open PySem PySem.W PyProof.Rows
set_option maxRecDepth 100000 in
set_option maxHeartbeats 0 in
theorem PySem.Challenge.cw_sureweights_k62_whole_seals_by_own_sums_holds : PySem.Challenge.rw_sureweights_k62_whole_seals_by_own_sums.Holds := by
  w_on; o_law; k_head; (case hw => w_witness2)
  k_fill
  refine K62.walk_tabs (l := PySem.Challenge.rw_sureweights_k62_whole_seals_by_own_sums) (n := 63) (k := 7) (x := "script") (CX := fun _ => C8.CX0) rfl (by decide) rfl ⟨rfl, by decide, by decide⟩ (fun w h Y => PySem.W.km_in_of Y) ?F (fun _ _ _ _ _ z => z)
  case F =>
    intro w mg fa h Y KX G hmg tabs
    refine' K62.all_mk hmg ?T ?D_is_signs ?D_seal_sum ?D_is_sealable ?D_sealed ?D_told_number ?D_unsealed ?D__law_begun ?D__law_blended ?D__law_draw ?D__law_pick ?D__law_caught ?D__law_tx_signs ?D__law_k62_sum ?D__law_k62_text ?D__law_k62_opened ?D__law_k62_near ?Dt ?Dl (tabs "_law_k62_told" _ _ ?r1 ?t1) (tabs "law" _ _ ?r2 ?t2) ?n1 ?n2 ?ne
    case T =>
      refine' K62.txt_mk KX G ?b_len ?b_abs ?b_int ?b_str ?b_ord ?b_min ?b_all ?b_range ?b_enumerate ?b_isinstance ?g_PRIME ?r_PRIME ?g_MOST_SEALED ?r_MOST_SEALED ?g_MOST_SUM ?r_MOST_SUM ?g_FIGURES ?r_FIGURES ?a_NetError ?a_BadSeal ?a_BadThing ?sb_NetError ?ty_NetError ?ic_NetError ?x_BadSeal ?k_BadSeal ?sb_BadSeal ?ty_BadSeal ?m_BadSeal ?hg_BadSeal ?hk_BadSeal ?hd_BadSeal ?ha_BadSeal ?hm_BadSeal ?x_BadThing ?k_BadThing ?sb_BadThing ?ty_BadThing ?m_BadThing ?hg_BadThing ?hk_BadThing ?hd_BadThing ?ha_BadThing ?hm_BadThing ?hn ?ht
      (case b_len => k_is)
      (case b_abs => k_is)
      (case b_int => k_is)
      (case b_str => k_is)
      (case b_ord => k_is)
      (case b_min => k_is)
      (case b_all => k_is)
      (case b_range => k_is)
      (case b_enumerate => k_is)
      (case b_isinstance => k_is)
      (case g_PRIME => k_is); (case r_PRIME => exact ⟨_, rfl⟩)
      (case g_MOST_SEALED => k_is); (case r_MOST_SEALED => exact ⟨_, rfl⟩)
      (case g_MOST_SUM => k_is); (case r_MOST_SUM => exact ⟨_, rfl⟩)
      (case g_FIGURES => k_is); (case r_FIGURES => exact ⟨_, rfl⟩)
      (case a_NetError => k_is)
      (case a_BadSeal => k_is)
      (case a_BadThing => k_is)
      (case sb_NetError => k_is)
      (case ty_NetError => k_is)
      (case ic_NetError => k_is)
      (case x_BadSeal => k_exc)
      (case k_BadSeal => k_is)
      (case sb_BadSeal => k_is)
      (case ty_BadSeal => k_is)
      (case m_BadSeal => k_is)
      (case hg_BadSeal => k_is)
      (case hk_BadSeal => k_is)
      (case hd_BadSeal => k_is)
      (case ha_BadSeal => k_is)
      (case hm_BadSeal => k_is)
      (case x_BadThing => k_exc)
      (case k_BadThing => k_is)
      (case sb_BadThing => k_is)
      (case ty_BadThing => k_is)
      (case m_BadThing => k_is)
      (case hg_BadThing => k_is)
      (case hk_BadThing => k_is)
      (case hd_BadThing => k_is)
      (case ha_BadThing => k_is)
      (case hm_BadThing => k_is)
      (case hn => k_is)
      (case ht => k_is)
    case D_is_signs => (refine' Sw.defN_mk KX G ?a ?l ?c ?k; (case a => k_is); (case l => k_is); (case c => k_is); (case k => k_is))
    case D_seal_sum => (refine' Sw.defN_mk KX G ?a ?l ?c ?k; (case a => k_is); (case l => k_is); (case c => k_is); (case k => k_is))
    case D_is_sealable => (refine' Sw.defN_mk KX G ?a ?l ?c ?k; (case a => k_is); (case l => k_is); (case c => k_is); (case k => k_is))
    case D_sealed => (refine' Sw.defN_mk KX G ?a ?l ?c ?k; (case a => k_is); (case l => k_is); (case c => k_is); (case k => k_is))
    case D_told_number => (refine' Sw.defN_mk KX G ?a ?l ?c ?k; (case a => k_is); (case l => k_is); (case c => k_is); (case k => k_is))
    case D_unsealed => (refine' Sw.defN_mk KX G ?a ?l ?c ?k; (case a => k_is); (case l => k_is); (case c => k_is); (case k => k_is))
    case D__law_begun => (refine' Sw.defN_mk KX G ?a ?l ?c ?k; (case a => k_is); (case l => k_is); (case c => k_is); (case k => k_is))
    case D__law_blended => (refine' Sw.defN_mk KX G ?a ?l ?c ?k; (case a => k_is); (case l => k_is); (case c => k_is); (case k => k_is))
    case D__law_draw => (refine' Sw.defN_mk KX G ?a ?l ?c ?k; (case a => k_is); (case l => k_is); (case c => k_is); (case k => k_is))
    case D__law_pick => (refine' Sw.defN_mk KX G ?a ?l ?c ?k; (case a => k_is); (case l => k_is); (case c => k_is); (case k => k_is))
    case D__law_caught => (refine' Sw.defN_mk KX G ?a ?l ?c ?k; (case a => k_is); (case l => k_is); (case c => k_is); (case k => k_is))
    case D__law_tx_signs => (refine' Sw.defN_mk KX G ?a ?l ?c ?k; (case a => k_is); (case l => k_is); (case c => k_is); (case k => k_is))
    case D__law_k62_sum => (refine' Sw.defN_mk KX G ?a ?l ?c ?k; (case a => k_is); (case l => k_is); (case c => k_is); (case k => k_is))
    case D__law_k62_text => (refine' Sw.defN_mk KX G ?a ?l ?c ?k; (case a => k_is); (case l => k_is); (case c => k_is); (case k => k_is))
    case D__law_k62_opened => (refine' Sw.defN_mk KX G ?a ?l ?c ?k; (case a => k_is); (case l => k_is); (case c => k_is); (case k => k_is))
    case D__law_k62_near => (refine' Sw.defN_mk KX G ?a ?l ?c ?k; (case a => k_is); (case l => k_is); (case c => k_is); (case k => k_is))
    case Dt => (refine' K62.defC_mk KX G ?a ?l ?c ?k; (case a => k_is); (case l => k_is); (case c => k_is); (case k => k_is))
    case Dl => (refine' K62.defC_mk KX G ?a ?l ?c ?k; (case a => k_is); (case l => k_is); (case c => k_is); (case k => k_is))
    
    case t1 => (refine' K62.tabIn_of ?a ?l ?lf ?lc ?v; (case a => k_is); (case l => k_is); (case lf => rfl); (case lc => k_is); (case v => rfl))
    case t2 => (refine' K62.tabIn_of ?a ?l ?lf ?lc ?v; (case a => k_is); (case l => k_is); (case lf => rfl); (case lc => k_is); (case v => rfl))
    (case n1 => first | rfl | kernel_rfl); (case n2 => first | rfl | kernel_rfl); (case ne => decide)
    (case r1 => decide +kernel); (case r2 => decide +kernel)

