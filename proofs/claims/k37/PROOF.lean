import PyProof.Rows.All
import Wide.All
import OpenK.AllK
import Wide.FinOn
import PyProof.StrBlock2
import PyProof.ReprRoads
import KE.GoesEnum
import KE.KExcSuper
import HandS.ForMost
import HandS.Walk
import HandS.Conv
import HandS.Zip
import HandS.Exc
import HandS.ExcOwn
import HandS.ExcInit
import HandS.ExcField
import HandS.TryOnly
import HandS.WordsExc
import HandS.Defaults
import HandS.AnyAll
import HandS.HeadHook4
import HandS.HeadWalk
import HandS.Head2
import PySem.Challenge.RW_edgelink_k37_lists_are_not_shared
import KE.KSuper
import KE.KSuperObj
import PyProof.P3Eq
import KE.KEqSeq
import HandS.Zip0
import PyProof.GenCompT
import PyProof.Rows.ZipGen
import PyProof.Rows.ChunkLeaf
import PyProof.ReprLen
import PyProof.Rows.ReprShort
import HandS.EndTab
set_option Elab.async false
set_option linter.all false
set_option maxRecDepth 100000
set_option maxHeartbeats 4000000
namespace Edge
theorem memC {α : Type} {a b : α} {l : List α} (h : a ∈ b :: l) : a = b ∨ a ∈ l := List.mem_cons.mp h
theorem memA {α : Type} {a : α} {s t : List α} (h : a ∈ s ++ t) : a ∈ s ∨ a ∈ t := List.mem_append.mp h
theorem memS {α : Type} {a b : α} (h : a ∈ [b]) : a = b := List.mem_singleton.mp h
end Edge
/-! Own rules over the hand layer: calls by packed promises, text * int, text[::-1], enumerate of a text, repr of data. -/
namespace Edge
open L2 PyProof.Rows PySem PySem.Spec

/-! ### a def with its promise, in one word -/
def Kept (P : Program) (w : World) (K : PySem.W.Frag) (mg : Str → Option Value) (base : Heap) (CX : CXT) (k : Nat) (f : Addr) (ps : List Str) (sp : Sp) : Prop :=
  PySem.W.keepIn K (.ref f) = true ∧ ∃ fd : FuncData, Binds K fd ps [] ∧ FnOk P w K mg base CX k f fd ps sp

/-- a method call's shape: the object, then the method, then the call -/
def MForm (X : Cx) (o : Expr) (m : Str) (apos pos : Pos) (as : List Expr) (pl : Sem Bool) : Prop :=
  eval (.Call (.Attribute o m apos) as [] pos) X.env =
    (eval o X.env >>= fun v => standAt apos.atName >>= fun _ => holding [v] (getMethod v m pl) >>= fun q =>
      callWith pos q.1 q.2 (backTo pos (starEach as X.env)) (backToKw pos (keywordEach [] X.env)))

section
variable {X : Cx} {CX : CXT} {k : Nat} {f C : Addr} {ps : List Str} {sp : Sp} {x m : Str} {p pos apos : Pos} {e o : Expr} {es : List Expr} {ta : TE} {t : TA}

theorem pc (O : Kept X.prog X.w X.K X.mg X.base CX0 k f ps sp) (hr : Room k X.A) (hg : Gl X x) (hm : X.mg x = some (.ref f)) (ha : PA X (e :: es) t) (hdb : (x == ("__debug__" : Str)) = false := by decide) (he : starEach (e :: es) X.env = (false, eval e X.env) :: starEach es X.env := by rfl) (hpl : (backTo pos (starEach es X.env)).any (·.1) = false := by rfl) :
    PE X (.Call (.Name x p) (e :: es) [] pos) (tCall sp [] E0 t) := by
  obtain ⟨kp, fd, b, G⟩ := O
  exact pe_call G hr hg hm kp b .nil pass0 ha hdb he hpl

theorem pmk (O : Kept X.prog X.w X.K X.mg X.base CX0 k f ps sp) (M : Mk X.K C f) (hr : Room (k + 1) X.A) (hg : Gl X x) (hm : X.mg x = some (.ref C)) (ha : PA X (e :: es) t) (hdb : (x == ("__debug__" : Str)) = false := by decide) (he : starEach (e :: es) X.env = (false, eval e X.env) :: starEach es X.env := by rfl) (hpl : (backTo pos (starEach es X.env)).any (·.1) = false := by rfl) :
    PE X (.Call (.Name x p) (e :: es) [] pos) (tMake C sp [] E0 t) := by
  obtain ⟨kp, fd, b, G⟩ := O
  exact pe_make M G hr hg hm b .nil pass0 ha hdb he hpl

theorem pm {pl : Sem Bool} (O : Kept X.prog X.w X.K X.mg X.base CX0 k f ps sp) (c : Cls X.K C) (hm : Meth X.K C m f) (hr : Room k X.A) (he : PE X o ta) (ha : PA X (e :: es) t) (hst : starEach (e :: es) X.env = (false, eval e X.env) :: starEach es X.env := by rfl) (hpl : (backTo pos (starEach es X.env)).any (·.1) = false := by rfl)
    (ht : MForm X o m apos pos (e :: es) pl := by rfl) :
    PE X (.Call (.Attribute o m apos) (e :: es) [] pos) (tMeth C m sp [] E0 ta t) := by
  obtain ⟨kp, fd, b, G⟩ := O
  exact pe_meth he c hm G hr b .nil pass0 ha hst hpl ht

theorem pm0 {pl : Sem Bool} (O : Kept X.prog X.w X.K X.mg X.base CX0 k f ps sp) (c : Cls X.K C) (hm : Meth X.K C m f) (hr : Room k X.A) (he : PE X o ta)
    (ht : MForm X o m apos pos [] pl := by rfl) :
    PE X (.Call (.Attribute o m apos) [] [] pos) (tMeth C m sp [] E0 ta tNil) := by
  obtain ⟨kp, fd, b, G⟩ := O
  exact pe_meth0 he c hm G hr b .nil pass0 ht

/-! methods that may raise, the wish at the slots -/
def tMethAt (C : Addr) (m : Str) (sp : Sp) (E : L2.St → XK) (ta : TE) (t : TA) : TE := fun σ H Q =>
  ta σ H fun v H1 => ∃ a d fs, v = .ref a ∧ H1 a = some (.ins C d fs) ∧ fs.lookup m = none ∧ t σ H1 fun vs H2 => sp (v :: vs) H2 Q (E σ)
theorem pms {E : L2.St → XK} {pl : Sem Bool} (O : Kept X.prog X.w X.K X.mg X.base CX k f ps sp) (c : Cls X.K C) (hm : Meth X.K C m f) (hr : Room k X.A) (hx : ∀ σ, PassesAt CX X σ (E σ)) (he : PE X o ta) (ha : PA X (e :: es) t) (hst : starEach (e :: es) X.env = (false, eval e X.env) :: starEach es X.env := by rfl) (hpl : (backTo pos (starEach es X.env)).any (·.1) = false := by rfl)
    (ht : MForm X o m apos pos (e :: es) pl := by rfl) :
    PE X (.Call (.Attribute o m apos) (e :: es) [] pos) (tMethAt C m sp E ta t) := by
  obtain ⟨kp, fd, b, G⟩ := O
  refine ⟨fun pins s σ H Q I h => PySem.W.methodCall_KW (pl := pl) (thn (he.run pins s σ H _ I h) ?_) ht⟩
  rintro u s1 ⟨v, H1, I1, rv, a, d, fs, ev, ea, hl, q⟩
  subst ev
  have eu : u = Value.ref a := rv
  subst eu
  refine getmeth_ok I1 ea c hm hl (PySem.W.callWith_K (first := [.ref a]) (h₀ := X.base) I.ok.mod.kin hm.kp (thn (ha.run pos pins s1 σ H1 _ I1 q) ?_) hst hpl)
  rintro us s2 ⟨vs, H2, I2, r, q2⟩
  exact ⟨I2.kIn, run_fnS (us := .ref a :: us) (vs := .ref a :: vs) G hr b (hx σ) I2 (.cons rfl r) q2⟩

/-- a module's int -/
theorem pgi {i : Int} (hg : Gl X x) (h : ∃ t, X.mg x = some (.int i t)) (hdb : (x == ("__debug__" : Str)) = false := by decide) : PE X (.Name x pos) (tC (.int i)) := by
  obtain ⟨t, e⟩ := h
  exact pe_glob (v := .int i) hg e ⟨t, rfl⟩ hdb

/-! ### text * int -/
def rRepS : R2 := fun x y H Q => ∃ (z : Str) (n : Int), x = .str z ∧ y = .int n ∧ z.length ≤ 1 ∧ 0 ≤ n ∧ n ≤ 100000 ∧ Q (.str (Txt.mul z n)) H
theorem mul_fits {z : Str} {n : Int} (hz : z.length ≤ 1) (h0 : 0 ≤ n) (h1 : n ≤ 100000) : MulOk z n := by
  refine ⟨?_, fun hn _ => ?_, fun hn _ => ?_⟩
  · have a : ¬ n < -(2 ^ 63 : Int) := by omega
    have b : ¬ n ≥ (2 ^ 63 : Int) := by omega
    rw [decide_eq_false a, decide_eq_false b]
    rfl
  · have hd : 1 ≤ ((2 : Int) ^ 63 - 1) / n := by
      refine (Int.le_ediv_iff_mul_le (by omega)).mpr ?_
      omega
    have hzz : (z.length : Int) ≤ 1 := by omega
    omega
  · have hm : z.length * n.toNat ≤ 100000 := by
      have a : n.toNat ≤ 100000 := by omega
      calc z.length * n.toNat ≤ 1 * n.toNat := Nat.mul_le_mul_right _ hz
        _ = n.toNat := Nat.one_mul _
        _ ≤ 100000 := a
    unfold Builtin.Str.tooLong
    refine decide_eq_false ?_
    rw [sizeLine_eq]
    omega
theorem op_repS : OpR X (binaryOp .Mult) rRepS := by
  rintro pins s σ H x y v u Q I rx ry ⟨z, n, rfl, rfl, hz, h0, h1, q⟩
  obtain ⟨t, rfl⟩ := rx
  obtain ⟨t', rfl⟩ := ry
  exact SB.mul (mul_fits hz h0 h1) fun t2 k => ⟨V.str (Txt.mul z n), H, I.tok _, ⟨t2, rfl⟩, q⟩

/-! ### repr of data -/
def rRepr (K : PySem.W.Frag) : List V → Hp → VK → Prop := fun xs H Q => ∃ (a : Addr) (d : PyData), xs = [.ref a] ∧ Dp K H (.ref a) d ∧ d.showable = true ∧ d.hasDict = false ∧ d.depth ≤ 10 ∧ d.shown.length ≤ sizeLine ∧ Q (.str d.shown) H
theorem call_reprD (hg : X.A.guards = some []) (hr : Room k X.A) : CallR X (.builtin "repr") (rRepr X.K) := by
  rintro pins s σ H xs us Q I r ⟨a, d, rfl, hd, hs, hn, hdp, hl, q⟩
  obtain ⟨u, eu0, ru⟩ := vals1 r
  subst eu0
  have eu : u = Value.ref a := ru
  subst eu
  obtain ⟨as, rd⟩ := Dp.reads I d _ _ hd ru
  have hu := hr.units
  exact repr_of_reads' rd hs (PyData.noDict_hsm hn) hg (by omega) (fun _ _ e => e) (fun h' u tk hk => ⟨V.str d.shown, H, I.kept (t' := tk) hk, ⟨u, rfl⟩, q⟩) hl

/-! ### text[::-1]: only its signs and its length are told -/
def tRevS (te : TE) : TE := fun σ H Q => te σ H fun v H1 => ∃ z : Str, v = .str z ∧ z.length ≤ 10000 ∧ ∀ y : Str, y.length ≤ z.length → (∀ c ∈ y.cps.toList, c ∈ z.cps.toList) → Q (.str y) H1
theorem rev_few (n : Nat) : (Builtin.Str.strSliceIndices none none (-1) n).length ≤ n := by
  have e : Builtin.Str.strSliceIndices none none (-1) n = sliceRange ((n : Int) - 1) (-1) (-1) := rfl
  rw [e]
  unfold sliceRange
  simp only [List.length_range, List.length_map]
  have lo1 : ¬ ((-1 : Int) > 0) := by decide
  simp only [lo1, if_false]
  split
  · have e1 : (-(-1) : Int) = 1 := rfl
    rw [e1, Int.ediv_one]
    omega
  · exact Nat.zero_le _
theorem pe_revS {k1 : Nat} {p1 p2 p3 : Pos} (he : PE X e ta) : PE X (.Subscript e (.Slice none none (some (.UnaryOp .USub (.Constant (.int 1) k1 p1) p2)) p3) pos) (tRevS ta) := by
  refine ⟨fun pins s σ H Q I h => Subscript_ (thn (he.run pins s σ H _ I h) ?_)⟩
  rintro v s1 ⟨y, H1, I1, r1, z, ey, hz, q⟩
  subst ey
  obtain ⟨t, rfl⟩ := r1
  have stp : PO X (some (.UnaryOp .USub (.Constant (.int 1) k1 p1) p2)) (tPart (tUn (rU fun i => .int (-i)) (tC (.int 1)))) := po_some (pe_un un_neg pe_int)
  refine wpAny_Slice (thn (po_none.run pins s1 σ H1 (fun a G => a = none ∧ G = H1) I1 ⟨rfl, rfl⟩) ?_)
  rintro va s2 ⟨a, H2, I2, pa, rfl, rfl⟩
  refine thn (po_none.run pins s2 σ H2 (fun a G => a = none ∧ G = H2) I2 ⟨rfl, rfl⟩) ?_
  rintro vb s3 ⟨b, H3, I3, pb, rfl, rfl⟩
  refine thn (stp.run pins s3 σ H3 (fun a G => a = some (-1) ∧ G = H3) I3 ⟨1, rfl, -1, rfl, rfl, rfl⟩) ?_
  rintro vc s4 ⟨c, H4, I4, pc', rfl, rfl⟩
  have I5 : Inv X pins σ H4 { s4 with heap := s4.heap.push { cls := .type "slice", data := .fields #[va, vb, vc] } } := I4.kept (t' := s4.toks) fun b ob q => Heap.get?_push_of_some _ q
  obtain ⟨l, rfl, hl⟩ := IsPart.raw pa
  obtain ⟨u, rfl, hu⟩ := IsPart.raw pb
  obtain ⟨st, rfl, hst⟩ := IsPart.raw pc'
  have est : (st.map (·.1)) = some (-1) := hst
  have el : (l.map (·.1)) = none := hl
  have eu : (u.map (·.1)) = none := hu
  refine tail_any (T := "str") (ops := [.str z t, .ref s4.heap.objs.size]) (typeIs_str _ _ _) F.slot_str_getitem.lookup ?_ (by with_unfolding_all rfl)
  refine wpAny_getItem_str_slice (l := l) (u := u) (st := st) ⟨_, Heap.get?_push_size _ rfl, rfl, rfl⟩ (by rw [est]; rfl) ?_
  unfold sliceMade slicePicked
  rw [est, el, eu]
  show Made.post (if false = true then _ else Made.str ⟨((Builtin.Str.strSliceIndices none none (-1) z.length).filterMap (z.cps[·]?)).toArray⟩) _ _
  rw [if_neg (Bool.false_ne_true)]
  have few : ((Builtin.Str.strSliceIndices none none (-1) z.length).filterMap (z.cps[·]?)).length ≤ z.length := Nat.le_trans (List.length_filterMap_le _ _) (rev_few _)
  refine ⟨?_, ⟨V.str ⟨((Builtin.Str.strSliceIndices none none (-1) z.length).filterMap (z.cps[·]?)).toArray⟩, H4, I5.tok _, ⟨_, rfl⟩, q _ ?_ ?_⟩⟩
  · show (List.toArray _).size ≤ sizeLine
    rw [List.size_toArray, sizeLine_eq]
    omega
  · show (List.toArray _).size ≤ _
    rw [List.size_toArray]
    exact few
  · intro c hc
    have hc' : c ∈ (Builtin.Str.strSliceIndices none none (-1) z.length).filterMap (z.cps[·]?) := by simpa using hc
    obtain ⟨i, _, hi⟩ := List.mem_filterMap.mp hc'
    exact Array.mem_toList_iff.mpr (Array.mem_of_getElem? hi)
end

/-! ### enumerate(text) -/
/-- each sign in a new pair with its place -/
def Itx (z : Str) : It :=
  ⟨fun i _ => i < z.cps.size, fun i H v H' => ∃ T c, v = .ref T ∧ H T = none ∧ H' = upd H T (.tup [.int (i : Nat), .str ⟨#[c]⟩]) ∧ z.cps[i]? = some c, fun i _ => z.cps.size = i⟩
theorem walk_enumS {z : Str} : Walk (Itx z) z.cps.size (fun _ => True) (YPair (fun i => some (.int (i : Nat))) (fun i => (z.cps[i]?).map fun c => .str ⟨#[c]⟩)) := by
  refine ⟨fun _ _ hi _ => hi, fun _ _ => rfl, ?_⟩
  rintro i H v H' _ _ ⟨T, c, h1, h2, h3, h4⟩
  exact ⟨T, .int (i : Nat), .str ⟨#[c]⟩, h1, h2, h3, rfl, by show Option.map _ (z.cps[i]?) = _; rw [h4]; rfl⟩
theorem turn_enumS {P : Program} {w : World} {K : PySem.W.Frag} {elts : List Expr} {kk : Nat} {tpos : Pos} (en it : Addr) (z : Str) (t : Tok) :
    Turn P w K (.Tuple elts kk tpos) (Itx z) [en, it] en (fun i h => (∃ old, IsEnum h en it ((i : Nat) : Int) old) ∧ h.IsStrIter it (strIterType z) z t i ∧ en ≠ it) := by
  refine ⟨by simp, ?_, ?_, ?_, ?_, ?_⟩
  · rintro i h ⟨⟨old, he⟩, ⟨o, ho, _, hd⟩, _⟩ b hb
    rcases memC hb with rfl | hb
    · exact ⟨_, he, fun v q => nomatch q⟩
    · have eb := memS hb
      subst eb
      exact ⟨o, ho, fun v q => by rw [hd] at q; cases q⟩
  · rintro i h h' ⟨⟨old, he⟩, ⟨o, ho, r⟩, hne⟩ k
    exact ⟨⟨old, k en (by simp) _ he⟩, ⟨o, k it (by simp) o ho, r⟩, hne⟩
  · rintro X hP hw hK hc i pins s σ H E I hf ⟨⟨old, he⟩, hit, hne⟩ hg
    subst hP hw hK
    have D := Draws.text (prog := X.prog) (w := X.w) (A := X.A.in1) (I.ok.hd hc) it z t
    have hel : en < s.heap.objs.size := Heap.lt_size he
    have hil : it < s.heap.objs.size := by
      obtain ⟨_, q, _⟩ := hit
      exact Heap.lt_size q
    refine wpAny_pyNext_enum_itemC D he hit hg hne (by simpa using hne) fun x h' tk hx ho hit' hT hsz hk => ?_
    obtain ⟨c, u, hcc, rfl⟩ := hx
    refine ⟨_, rfl, wpAny_letOwnedTupleGo_enum (s := { s with heap := h', toks := tk + 1 }) ho fun h2 he2 sb => ?_⟩
    have hT2 := (sb.2 _ (Nat.ne_of_gt hel)).trans hT
    have J : Inv X pins σ (upd H s.heap.objs.size (.tup [.int (i : Nat), .str ⟨#[c]⟩])) { s with heap := h2, toks := tk + 1 } := by
      refine I.turnedNew (ch := [en, it]) (fun b ob hb q => ?_) hf (Nat.le_refl _) ⟨by show 2 ≤ sizeLine; decide, [.int i tk, .str ⟨#[c]⟩ u], .cons ⟨_, rfl⟩ (.cons ⟨_, rfl⟩ .nil), ⟨_, hT2, rfl, _, rfl⟩⟩
      have n1 : b ≠ en := fun z => hb (by simp [z])
      have n2 : b ≠ it := fun z => hb (by simp [z])
      exact (sb.2 b n1).trans (hk b ob n1 n2 q)
    refine ⟨.ref s.heap.objs.size, _, J, rfl, ⟨_, c, rfl, I.hok.fresh (Nat.le_refl _), rfl, hcc⟩, ⟨⟨.str ⟨#[c]⟩ u, ?_⟩, ?_, hne⟩, fun b hb => ?_⟩
    · have succ1 : ((i + 1 : Nat) : Int) = (i : Int) + 1 := by omega
      rw [succ1]
      exact he2
    · obtain ⟨o, e, r⟩ := hit'
      exact ⟨o, (sb.2 it (Ne.symm hne)).trans e, r⟩
    · have hlt : b < s.heap.objs.size := by
        rcases memC hb with rfl | hb
        · exact hel
        · rw [memS hb]
          exact hil
      rw [upd_ne (show b ≠ _ from Nat.ne_of_lt hlt)]
      exact (hf b hb).1
  · rintro X hP hw hK hc i pins s σ H E I hf ⟨⟨old, he⟩, hit, hne⟩ hg
    subst hP hw hK
    have eg : z.cps.size = i := hg
    subst eg
    obtain ⟨g0, g1, _, g3, g4, g5⟩ := hf it (by simp)
    exact wpAny_pyNext_enum_endD (Draws.text (A := X.A.in1) (I.ok.hd hc) it z t) he hit fun h' eb => ⟨rfl, I.turned (t' := s.toks) (fun b o hb q => eb b o hb q) g0 g1 g3 g4 g5⟩
  · rintro A i s Q E ⟨⟨_, he⟩, _⟩ h
    exact wpAny_pyIter_enum he h
def iEnumS (ta : TA) : TI := fun σ H R => ta σ H fun vs H1 => ∃ z : Str, vs = [.str z] ∧ R (Itx z) H1
theorem pi_enumS {X : Cx} {e : Expr} {ta : TA} {p pos tpos : Pos} {elts : List Expr} {kk : Nat} (hg : Gl X "enumerate") (hm : X.mg "enumerate" = none) (ha : PA X [e] ta) (hs : starEach [e] X.env = [(false, eval e X.env)] := by rfl) :
    PI X (.Tuple elts kk tpos) (.Call (.Name "enumerate" p) [e] [] pos) (iEnumS ta) := by
  refine ⟨fun pins s σ H R I h => Call_ (ld_blt I hg hm boot_enumerate (PyProof.Rows.callWith_type1 (thn (ha.run pos pins s σ H _ I h) ?_) hs rfl))⟩
  rintro us s1 ⟨vs, H1, I1, r1, z, ev, q⟩
  subst ev
  obtain ⟨u, rfl, t, rfl⟩ := vals1 r1
  refine call_enumerate_str fun h' he hit hsz hk => wpAny_pyIter_enum he ?_
  have Jh : Inv X pins σ H1 { s1 with heap := h' } := I1.kept (t' := s1.toks) hk
  refine ⟨s1.heap.objs.size + 1, [s1.heap.objs.size + 1, s1.heap.objs.size], _, _, H1, rfl, Jh, turn_enumS _ s1.heap.objs.size z t, ⟨⟨.none, he⟩, hit, Nat.succ_ne_self _⟩, fun b hb => ?_, q⟩
  have newb : s1.heap.objs.size ≤ b := by
    rcases memC hb with rfl | hb
    · exact Nat.le_succ _
    · rw [memS hb]
      exact Nat.le_refl _
  exact I1.fpOk newb (I1.hok.fresh newb)
end Edge
/-! The text by places, the facts that the top leaves, the short words for a def. (Printed by gen.py.) -/
namespace Edge
open L2 PyProof.Rows PySem PySem.Spec
def top (i : Nat) : Stmt := PySem.Challenge.pw_edgelink_k37_lists_are_not_shared.main.body.getD i (.Pass ⟨0, 0, 0, 0⟩)
abbrev s_stuff : Stmt := top 5
abbrev s_flag_of : Stmt := top 7
abbrev s_frame_bits : Stmt := top 8
abbrev s_zeros_of : Stmt := top 9
abbrev s_gaps_of : Stmt := top 10
abbrev s_Reader_init : Stmt := inClass (top 11) 0
abbrev s_Reader_read : Stmt := inClass (top 11) 1
abbrev s_read_gaps : Stmt := top 12
abbrev s_frame_gaps : Stmt := top 13
abbrev s_gap_bits : Stmt := top 15
abbrev s_poll_of : Stmt := top 16
abbrev s_detection_polls : Stmt := top 17
abbrev s_received_gaps : Stmt := top 18
abbrev s_receive : Stmt := top 19
abbrev s_detection_time : Stmt := top 20
abbrev s_Monitor_init : Stmt := inClass (top 23) 0
abbrev s_Monitor_edge_count : Stmt := inClass (top 23) 1
abbrev s_Monitor_edge : Stmt := inClass (top 23) 2
abbrev s_Monitor_feed : Stmt := inClass (top 23) 3
abbrev s_Monitor_undo : Stmt := inClass (top 23) 4
abbrev s_Monitor_edges : Stmt := inClass (top 23) 5
abbrev s_Monitor_gaps : Stmt := inClass (top 23) 6
abbrev s_Monitor_payloads : Stmt := inClass (top 23) 7
abbrev s_Monitor_history : Stmt := inClass (top 23) 8
abbrev s_Monitor_state : Stmt := inClass (top 23) 9
abbrev s_opened : Stmt := top 24
abbrev s_shift_at : Stmt := top 26
abbrev s_places_of : Stmt := top 28
abbrev s_is_ordered : Stmt := top 29
abbrev s_is_late : Stmt := top 30
abbrev s_relay_signal : Stmt := top 31
abbrev s_backlogs : Stmt := top 32
abbrev s_byte_bits : Stmt := top 35
abbrev s_bits_of : Stmt := top 36
abbrev s_byte_of : Stmt := top 37
abbrev s_bytes_of : Stmt := top 38
abbrev s_added : Stmt := top 40
abbrev s_remainder : Stmt := top 41
abbrev s_check_bits : Stmt := top 42
abbrev s_is_intact : Stmt := top 43
abbrev s_pack : Stmt := top 44
abbrev s_unpack : Stmt := top 45
abbrev s_modulus_of : Stmt := top 49
abbrev s_Sender_init : Stmt := inClass (top 50) 0
abbrev s_Sender_queue : Stmt := inClass (top 50) 1
abbrev s_Sender_open_letters : Stmt := inClass (top 50) 2
abbrev s_Sender_payload : Stmt := inClass (top 50) 3
abbrev s_Sender_payloads : Stmt := inClass (top 50) 4
abbrev s_Sender_hear : Stmt := inClass (top 50) 5
abbrev s_Taker_init : Stmt := inClass (top 51) 0
abbrev s_Taker_answer : Stmt := inClass (top 51) 1
abbrev s_Taker_hear : Stmt := inClass (top 51) 2
abbrev s_Talk_init : Stmt := inClass (top 52) 0
abbrev s_Talk_queue : Stmt := inClass (top 52) 1
abbrev s_Talk_put : Stmt := inClass (top 52) 2
abbrev s_Talk_send : Stmt := inClass (top 52) 3
abbrev s_Talk_check_place : Stmt := inClass (top 52) 4
abbrev s_Talk_deliver : Stmt := inClass (top 52) 8
abbrev s_Talk_line : Stmt := inClass (top 52) 9
abbrev s_Talk_taken : Stmt := inClass (top 52) 10
abbrev s_Talk_known : Stmt := inClass (top 52) 11
abbrev s_law_cell : Stmt := top 54
abbrev s_law_draws : Stmt := top 55
abbrev s_law_changed : Stmt := top 56
abbrev s_law_edge : Stmt := top 57
abbrev s_law_edges_are_refused : Stmt := top 58
abbrev s_law_of_monitor : Stmt := top 59
abbrev s_law_of_talk : Stmt := top 60
abbrev s_law_talk : Stmt := top 61
abbrev s_law : Stmt := top 62
abbrev s_Refused_init : Stmt := inClass (top 3) 0
theorem sc_stuff : FnScope ["limit", "bits", "found", "ones", "bit"] ["limit", "bits"] (defScope s_stuff) := ⟨rfl, rfl, rfl, by decide +kernel, rfl, by decide +kernel, by decide +kernel⟩
theorem sc_flag_of : FnScope ["limit"] ["limit"] (defScope s_flag_of) := ⟨rfl, rfl, rfl, by decide +kernel, rfl, by decide +kernel, by decide +kernel⟩
theorem sc_frame_bits : FnScope ["limit", "payload"] ["limit", "payload"] (defScope s_frame_bits) := ⟨rfl, rfl, rfl, by decide +kernel, rfl, by decide +kernel, by decide +kernel⟩
theorem sc_zeros_of : FnScope ["bits", "at", "bit"] ["bits"] (defScope s_zeros_of) := ⟨rfl, rfl, rfl, by decide +kernel, rfl, by decide +kernel, by decide +kernel⟩
theorem sc_gaps_of : FnScope ["bits", "places", "at", "place"] ["bits"] (defScope s_gaps_of) := ⟨rfl, rfl, rfl, by decide +kernel, rfl, by decide +kernel, by decide +kernel⟩
theorem sc_Reader_init : FnScope ["self", "limit"] ["self", "limit"] (defScope s_Reader_init) := ⟨rfl, rfl, rfl, by decide +kernel, rfl, by decide +kernel, by decide +kernel⟩
theorem sc_Reader_read : FnScope ["self", "gap", "is_end"] ["self", "gap"] (defScope s_Reader_read) := ⟨rfl, rfl, rfl, by decide +kernel, rfl, by decide +kernel, by decide +kernel⟩
theorem sc_read_gaps : FnScope ["limit", "gaps", "reader", "gap"] ["limit", "gaps"] (defScope s_read_gaps) := ⟨rfl, rfl, rfl, by decide +kernel, rfl, by decide +kernel, by decide +kernel⟩
theorem sc_frame_gaps : FnScope ["limit", "payload"] ["limit", "payload"] (defScope s_frame_gaps) := ⟨rfl, rfl, rfl, by decide +kernel, rfl, by decide +kernel, by decide +kernel⟩
theorem sc_gap_bits : FnScope ["receiver", "polls", "per_bit"] ["receiver", "polls"] (defScope s_gap_bits) := ⟨rfl, rfl, rfl, by decide +kernel, rfl, by decide +kernel, by decide +kernel⟩
theorem sc_poll_of : FnScope ["receiver", "phase", "time"] ["receiver", "phase", "time"] (defScope s_poll_of) := ⟨rfl, rfl, rfl, by decide +kernel, rfl, by decide +kernel, by decide +kernel⟩
theorem sc_detection_polls : FnScope ["receiver", "phase", "signal", "found", "time", "number"] ["receiver", "phase", "signal"] (defScope s_detection_polls) := ⟨rfl, rfl, rfl, by decide +kernel, rfl, by decide +kernel, by decide +kernel⟩
theorem sc_received_gaps : FnScope ["receiver", "phase", "signal", "polls", "number", "later"] ["receiver", "phase", "signal"] (defScope s_received_gaps) := ⟨rfl, rfl, rfl, by decide +kernel, rfl, by decide +kernel, by decide +kernel⟩
theorem sc_receive : FnScope ["limit", "receiver", "phase", "signal"] ["limit", "receiver", "phase", "signal"] (defScope s_receive) := ⟨rfl, rfl, rfl, by decide +kernel, rfl, by decide +kernel, by decide +kernel⟩
theorem sc_detection_time : FnScope ["receiver", "phase", "number"] ["receiver", "phase", "number"] (defScope s_detection_time) := ⟨rfl, rfl, rfl, by decide +kernel, rfl, by decide +kernel, by decide +kernel⟩
theorem sc_Monitor_init : FnScope ["self", "limit", "receiver", "phase"] ["self", "limit", "receiver", "phase"] (defScope s_Monitor_init) := ⟨rfl, rfl, rfl, by decide +kernel, rfl, by decide +kernel, by decide +kernel⟩
theorem sc_Monitor_edge_count : FnScope ["self"] ["self"] (defScope s_Monitor_edge_count) := ⟨rfl, rfl, rfl, by decide +kernel, rfl, by decide +kernel, by decide +kernel⟩
theorem sc_Monitor_edge : FnScope ["self", "time"] ["self", "time"] (defScope s_Monitor_edge) := ⟨rfl, rfl, rfl, by decide +kernel, rfl, by decide +kernel, by decide +kernel⟩
theorem sc_Monitor_feed : FnScope ["self", "times", "count", "time"] ["self", "times"] (defScope s_Monitor_feed) := ⟨rfl, rfl, rfl, by decide +kernel, rfl, by decide +kernel, by decide +kernel⟩
theorem sc_Monitor_undo : FnScope ["self"] ["self"] (defScope s_Monitor_undo) := ⟨rfl, rfl, rfl, by decide +kernel, rfl, by decide +kernel, by decide +kernel⟩
theorem sc_Monitor_edges : FnScope ["self"] ["self"] (defScope s_Monitor_edges) := ⟨rfl, rfl, rfl, by decide +kernel, rfl, by decide +kernel, by decide +kernel⟩
theorem sc_Monitor_gaps : FnScope ["self"] ["self"] (defScope s_Monitor_gaps) := ⟨rfl, rfl, rfl, by decide +kernel, rfl, by decide +kernel, by decide +kernel⟩
theorem sc_Monitor_payloads : FnScope ["self"] ["self"] (defScope s_Monitor_payloads) := ⟨rfl, rfl, rfl, by decide +kernel, rfl, by decide +kernel, by decide +kernel⟩
theorem sc_Monitor_history : FnScope ["self", "found", "at", "time", "gaps"] ["self"] (defScope s_Monitor_history) := ⟨rfl, rfl, rfl, by decide +kernel, rfl, by decide +kernel, by decide +kernel⟩
theorem sc_Monitor_state : FnScope ["self"] ["self"] (defScope s_Monitor_state) := ⟨rfl, rfl, rfl, by decide +kernel, rfl, by decide +kernel, by decide +kernel⟩
theorem sc_opened : FnScope ["state", "made"] ["state"] (defScope s_opened) := ⟨rfl, rfl, rfl, by decide +kernel, rfl, by decide +kernel, by decide +kernel⟩
theorem sc_shift_at : FnScope ["shifts", "at"] ["shifts", "at"] (defScope s_shift_at) := ⟨rfl, rfl, rfl, by decide +kernel, rfl, by decide +kernel, by decide +kernel⟩
theorem sc_places_of : FnScope ["receiver", "polls", "places", "number", "later"] ["receiver", "polls"] (defScope s_places_of) := ⟨rfl, rfl, rfl, by decide +kernel, rfl, by decide +kernel, by decide +kernel⟩
theorem sc_is_ordered : FnScope ["signal", "time", "later"] ["signal"] (defScope s_is_ordered) := ⟨rfl, rfl, rfl, by decide +kernel, rfl, by decide +kernel, by decide +kernel⟩
theorem sc_is_late : FnScope ["receiver", "phase", "polls", "places", "start", "bit_time", "number", "place"] ["receiver", "phase", "polls", "places", "start", "bit_time"] (defScope s_is_late) := ⟨rfl, rfl, rfl, by decide +kernel, rfl, by decide +kernel, by decide +kernel⟩
theorem sc_relay_signal : FnScope ["receiver", "phase", "delay", "bit_time", "shifts", "signal", "polls", "places", "start", "sent", "number", "place"] ["receiver", "phase", "delay", "bit_time", "shifts", "signal"] (defScope s_relay_signal) := ⟨rfl, rfl, rfl, by decide +kernel, rfl, by decide +kernel, by decide +kernel⟩
theorem sc_backlogs : FnScope ["receiver", "phase", "delay", "bit_time", "signal", "polls", "places", "found", "number", "place", "time"] ["receiver", "phase", "delay", "bit_time", "signal"] (defScope s_backlogs) := ⟨rfl, rfl, rfl, by decide +kernel, rfl, by decide +kernel, by decide +kernel⟩
theorem sc_byte_bits : FnScope ["number", "found", "place"] ["number"] (defScope s_byte_bits) := ⟨rfl, rfl, rfl, by decide +kernel, rfl, by decide +kernel, by decide +kernel⟩
theorem sc_bits_of : FnScope ["numbers", "number"] ["numbers"] (defScope s_bits_of) := ⟨rfl, rfl, rfl, by decide +kernel, rfl, by decide +kernel, by decide +kernel⟩
theorem sc_byte_of : FnScope ["bits", "number", "bit"] ["bits"] (defScope s_byte_of) := ⟨rfl, rfl, rfl, by decide +kernel, rfl, by decide +kernel, by decide +kernel⟩
theorem sc_bytes_of : FnScope ["bits", "at"] ["bits"] (defScope s_bytes_of) := ⟨rfl, rfl, rfl, by decide +kernel, rfl, by decide +kernel, by decide +kernel⟩
theorem sc_added : FnScope ["one", "two", "at", "bit"] ["one", "two"] (defScope s_added) := ⟨rfl, rfl, rfl, by decide +kernel, rfl, by decide +kernel, by decide +kernel⟩
theorem sc_remainder : FnScope ["generator", "bits", "size", "rest", "at"] ["generator", "bits"] (defScope s_remainder) := ⟨rfl, rfl, rfl, by decide +kernel, rfl, by decide +kernel, by decide +kernel⟩
theorem sc_check_bits : FnScope ["generator", "bits"] ["generator", "bits"] (defScope s_check_bits) := ⟨rfl, rfl, rfl, by decide +kernel, rfl, by decide +kernel, by decide +kernel⟩
theorem sc_is_intact : FnScope ["generator", "bits", "degree", "at"] ["generator", "bits"] (defScope s_is_intact) := ⟨rfl, rfl, rfl, by decide +kernel, rfl, by decide +kernel, by decide +kernel⟩
theorem sc_pack : FnScope ["generator", "numbers", "bits"] ["generator", "numbers"] (defScope s_pack) := ⟨rfl, rfl, rfl, by decide +kernel, rfl, by decide +kernel, by decide +kernel⟩
theorem sc_unpack : FnScope ["generator", "bits"] ["generator", "bits"] (defScope s_unpack) := ⟨rfl, rfl, rfl, by decide +kernel, rfl, by decide +kernel, by decide +kernel⟩
theorem sc_modulus_of : FnScope ["window"] ["window"] (defScope s_modulus_of) := ⟨rfl, rfl, rfl, by decide +kernel, rfl, by decide +kernel, by decide +kernel⟩
theorem sc_Sender_init : FnScope ["self", "window", "generator"] ["self", "window", "generator"] (defScope s_Sender_init) := ⟨rfl, rfl, rfl, by decide +kernel, rfl, by decide +kernel, by decide +kernel⟩
theorem sc_Sender_queue : FnScope ["self", "letter"] ["self", "letter"] (defScope s_Sender_queue) := ⟨rfl, rfl, rfl, by decide +kernel, rfl, by decide +kernel, by decide +kernel⟩
theorem sc_Sender_open_letters : FnScope ["self"] ["self"] (defScope s_Sender_open_letters) := ⟨rfl, rfl, rfl, by decide +kernel, rfl, by decide +kernel, by decide +kernel⟩
theorem sc_Sender_payload : FnScope ["self", "at"] ["self", "at"] (defScope s_Sender_payload) := ⟨rfl, rfl, rfl, by decide +kernel, rfl, by decide +kernel, by decide +kernel⟩
theorem sc_Sender_payloads : FnScope ["self", "at"] ["self"] (defScope s_Sender_payloads) := ⟨rfl, rfl, rfl, by decide +kernel, rfl, by decide +kernel, by decide +kernel⟩
theorem sc_Sender_hear : FnScope ["self", "payload", "numbers", "steps"] ["self", "payload"] (defScope s_Sender_hear) := ⟨rfl, rfl, rfl, by decide +kernel, rfl, by decide +kernel, by decide +kernel⟩
theorem sc_Taker_init : FnScope ["self", "window", "generator"] ["self", "window", "generator"] (defScope s_Taker_init) := ⟨rfl, rfl, rfl, by decide +kernel, rfl, by decide +kernel, by decide +kernel⟩
theorem sc_Taker_answer : FnScope ["self"] ["self"] (defScope s_Taker_answer) := ⟨rfl, rfl, rfl, by decide +kernel, rfl, by decide +kernel, by decide +kernel⟩
theorem sc_Taker_hear : FnScope ["self", "payload", "numbers"] ["self", "payload"] (defScope s_Taker_hear) := ⟨rfl, rfl, rfl, by decide +kernel, rfl, by decide +kernel, by decide +kernel⟩
theorem sc_Talk_init : FnScope ["self", "window", "generator"] ["self", "window", "generator"] (defScope s_Talk_init) := ⟨rfl, rfl, rfl, by decide +kernel, rfl, by decide +kernel, by decide +kernel⟩
theorem sc_Talk_queue : FnScope ["self", "letter"] ["self", "letter"] (defScope s_Talk_queue) := ⟨rfl, rfl, rfl, by decide +kernel, rfl, by decide +kernel, by decide +kernel⟩
theorem sc_Talk_put : FnScope ["self", "way", "payload"] ["self", "way", "payload"] (defScope s_Talk_put) := ⟨rfl, rfl, rfl, by decide +kernel, rfl, by decide +kernel, by decide +kernel⟩
theorem sc_Talk_send : FnScope ["self", "payloads", "payload"] ["self"] (defScope s_Talk_send) := ⟨rfl, rfl, rfl, by decide +kernel, rfl, by decide +kernel, by decide +kernel⟩
theorem sc_Talk_check_place : FnScope ["self", "way", "place"] ["self", "way", "place"] (defScope s_Talk_check_place) := ⟨rfl, rfl, rfl, by decide +kernel, rfl, by decide +kernel, by decide +kernel⟩
theorem sc_Talk_deliver : FnScope ["self", "way", "payload", "answer"] ["self", "way"] (defScope s_Talk_deliver) := ⟨rfl, rfl, rfl, by decide +kernel, rfl, by decide +kernel, by decide +kernel⟩
theorem sc_Talk_line : FnScope ["self", "way"] ["self", "way"] (defScope s_Talk_line) := ⟨rfl, rfl, rfl, by decide +kernel, rfl, by decide +kernel, by decide +kernel⟩
theorem sc_Talk_taken : FnScope ["self"] ["self"] (defScope s_Talk_taken) := ⟨rfl, rfl, rfl, by decide +kernel, rfl, by decide +kernel, by decide +kernel⟩
theorem sc_Talk_known : FnScope ["self"] ["self"] (defScope s_Talk_known) := ⟨rfl, rfl, rfl, by decide +kernel, rfl, by decide +kernel, by decide +kernel⟩
theorem sc_law_cell : FnScope ["_law_script", "_law_k"] ["_law_script", "_law_k"] (defScope s_law_cell) := ⟨rfl, rfl, rfl, by decide +kernel, rfl, by decide +kernel, by decide +kernel⟩
theorem sc_law_draws : FnScope ["_law_cell_here", "_law_count", "_law_found", "_law_is_wide", "_law_k", "_law_mixed"] ["_law_cell_here", "_law_count"] (defScope s_law_draws) := ⟨rfl, rfl, rfl, by decide +kernel, rfl, by decide +kernel, by decide +kernel⟩
theorem sc_law_changed : FnScope ["_law_lists", "_law_row"] ["_law_lists"] (defScope s_law_changed) := ⟨rfl, rfl, rfl, by decide +kernel, rfl, by decide +kernel, by decide +kernel⟩
theorem sc_law_edge : FnScope ["_law_monitor", "_law_time", "e"] ["_law_monitor", "_law_time"] (defScope s_law_edge) := ⟨rfl, rfl, rfl, by decide +kernel, rfl, by decide +kernel, by decide +kernel⟩
theorem sc_law_edges_are_refused : FnScope ["_law_monitor", "_law_times", "_law_time", "_law_full", "_law_k"] ["_law_monitor", "_law_times"] (defScope s_law_edges_are_refused) := ⟨rfl, rfl, rfl, by decide +kernel, rfl, by decide +kernel, by decide +kernel⟩
theorem sc_law_of_monitor : FnScope ["_law_monitor"] ["_law_monitor"] (defScope s_law_of_monitor) := ⟨rfl, rfl, rfl, by decide +kernel, rfl, by decide +kernel, by decide +kernel⟩
theorem sc_law_of_talk : FnScope ["_law_talk_here"] ["_law_talk_here"] (defScope s_law_of_talk) := ⟨rfl, rfl, rfl, by decide +kernel, rfl, by decide +kernel, by decide +kernel⟩
theorem sc_law_talk : FnScope ["_law_script", "_law_talk_here", "_law_k", "_law_draws_here", "_law_j"] ["_law_script"] (defScope s_law_talk) := ⟨rfl, rfl, rfl, by decide +kernel, rfl, by decide +kernel, by decide +kernel⟩
theorem sc_law : FnScope ["_law_script", "_law_draws_here", "_law_receiver", "_law_times", "_law_k", "_law_monitor", "_law_passed", "_law_lists", "_law_before", "_law_state", "_law_talk_here", "_law_signal", "_law_gaps"] ["_law_script"] (defScope s_law) := ⟨rfl, rfl, rfl, by decide +kernel, rfl, by decide +kernel, by decide +kernel⟩
def d_stuff : He.DefD := ⟨("stuff", none), "stuff", "stuff", defArgs s_stuff, defBody s_stuff, defScope s_stuff, [], []⟩
def d_flag_of : He.DefD := ⟨("flag_of", none), "flag_of", "flag_of", defArgs s_flag_of, defBody s_flag_of, defScope s_flag_of, [], []⟩
def d_frame_bits : He.DefD := ⟨("frame_bits", none), "frame_bits", "frame_bits", defArgs s_frame_bits, defBody s_frame_bits, defScope s_frame_bits, [], []⟩
def d_zeros_of : He.DefD := ⟨("zeros_of", none), "zeros_of", "zeros_of", defArgs s_zeros_of, defBody s_zeros_of, defScope s_zeros_of, [], []⟩
def d_gaps_of : He.DefD := ⟨("gaps_of", none), "gaps_of", "gaps_of", defArgs s_gaps_of, defBody s_gaps_of, defScope s_gaps_of, [], []⟩
def d_Reader_init : He.DefD := ⟨("Reader", some "__init__"), "__init__", "Reader.__init__", defArgs s_Reader_init, defBody s_Reader_init, defScope s_Reader_init, [], []⟩
def d_Reader_read : He.DefD := ⟨("Reader", some "read"), "read", "Reader.read", defArgs s_Reader_read, defBody s_Reader_read, defScope s_Reader_read, [], []⟩
def d_read_gaps : He.DefD := ⟨("read_gaps", none), "read_gaps", "read_gaps", defArgs s_read_gaps, defBody s_read_gaps, defScope s_read_gaps, [], []⟩
def d_frame_gaps : He.DefD := ⟨("frame_gaps", none), "frame_gaps", "frame_gaps", defArgs s_frame_gaps, defBody s_frame_gaps, defScope s_frame_gaps, [], []⟩
def d_gap_bits : He.DefD := ⟨("gap_bits", none), "gap_bits", "gap_bits", defArgs s_gap_bits, defBody s_gap_bits, defScope s_gap_bits, [], []⟩
def d_poll_of : He.DefD := ⟨("poll_of", none), "poll_of", "poll_of", defArgs s_poll_of, defBody s_poll_of, defScope s_poll_of, [], []⟩
def d_detection_polls : He.DefD := ⟨("detection_polls", none), "detection_polls", "detection_polls", defArgs s_detection_polls, defBody s_detection_polls, defScope s_detection_polls, [], []⟩
def d_received_gaps : He.DefD := ⟨("received_gaps", none), "received_gaps", "received_gaps", defArgs s_received_gaps, defBody s_received_gaps, defScope s_received_gaps, [], []⟩
def d_receive : He.DefD := ⟨("receive", none), "receive", "receive", defArgs s_receive, defBody s_receive, defScope s_receive, [], []⟩
def d_detection_time : He.DefD := ⟨("detection_time", none), "detection_time", "detection_time", defArgs s_detection_time, defBody s_detection_time, defScope s_detection_time, [], []⟩
def d_Monitor_init : He.DefD := ⟨("Monitor", some "__init__"), "__init__", "Monitor.__init__", defArgs s_Monitor_init, defBody s_Monitor_init, defScope s_Monitor_init, [], []⟩
def d_Monitor_edge_count : He.DefD := ⟨("Monitor", some "edge_count"), "edge_count", "Monitor.edge_count", defArgs s_Monitor_edge_count, defBody s_Monitor_edge_count, defScope s_Monitor_edge_count, [], []⟩
def d_Monitor_edge : He.DefD := ⟨("Monitor", some "edge"), "edge", "Monitor.edge", defArgs s_Monitor_edge, defBody s_Monitor_edge, defScope s_Monitor_edge, [], []⟩
def d_Monitor_feed : He.DefD := ⟨("Monitor", some "feed"), "feed", "Monitor.feed", defArgs s_Monitor_feed, defBody s_Monitor_feed, defScope s_Monitor_feed, [], []⟩
def d_Monitor_undo : He.DefD := ⟨("Monitor", some "undo"), "undo", "Monitor.undo", defArgs s_Monitor_undo, defBody s_Monitor_undo, defScope s_Monitor_undo, [], []⟩
def d_Monitor_edges : He.DefD := ⟨("Monitor", some "edges"), "edges", "Monitor.edges", defArgs s_Monitor_edges, defBody s_Monitor_edges, defScope s_Monitor_edges, [], []⟩
def d_Monitor_gaps : He.DefD := ⟨("Monitor", some "gaps"), "gaps", "Monitor.gaps", defArgs s_Monitor_gaps, defBody s_Monitor_gaps, defScope s_Monitor_gaps, [], []⟩
def d_Monitor_payloads : He.DefD := ⟨("Monitor", some "payloads"), "payloads", "Monitor.payloads", defArgs s_Monitor_payloads, defBody s_Monitor_payloads, defScope s_Monitor_payloads, [], []⟩
def d_Monitor_history : He.DefD := ⟨("Monitor", some "history"), "history", "Monitor.history", defArgs s_Monitor_history, defBody s_Monitor_history, defScope s_Monitor_history, [], []⟩
def d_Monitor_state : He.DefD := ⟨("Monitor", some "state"), "state", "Monitor.state", defArgs s_Monitor_state, defBody s_Monitor_state, defScope s_Monitor_state, [], []⟩
def d_opened : He.DefD := ⟨("opened", none), "opened", "opened", defArgs s_opened, defBody s_opened, defScope s_opened, [], []⟩
def d_shift_at : He.DefD := ⟨("shift_at", none), "shift_at", "shift_at", defArgs s_shift_at, defBody s_shift_at, defScope s_shift_at, [], []⟩
def d_places_of : He.DefD := ⟨("places_of", none), "places_of", "places_of", defArgs s_places_of, defBody s_places_of, defScope s_places_of, [], []⟩
def d_is_ordered : He.DefD := ⟨("is_ordered", none), "is_ordered", "is_ordered", defArgs s_is_ordered, defBody s_is_ordered, defScope s_is_ordered, [], []⟩
def d_is_late : He.DefD := ⟨("is_late", none), "is_late", "is_late", defArgs s_is_late, defBody s_is_late, defScope s_is_late, [], []⟩
def d_relay_signal : He.DefD := ⟨("relay_signal", none), "relay_signal", "relay_signal", defArgs s_relay_signal, defBody s_relay_signal, defScope s_relay_signal, [], []⟩
def d_backlogs : He.DefD := ⟨("backlogs", none), "backlogs", "backlogs", defArgs s_backlogs, defBody s_backlogs, defScope s_backlogs, [], []⟩
def d_byte_bits : He.DefD := ⟨("byte_bits", none), "byte_bits", "byte_bits", defArgs s_byte_bits, defBody s_byte_bits, defScope s_byte_bits, [], []⟩
def d_bits_of : He.DefD := ⟨("bits_of", none), "bits_of", "bits_of", defArgs s_bits_of, defBody s_bits_of, defScope s_bits_of, [], []⟩
def d_byte_of : He.DefD := ⟨("byte_of", none), "byte_of", "byte_of", defArgs s_byte_of, defBody s_byte_of, defScope s_byte_of, [], []⟩
def d_bytes_of : He.DefD := ⟨("bytes_of", none), "bytes_of", "bytes_of", defArgs s_bytes_of, defBody s_bytes_of, defScope s_bytes_of, [], []⟩
def d_added : He.DefD := ⟨("added", none), "added", "added", defArgs s_added, defBody s_added, defScope s_added, [], []⟩
def d_remainder : He.DefD := ⟨("remainder", none), "remainder", "remainder", defArgs s_remainder, defBody s_remainder, defScope s_remainder, [], []⟩
def d_check_bits : He.DefD := ⟨("check_bits", none), "check_bits", "check_bits", defArgs s_check_bits, defBody s_check_bits, defScope s_check_bits, [], []⟩
def d_is_intact : He.DefD := ⟨("is_intact", none), "is_intact", "is_intact", defArgs s_is_intact, defBody s_is_intact, defScope s_is_intact, [], []⟩
def d_pack : He.DefD := ⟨("pack", none), "pack", "pack", defArgs s_pack, defBody s_pack, defScope s_pack, [], []⟩
def d_unpack : He.DefD := ⟨("unpack", none), "unpack", "unpack", defArgs s_unpack, defBody s_unpack, defScope s_unpack, [], []⟩
def d_modulus_of : He.DefD := ⟨("modulus_of", none), "modulus_of", "modulus_of", defArgs s_modulus_of, defBody s_modulus_of, defScope s_modulus_of, [], []⟩
def d_Sender_init : He.DefD := ⟨("Sender", some "__init__"), "__init__", "Sender.__init__", defArgs s_Sender_init, defBody s_Sender_init, defScope s_Sender_init, [], []⟩
def d_Sender_queue : He.DefD := ⟨("Sender", some "queue"), "queue", "Sender.queue", defArgs s_Sender_queue, defBody s_Sender_queue, defScope s_Sender_queue, [], []⟩
def d_Sender_open_letters : He.DefD := ⟨("Sender", some "open_letters"), "open_letters", "Sender.open_letters", defArgs s_Sender_open_letters, defBody s_Sender_open_letters, defScope s_Sender_open_letters, [], []⟩
def d_Sender_payload : He.DefD := ⟨("Sender", some "payload"), "payload", "Sender.payload", defArgs s_Sender_payload, defBody s_Sender_payload, defScope s_Sender_payload, [], []⟩
def d_Sender_payloads : He.DefD := ⟨("Sender", some "payloads"), "payloads", "Sender.payloads", defArgs s_Sender_payloads, defBody s_Sender_payloads, defScope s_Sender_payloads, [], []⟩
def d_Sender_hear : He.DefD := ⟨("Sender", some "hear"), "hear", "Sender.hear", defArgs s_Sender_hear, defBody s_Sender_hear, defScope s_Sender_hear, [], []⟩
def d_Taker_init : He.DefD := ⟨("Taker", some "__init__"), "__init__", "Taker.__init__", defArgs s_Taker_init, defBody s_Taker_init, defScope s_Taker_init, [], []⟩
def d_Taker_answer : He.DefD := ⟨("Taker", some "answer"), "answer", "Taker.answer", defArgs s_Taker_answer, defBody s_Taker_answer, defScope s_Taker_answer, [], []⟩
def d_Taker_hear : He.DefD := ⟨("Taker", some "hear"), "hear", "Taker.hear", defArgs s_Taker_hear, defBody s_Taker_hear, defScope s_Taker_hear, [], []⟩
def d_Talk_init : He.DefD := ⟨("Talk", some "__init__"), "__init__", "Talk.__init__", defArgs s_Talk_init, defBody s_Talk_init, defScope s_Talk_init, [], []⟩
def d_Talk_queue : He.DefD := ⟨("Talk", some "queue"), "queue", "Talk.queue", defArgs s_Talk_queue, defBody s_Talk_queue, defScope s_Talk_queue, [], []⟩
def d_Talk_put : He.DefD := ⟨("Talk", some "put"), "put", "Talk.put", defArgs s_Talk_put, defBody s_Talk_put, defScope s_Talk_put, [], []⟩
def d_Talk_send : He.DefD := ⟨("Talk", some "send"), "send", "Talk.send", defArgs s_Talk_send, defBody s_Talk_send, defScope s_Talk_send, [], []⟩
def d_Talk_check_place : He.DefD := ⟨("Talk", some "check_place"), "check_place", "Talk.check_place", defArgs s_Talk_check_place, defBody s_Talk_check_place, defScope s_Talk_check_place, [], []⟩
def d_Talk_deliver : He.DefD := ⟨("Talk", some "deliver"), "deliver", "Talk.deliver", defArgs s_Talk_deliver, defBody s_Talk_deliver, defScope s_Talk_deliver, [], []⟩
def d_Talk_line : He.DefD := ⟨("Talk", some "line"), "line", "Talk.line", defArgs s_Talk_line, defBody s_Talk_line, defScope s_Talk_line, [], []⟩
def d_Talk_taken : He.DefD := ⟨("Talk", some "taken"), "taken", "Talk.taken", defArgs s_Talk_taken, defBody s_Talk_taken, defScope s_Talk_taken, [], []⟩
def d_Talk_known : He.DefD := ⟨("Talk", some "known"), "known", "Talk.known", defArgs s_Talk_known, defBody s_Talk_known, defScope s_Talk_known, [], []⟩
def d_law_cell : He.DefD := ⟨("_law_cell", none), "_law_cell", "_law_cell", defArgs s_law_cell, defBody s_law_cell, defScope s_law_cell, [], []⟩
def d_law_draws : He.DefD := ⟨("_law_draws", none), "_law_draws", "_law_draws", defArgs s_law_draws, defBody s_law_draws, defScope s_law_draws, [], []⟩
def d_law_changed : He.DefD := ⟨("_law_changed", none), "_law_changed", "_law_changed", defArgs s_law_changed, defBody s_law_changed, defScope s_law_changed, [], []⟩
def d_law_edge : He.DefD := ⟨("_law_edge", none), "_law_edge", "_law_edge", defArgs s_law_edge, defBody s_law_edge, defScope s_law_edge, [], []⟩
def d_law_edges_are_refused : He.DefD := ⟨("_law_edges_are_refused", none), "_law_edges_are_refused", "_law_edges_are_refused", defArgs s_law_edges_are_refused, defBody s_law_edges_are_refused, defScope s_law_edges_are_refused, [], []⟩
def d_law_of_monitor : He.DefD := ⟨("_law_of_monitor", none), "_law_of_monitor", "_law_of_monitor", defArgs s_law_of_monitor, defBody s_law_of_monitor, defScope s_law_of_monitor, [], []⟩
def d_law_of_talk : He.DefD := ⟨("_law_of_talk", none), "_law_of_talk", "_law_of_talk", defArgs s_law_of_talk, defBody s_law_of_talk, defScope s_law_of_talk, [], []⟩
def d_law_talk : He.DefD := ⟨("_law_talk", none), "_law_talk", "_law_talk", defArgs s_law_talk, defBody s_law_talk, defScope s_law_talk, [], []⟩
def d_law : He.DefD := ⟨("law", none), "law", "law", defArgs s_law, defBody s_law, defScope s_law, [], []⟩
def fns0 : List He.DefD := [d_stuff, d_flag_of, d_frame_bits, d_zeros_of, d_gaps_of, d_Reader_init, d_Reader_read, d_read_gaps, d_frame_gaps, d_gap_bits, d_poll_of, d_detection_polls, d_received_gaps, d_receive, d_detection_time, d_Monitor_init, d_Monitor_edge_count, d_Monitor_edge, d_Monitor_feed, d_Monitor_undo]
def fns1 : List He.DefD := [d_Monitor_edges, d_Monitor_gaps, d_Monitor_payloads, d_Monitor_history, d_Monitor_state, d_opened, d_shift_at, d_places_of, d_is_ordered, d_is_late, d_relay_signal, d_backlogs, d_byte_bits, d_bits_of, d_byte_of, d_bytes_of, d_added, d_remainder, d_check_bits, d_is_intact]
def fns2 : List He.DefD := [d_pack, d_unpack, d_modulus_of, d_Sender_init, d_Sender_queue, d_Sender_open_letters, d_Sender_payload, d_Sender_payloads, d_Sender_hear, d_Taker_init, d_Taker_answer, d_Taker_hear, d_Talk_init, d_Talk_queue, d_Talk_put, d_Talk_send, d_Talk_check_place, d_Talk_deliver, d_Talk_line, d_Talk_taken]
def fns3 : List He.DefD := [d_Talk_known, d_law_cell, d_law_draws, d_law_changed, d_law_edge, d_law_edges_are_refused, d_law_of_monitor, d_law_of_talk, d_law_talk, d_law]
def fns : List He.DefD := fns0 ++ (fns1 ++ (fns2 ++ (fns3)))
theorem in_stuff : d_stuff ∈ fns := List.mem_of_getElem? (i := 0) rfl
theorem in_flag_of : d_flag_of ∈ fns := List.mem_of_getElem? (i := 1) rfl
theorem in_frame_bits : d_frame_bits ∈ fns := List.mem_of_getElem? (i := 2) rfl
theorem in_zeros_of : d_zeros_of ∈ fns := List.mem_of_getElem? (i := 3) rfl
theorem in_gaps_of : d_gaps_of ∈ fns := List.mem_of_getElem? (i := 4) rfl
theorem in_Reader_init : d_Reader_init ∈ fns := List.mem_of_getElem? (i := 5) rfl
theorem in_Reader_read : d_Reader_read ∈ fns := List.mem_of_getElem? (i := 6) rfl
theorem in_read_gaps : d_read_gaps ∈ fns := List.mem_of_getElem? (i := 7) rfl
theorem in_frame_gaps : d_frame_gaps ∈ fns := List.mem_of_getElem? (i := 8) rfl
theorem in_gap_bits : d_gap_bits ∈ fns := List.mem_of_getElem? (i := 9) rfl
theorem in_poll_of : d_poll_of ∈ fns := List.mem_of_getElem? (i := 10) rfl
theorem in_detection_polls : d_detection_polls ∈ fns := List.mem_of_getElem? (i := 11) rfl
theorem in_received_gaps : d_received_gaps ∈ fns := List.mem_of_getElem? (i := 12) rfl
theorem in_receive : d_receive ∈ fns := List.mem_of_getElem? (i := 13) rfl
theorem in_detection_time : d_detection_time ∈ fns := List.mem_of_getElem? (i := 14) rfl
theorem in_Monitor_init : d_Monitor_init ∈ fns := List.mem_of_getElem? (i := 15) rfl
theorem in_Monitor_edge_count : d_Monitor_edge_count ∈ fns := List.mem_of_getElem? (i := 16) rfl
theorem in_Monitor_edge : d_Monitor_edge ∈ fns := List.mem_of_getElem? (i := 17) rfl
theorem in_Monitor_feed : d_Monitor_feed ∈ fns := List.mem_of_getElem? (i := 18) rfl
theorem in_Monitor_undo : d_Monitor_undo ∈ fns := List.mem_of_getElem? (i := 19) rfl
theorem in_Monitor_edges : d_Monitor_edges ∈ fns := List.mem_of_getElem? (i := 20) rfl
theorem in_Monitor_gaps : d_Monitor_gaps ∈ fns := List.mem_of_getElem? (i := 21) rfl
theorem in_Monitor_payloads : d_Monitor_payloads ∈ fns := List.mem_of_getElem? (i := 22) rfl
theorem in_Monitor_history : d_Monitor_history ∈ fns := List.mem_of_getElem? (i := 23) rfl
theorem in_Monitor_state : d_Monitor_state ∈ fns := List.mem_of_getElem? (i := 24) rfl
theorem in_opened : d_opened ∈ fns := List.mem_of_getElem? (i := 25) rfl
theorem in_shift_at : d_shift_at ∈ fns := List.mem_of_getElem? (i := 26) rfl
theorem in_places_of : d_places_of ∈ fns := List.mem_of_getElem? (i := 27) rfl
theorem in_is_ordered : d_is_ordered ∈ fns := List.mem_of_getElem? (i := 28) rfl
theorem in_is_late : d_is_late ∈ fns := List.mem_of_getElem? (i := 29) rfl
theorem in_relay_signal : d_relay_signal ∈ fns := List.mem_of_getElem? (i := 30) rfl
theorem in_backlogs : d_backlogs ∈ fns := List.mem_of_getElem? (i := 31) rfl
theorem in_byte_bits : d_byte_bits ∈ fns := List.mem_of_getElem? (i := 32) rfl
theorem in_bits_of : d_bits_of ∈ fns := List.mem_of_getElem? (i := 33) rfl
theorem in_byte_of : d_byte_of ∈ fns := List.mem_of_getElem? (i := 34) rfl
theorem in_bytes_of : d_bytes_of ∈ fns := List.mem_of_getElem? (i := 35) rfl
theorem in_added : d_added ∈ fns := List.mem_of_getElem? (i := 36) rfl
theorem in_remainder : d_remainder ∈ fns := List.mem_of_getElem? (i := 37) rfl
theorem in_check_bits : d_check_bits ∈ fns := List.mem_of_getElem? (i := 38) rfl
theorem in_is_intact : d_is_intact ∈ fns := List.mem_of_getElem? (i := 39) rfl
theorem in_pack : d_pack ∈ fns := List.mem_of_getElem? (i := 40) rfl
theorem in_unpack : d_unpack ∈ fns := List.mem_of_getElem? (i := 41) rfl
theorem in_modulus_of : d_modulus_of ∈ fns := List.mem_of_getElem? (i := 42) rfl
theorem in_Sender_init : d_Sender_init ∈ fns := List.mem_of_getElem? (i := 43) rfl
theorem in_Sender_queue : d_Sender_queue ∈ fns := List.mem_of_getElem? (i := 44) rfl
theorem in_Sender_open_letters : d_Sender_open_letters ∈ fns := List.mem_of_getElem? (i := 45) rfl
theorem in_Sender_payload : d_Sender_payload ∈ fns := List.mem_of_getElem? (i := 46) rfl
theorem in_Sender_payloads : d_Sender_payloads ∈ fns := List.mem_of_getElem? (i := 47) rfl
theorem in_Sender_hear : d_Sender_hear ∈ fns := List.mem_of_getElem? (i := 48) rfl
theorem in_Taker_init : d_Taker_init ∈ fns := List.mem_of_getElem? (i := 49) rfl
theorem in_Taker_answer : d_Taker_answer ∈ fns := List.mem_of_getElem? (i := 50) rfl
theorem in_Taker_hear : d_Taker_hear ∈ fns := List.mem_of_getElem? (i := 51) rfl
theorem in_Talk_init : d_Talk_init ∈ fns := List.mem_of_getElem? (i := 52) rfl
theorem in_Talk_queue : d_Talk_queue ∈ fns := List.mem_of_getElem? (i := 53) rfl
theorem in_Talk_put : d_Talk_put ∈ fns := List.mem_of_getElem? (i := 54) rfl
theorem in_Talk_send : d_Talk_send ∈ fns := List.mem_of_getElem? (i := 55) rfl
theorem in_Talk_check_place : d_Talk_check_place ∈ fns := List.mem_of_getElem? (i := 56) rfl
theorem in_Talk_deliver : d_Talk_deliver ∈ fns := List.mem_of_getElem? (i := 57) rfl
theorem in_Talk_line : d_Talk_line ∈ fns := List.mem_of_getElem? (i := 58) rfl
theorem in_Talk_taken : d_Talk_taken ∈ fns := List.mem_of_getElem? (i := 59) rfl
theorem in_Talk_known : d_Talk_known ∈ fns := List.mem_of_getElem? (i := 60) rfl
theorem in_law_cell : d_law_cell ∈ fns := List.mem_of_getElem? (i := 61) rfl
theorem in_law_draws : d_law_draws ∈ fns := List.mem_of_getElem? (i := 62) rfl
theorem in_law_changed : d_law_changed ∈ fns := List.mem_of_getElem? (i := 63) rfl
theorem in_law_edge : d_law_edge ∈ fns := List.mem_of_getElem? (i := 64) rfl
theorem in_law_edges_are_refused : d_law_edges_are_refused ∈ fns := List.mem_of_getElem? (i := 65) rfl
theorem in_law_of_monitor : d_law_of_monitor ∈ fns := List.mem_of_getElem? (i := 66) rfl
theorem in_law_of_talk : d_law_of_talk ∈ fns := List.mem_of_getElem? (i := 67) rfl
theorem in_law_talk : d_law_talk ∈ fns := List.mem_of_getElem? (i := 68) rfl
theorem in_law : d_law ∈ fns := List.mem_of_getElem? (i := 69) rfl
def glos1 : List PySem.Str := ["stuff", "flag_of", "frame_bits", "zeros_of", "gaps_of", "read_gaps", "frame_gaps", "gap_bits", "poll_of", "detection_polls", "received_gaps", "receive", "detection_time", "opened", "shift_at", "places_of", "is_ordered", "is_late", "relay_signal", "backlogs", "byte_bits", "bits_of", "byte_of", "bytes_of", "added", "remainder", "check_bits", "is_intact", "pack", "unpack"]
def glos2 : List PySem.Str := ["modulus_of", "_law_cell", "_law_draws", "_law_changed", "_law_edge", "_law_edges_are_refused", "_law_of_monitor", "_law_of_talk", "_law_talk", "law", "Refused", "Reader", "Monitor", "Sender", "Taker", "Talk"]
def glos : List PySem.Str := glos1 ++ glos2
def frees : List PySem.Str := ["len", "range", "enumerate", "zip", "max", "min", "str", "int", "list", "tuple", "repr", "all", "ValueError", "super"]
def clss : List PySem.Str := ["Reader", "Monitor", "Sender", "Taker", "Talk"]
def noats : List (PySem.Str × PySem.Str) := [("Reader", "limit"), ("Reader", "bits"), ("Reader", "is_closed"), ("Reader", "payloads"), ("Monitor", "limit"), ("Monitor", "receiver"), ("Monitor", "phase"), ("Monitor", "signal"), ("Sender", "window"), ("Sender", "generator"), ("Sender", "letters"), ("Sender", "done"), ("Taker", "window"), ("Taker", "generator"), ("Taker", "letters"), ("Talk", "window"), ("Talk", "generator"), ("Talk", "sender"), ("Talk", "taker"), ("Talk", "lines")]
def meths : List (PySem.Str × PySem.Str) := [("Reader", "read"), ("Monitor", "edge_count"), ("Monitor", "edge"), ("Monitor", "feed"), ("Monitor", "undo"), ("Monitor", "edges"), ("Monitor", "gaps"), ("Monitor", "payloads"), ("Monitor", "history"), ("Monitor", "state"), ("Sender", "queue"), ("Sender", "open_letters"), ("Sender", "payload"), ("Sender", "payloads"), ("Sender", "hear"), ("Taker", "answer"), ("Taker", "hear"), ("Talk", "queue"), ("Talk", "put"), ("Talk", "send"), ("Talk", "check_place"), ("Talk", "deliver"), ("Talk", "line"), ("Talk", "taken"), ("Talk", "known")]
def nums : List (PySem.Str × Int) := [("EDGES_MOST", 256), ("BYTE_SIZE", 8), ("LETTERS_MOST", 60), ("LINE_MOST", 40)]
def fas : List He.Fa := glos.map .glo ++ (frees.map .free ++ (clss.map .cls ++ (noats.map (fun p => .noat p.1 p.2) ++ (meths.map (fun p => .meth p.1 p.2) ++ (clss.map .mkr ++ nums.map (fun p => .int p.1 p.2))))))
/-- what the walk asks of the top -/
structure Txt (K : PySem.W.Frag) (mg : PySem.Str → Option Value) : Prop where
  g : ∀ {x : PySem.Str}, x ∈ glos → mg x = some (.ref (He.ga K x))
  fr : ∀ {x : PySem.Str}, x ∈ frees → mg x = none
  cl : ∀ {x : PySem.Str}, x ∈ clss → Cls K (He.ga K x)
  na : ∀ {x f : PySem.Str}, (x, f) ∈ noats → NoAttr K (He.ga K x) f
  me : ∀ {x m : PySem.Str}, (x, m) ∈ meths → Meth K (He.ga K x) m (He.ma K (He.ga K x) m)
  mkr : ∀ {x : PySem.Str}, x ∈ clss → Mk K (He.ga K x) (He.ma K (He.ga K x) "__init__")
  ci : ∀ {x : PySem.Str} {i : Int}, (x, i) ∈ nums → ∃ t, mg x = some (.int i t)
  fn : ∀ {d : He.DefD}, d ∈ fns → ∃ fd, FunD K d.name d.qual d.params d.body d.scope (d.dvs K) (d.kws K) (He.fAd K d.at_) fd
theorem txt_of {K : PySem.W.Frag} {mg : PySem.Str → Option Value} {h : Heap} (X : K.In h) (G : h.Ns mainGlobals mg) (c : He.SaysD fas fns K) : Txt K mg where
  g := fun hx => He.glo_ok X G (c.facts (List.mem_append_left _ (List.mem_map_of_mem hx)))
  fr := fun hx => He.free_ok X G (c.facts (List.mem_append_right _ (List.mem_append_left _ (List.mem_map_of_mem hx))))
  cl := fun hx => He.cls_ok (c.facts (List.mem_append_right _ (List.mem_append_right _ (List.mem_append_left _ (List.mem_map_of_mem hx)))))
  na := fun {x f} hx => He.noat_ok (c.facts (f := .noat x f) (List.mem_append_right _ (List.mem_append_right _ (List.mem_append_right _ (List.mem_append_left _ (List.mem_map.mpr ⟨_, hx, rfl⟩))))))
  me := fun {x m} hx => He.meth_ok (c.facts (f := .meth x m) (List.mem_append_right _ (List.mem_append_right _ (List.mem_append_right _ (List.mem_append_right _ (List.mem_append_left _ (List.mem_map.mpr ⟨_, hx, rfl⟩)))))))
  mkr := fun hx => He.mkr_ok (c.facts (List.mem_append_right _ (List.mem_append_right _ (List.mem_append_right _ (List.mem_append_right _ (List.mem_append_right _ (List.mem_append_left _ (List.mem_map_of_mem hx))))))))
  ci := fun {x i} hx => He.int_ok X G (c.facts (f := .int x i) (List.mem_append_right _ (List.mem_append_right _ (List.mem_append_right _ (List.mem_append_right _ (List.mem_append_right _ (List.mem_append_right _ (List.mem_map.mpr ⟨_, hx, rfl⟩))))))))
  fn := fun hd => c.defs hd
/-! a def keeps its promise -/
section
variable {P : Program} {w : World} {K : PySem.W.Frag} {mg : PySem.Str → Option Value} {base : Heap} {x qual : PySem.Str} {params : Arguments} {body : List Stmt} {scope : Scope} {f : Addr} {N ps : List PySem.Str} {k : Nat} {sp : Sp}
/-- how the arguments bind: one value a parameter -/
def Bnd (x qual : PySem.Str) (params : Arguments) (body : List Stmt) (scope : Scope) (ps : List PySem.Str) : Prop :=
  ∀ (kV doc pm : Value) (an : Option Addr) (cdv ct : Value) (us : List Value), us.length = ps.length → bindArgs (PySem.W.fnOf x qual params body scope .none kV doc pm an cdv ct) ⟨us, []⟩ = pure (ps.zip us)
/-- a def that lets nothing out -/
theorem kept0 (F : ∃ fd, FunD K x qual params body scope [] [] f fd) (S : FnScope N ps scope) (B : Bnd x qual params body scope ps) (len : ∀ vs H Q E, sp vs H Q E → vs.length = ps.length)
    (walk : ∀ (cdv : Value) (A : Around) (outer : List Env) (s : Shared) (H : Hp) (vs : List V) (Q : VK) (E : XK), Room k (A.deeper (envOfC qual scope s.heap.objs.size f cdv)) → sp vs H Q E →
      ∃ t, PSs (cxOf CX0 P w K mg base N qual scope f cdv A outer s H E).nox body t ∧ t { nx := fun _ H' => Q .non H', rt := Q } (start N vs) H) : Kept P w K mg base CX0 (k + 1) f ps sp := by
  obtain ⟨fd, F⟩ := F
  refine ⟨F.kp, fd, F.bindsN B, F.ok S len fun cdv A outer s H vs Q E hr h => ?_⟩
  obtain ⟨t, a, b⟩ := walk cdv A outer s H vs Q E hr h
  exact ⟨t, a.nox, b⟩
/-- a def that may raise -/
theorem keptX (F : ∃ fd, FunD K x qual params body scope [] [] f fd) (S : FnScope N ps scope) (B : Bnd x qual params body scope ps) (len : ∀ vs H Q E, sp vs H Q E → vs.length = ps.length)
    (walk : ∀ (cdv : Value) (A : Around) (outer : List Env) (s : Shared) (H : Hp) (vs : List V) (Q : VK) (E : XK), Room k (A.deeper (envOfC qual scope s.heap.objs.size f cdv)) → sp vs H Q E →
      ∃ t, PSs (cxOf (L2.CX P w) P w K mg base N qual scope f cdv A outer s H E) body t ∧ t { nx := fun _ H' => Q .non H', rt := Q } (start N vs) H) : Kept P w K mg base (L2.CX P w) (k + 1) f ps sp := by
  obtain ⟨fd, F⟩ := F
  exact ⟨F.kp, fd, F.bindsN B, F.ok S len walk⟩
end
theorem b_stuff : Bnd "stuff" "stuff" (defArgs s_stuff) (defBody s_stuff) (defScope s_stuff) ["limit", "bits"] := fun _ _ _ _ _ _ us hl => match us, hl with | [_, _], _ => rfl
theorem b_flag_of : Bnd "flag_of" "flag_of" (defArgs s_flag_of) (defBody s_flag_of) (defScope s_flag_of) ["limit"] := fun _ _ _ _ _ _ us hl => match us, hl with | [_], _ => rfl
theorem b_frame_bits : Bnd "frame_bits" "frame_bits" (defArgs s_frame_bits) (defBody s_frame_bits) (defScope s_frame_bits) ["limit", "payload"] := fun _ _ _ _ _ _ us hl => match us, hl with | [_, _], _ => rfl
theorem b_zeros_of : Bnd "zeros_of" "zeros_of" (defArgs s_zeros_of) (defBody s_zeros_of) (defScope s_zeros_of) ["bits"] := fun _ _ _ _ _ _ us hl => match us, hl with | [_], _ => rfl
theorem b_gaps_of : Bnd "gaps_of" "gaps_of" (defArgs s_gaps_of) (defBody s_gaps_of) (defScope s_gaps_of) ["bits"] := fun _ _ _ _ _ _ us hl => match us, hl with | [_], _ => rfl
theorem b_Reader_init : Bnd "__init__" "Reader.__init__" (defArgs s_Reader_init) (defBody s_Reader_init) (defScope s_Reader_init) ["self", "limit"] := fun _ _ _ _ _ _ us hl => match us, hl with | [_, _], _ => rfl
theorem b_Reader_read : Bnd "read" "Reader.read" (defArgs s_Reader_read) (defBody s_Reader_read) (defScope s_Reader_read) ["self", "gap"] := fun _ _ _ _ _ _ us hl => match us, hl with | [_, _], _ => rfl
theorem b_read_gaps : Bnd "read_gaps" "read_gaps" (defArgs s_read_gaps) (defBody s_read_gaps) (defScope s_read_gaps) ["limit", "gaps"] := fun _ _ _ _ _ _ us hl => match us, hl with | [_, _], _ => rfl
theorem b_frame_gaps : Bnd "frame_gaps" "frame_gaps" (defArgs s_frame_gaps) (defBody s_frame_gaps) (defScope s_frame_gaps) ["limit", "payload"] := fun _ _ _ _ _ _ us hl => match us, hl with | [_, _], _ => rfl
theorem b_gap_bits : Bnd "gap_bits" "gap_bits" (defArgs s_gap_bits) (defBody s_gap_bits) (defScope s_gap_bits) ["receiver", "polls"] := fun _ _ _ _ _ _ us hl => match us, hl with | [_, _], _ => rfl
theorem b_poll_of : Bnd "poll_of" "poll_of" (defArgs s_poll_of) (defBody s_poll_of) (defScope s_poll_of) ["receiver", "phase", "time"] := fun _ _ _ _ _ _ us hl => match us, hl with | [_, _, _], _ => rfl
theorem b_detection_polls : Bnd "detection_polls" "detection_polls" (defArgs s_detection_polls) (defBody s_detection_polls) (defScope s_detection_polls) ["receiver", "phase", "signal"] := fun _ _ _ _ _ _ us hl => match us, hl with | [_, _, _], _ => rfl
theorem b_received_gaps : Bnd "received_gaps" "received_gaps" (defArgs s_received_gaps) (defBody s_received_gaps) (defScope s_received_gaps) ["receiver", "phase", "signal"] := fun _ _ _ _ _ _ us hl => match us, hl with | [_, _, _], _ => rfl
theorem b_receive : Bnd "receive" "receive" (defArgs s_receive) (defBody s_receive) (defScope s_receive) ["limit", "receiver", "phase", "signal"] := fun _ _ _ _ _ _ us hl => match us, hl with | [_, _, _, _], _ => rfl
theorem b_detection_time : Bnd "detection_time" "detection_time" (defArgs s_detection_time) (defBody s_detection_time) (defScope s_detection_time) ["receiver", "phase", "number"] := fun _ _ _ _ _ _ us hl => match us, hl with | [_, _, _], _ => rfl
theorem b_Monitor_init : Bnd "__init__" "Monitor.__init__" (defArgs s_Monitor_init) (defBody s_Monitor_init) (defScope s_Monitor_init) ["self", "limit", "receiver", "phase"] := fun _ _ _ _ _ _ us hl => match us, hl with | [_, _, _, _], _ => rfl
theorem b_Monitor_edge_count : Bnd "edge_count" "Monitor.edge_count" (defArgs s_Monitor_edge_count) (defBody s_Monitor_edge_count) (defScope s_Monitor_edge_count) ["self"] := fun _ _ _ _ _ _ us hl => match us, hl with | [_], _ => rfl
theorem b_Monitor_edge : Bnd "edge" "Monitor.edge" (defArgs s_Monitor_edge) (defBody s_Monitor_edge) (defScope s_Monitor_edge) ["self", "time"] := fun _ _ _ _ _ _ us hl => match us, hl with | [_, _], _ => rfl
theorem b_Monitor_feed : Bnd "feed" "Monitor.feed" (defArgs s_Monitor_feed) (defBody s_Monitor_feed) (defScope s_Monitor_feed) ["self", "times"] := fun _ _ _ _ _ _ us hl => match us, hl with | [_, _], _ => rfl
theorem b_Monitor_undo : Bnd "undo" "Monitor.undo" (defArgs s_Monitor_undo) (defBody s_Monitor_undo) (defScope s_Monitor_undo) ["self"] := fun _ _ _ _ _ _ us hl => match us, hl with | [_], _ => rfl
theorem b_Monitor_edges : Bnd "edges" "Monitor.edges" (defArgs s_Monitor_edges) (defBody s_Monitor_edges) (defScope s_Monitor_edges) ["self"] := fun _ _ _ _ _ _ us hl => match us, hl with | [_], _ => rfl
theorem b_Monitor_gaps : Bnd "gaps" "Monitor.gaps" (defArgs s_Monitor_gaps) (defBody s_Monitor_gaps) (defScope s_Monitor_gaps) ["self"] := fun _ _ _ _ _ _ us hl => match us, hl with | [_], _ => rfl
theorem b_Monitor_payloads : Bnd "payloads" "Monitor.payloads" (defArgs s_Monitor_payloads) (defBody s_Monitor_payloads) (defScope s_Monitor_payloads) ["self"] := fun _ _ _ _ _ _ us hl => match us, hl with | [_], _ => rfl
theorem b_Monitor_history : Bnd "history" "Monitor.history" (defArgs s_Monitor_history) (defBody s_Monitor_history) (defScope s_Monitor_history) ["self"] := fun _ _ _ _ _ _ us hl => match us, hl with | [_], _ => rfl
theorem b_Monitor_state : Bnd "state" "Monitor.state" (defArgs s_Monitor_state) (defBody s_Monitor_state) (defScope s_Monitor_state) ["self"] := fun _ _ _ _ _ _ us hl => match us, hl with | [_], _ => rfl
theorem b_opened : Bnd "opened" "opened" (defArgs s_opened) (defBody s_opened) (defScope s_opened) ["state"] := fun _ _ _ _ _ _ us hl => match us, hl with | [_], _ => rfl
theorem b_shift_at : Bnd "shift_at" "shift_at" (defArgs s_shift_at) (defBody s_shift_at) (defScope s_shift_at) ["shifts", "at"] := fun _ _ _ _ _ _ us hl => match us, hl with | [_, _], _ => rfl
theorem b_places_of : Bnd "places_of" "places_of" (defArgs s_places_of) (defBody s_places_of) (defScope s_places_of) ["receiver", "polls"] := fun _ _ _ _ _ _ us hl => match us, hl with | [_, _], _ => rfl
theorem b_is_ordered : Bnd "is_ordered" "is_ordered" (defArgs s_is_ordered) (defBody s_is_ordered) (defScope s_is_ordered) ["signal"] := fun _ _ _ _ _ _ us hl => match us, hl with | [_], _ => rfl
theorem b_is_late : Bnd "is_late" "is_late" (defArgs s_is_late) (defBody s_is_late) (defScope s_is_late) ["receiver", "phase", "polls", "places", "start", "bit_time"] := fun _ _ _ _ _ _ us hl => match us, hl with | [_, _, _, _, _, _], _ => rfl
theorem b_relay_signal : Bnd "relay_signal" "relay_signal" (defArgs s_relay_signal) (defBody s_relay_signal) (defScope s_relay_signal) ["receiver", "phase", "delay", "bit_time", "shifts", "signal"] := fun _ _ _ _ _ _ us hl => match us, hl with | [_, _, _, _, _, _], _ => rfl
theorem b_backlogs : Bnd "backlogs" "backlogs" (defArgs s_backlogs) (defBody s_backlogs) (defScope s_backlogs) ["receiver", "phase", "delay", "bit_time", "signal"] := fun _ _ _ _ _ _ us hl => match us, hl with | [_, _, _, _, _], _ => rfl
theorem b_byte_bits : Bnd "byte_bits" "byte_bits" (defArgs s_byte_bits) (defBody s_byte_bits) (defScope s_byte_bits) ["number"] := fun _ _ _ _ _ _ us hl => match us, hl with | [_], _ => rfl
theorem b_bits_of : Bnd "bits_of" "bits_of" (defArgs s_bits_of) (defBody s_bits_of) (defScope s_bits_of) ["numbers"] := fun _ _ _ _ _ _ us hl => match us, hl with | [_], _ => rfl
theorem b_byte_of : Bnd "byte_of" "byte_of" (defArgs s_byte_of) (defBody s_byte_of) (defScope s_byte_of) ["bits"] := fun _ _ _ _ _ _ us hl => match us, hl with | [_], _ => rfl
theorem b_bytes_of : Bnd "bytes_of" "bytes_of" (defArgs s_bytes_of) (defBody s_bytes_of) (defScope s_bytes_of) ["bits"] := fun _ _ _ _ _ _ us hl => match us, hl with | [_], _ => rfl
theorem b_added : Bnd "added" "added" (defArgs s_added) (defBody s_added) (defScope s_added) ["one", "two"] := fun _ _ _ _ _ _ us hl => match us, hl with | [_, _], _ => rfl
theorem b_remainder : Bnd "remainder" "remainder" (defArgs s_remainder) (defBody s_remainder) (defScope s_remainder) ["generator", "bits"] := fun _ _ _ _ _ _ us hl => match us, hl with | [_, _], _ => rfl
theorem b_check_bits : Bnd "check_bits" "check_bits" (defArgs s_check_bits) (defBody s_check_bits) (defScope s_check_bits) ["generator", "bits"] := fun _ _ _ _ _ _ us hl => match us, hl with | [_, _], _ => rfl
theorem b_is_intact : Bnd "is_intact" "is_intact" (defArgs s_is_intact) (defBody s_is_intact) (defScope s_is_intact) ["generator", "bits"] := fun _ _ _ _ _ _ us hl => match us, hl with | [_, _], _ => rfl
theorem b_pack : Bnd "pack" "pack" (defArgs s_pack) (defBody s_pack) (defScope s_pack) ["generator", "numbers"] := fun _ _ _ _ _ _ us hl => match us, hl with | [_, _], _ => rfl
theorem b_unpack : Bnd "unpack" "unpack" (defArgs s_unpack) (defBody s_unpack) (defScope s_unpack) ["generator", "bits"] := fun _ _ _ _ _ _ us hl => match us, hl with | [_, _], _ => rfl
theorem b_modulus_of : Bnd "modulus_of" "modulus_of" (defArgs s_modulus_of) (defBody s_modulus_of) (defScope s_modulus_of) ["window"] := fun _ _ _ _ _ _ us hl => match us, hl with | [_], _ => rfl
theorem b_Sender_init : Bnd "__init__" "Sender.__init__" (defArgs s_Sender_init) (defBody s_Sender_init) (defScope s_Sender_init) ["self", "window", "generator"] := fun _ _ _ _ _ _ us hl => match us, hl with | [_, _, _], _ => rfl
theorem b_Sender_queue : Bnd "queue" "Sender.queue" (defArgs s_Sender_queue) (defBody s_Sender_queue) (defScope s_Sender_queue) ["self", "letter"] := fun _ _ _ _ _ _ us hl => match us, hl with | [_, _], _ => rfl
theorem b_Sender_open_letters : Bnd "open_letters" "Sender.open_letters" (defArgs s_Sender_open_letters) (defBody s_Sender_open_letters) (defScope s_Sender_open_letters) ["self"] := fun _ _ _ _ _ _ us hl => match us, hl with | [_], _ => rfl
theorem b_Sender_payload : Bnd "payload" "Sender.payload" (defArgs s_Sender_payload) (defBody s_Sender_payload) (defScope s_Sender_payload) ["self", "at"] := fun _ _ _ _ _ _ us hl => match us, hl with | [_, _], _ => rfl
theorem b_Sender_payloads : Bnd "payloads" "Sender.payloads" (defArgs s_Sender_payloads) (defBody s_Sender_payloads) (defScope s_Sender_payloads) ["self"] := fun _ _ _ _ _ _ us hl => match us, hl with | [_], _ => rfl
theorem b_Sender_hear : Bnd "hear" "Sender.hear" (defArgs s_Sender_hear) (defBody s_Sender_hear) (defScope s_Sender_hear) ["self", "payload"] := fun _ _ _ _ _ _ us hl => match us, hl with | [_, _], _ => rfl
theorem b_Taker_init : Bnd "__init__" "Taker.__init__" (defArgs s_Taker_init) (defBody s_Taker_init) (defScope s_Taker_init) ["self", "window", "generator"] := fun _ _ _ _ _ _ us hl => match us, hl with | [_, _, _], _ => rfl
theorem b_Taker_answer : Bnd "answer" "Taker.answer" (defArgs s_Taker_answer) (defBody s_Taker_answer) (defScope s_Taker_answer) ["self"] := fun _ _ _ _ _ _ us hl => match us, hl with | [_], _ => rfl
theorem b_Taker_hear : Bnd "hear" "Taker.hear" (defArgs s_Taker_hear) (defBody s_Taker_hear) (defScope s_Taker_hear) ["self", "payload"] := fun _ _ _ _ _ _ us hl => match us, hl with | [_, _], _ => rfl
theorem b_Talk_init : Bnd "__init__" "Talk.__init__" (defArgs s_Talk_init) (defBody s_Talk_init) (defScope s_Talk_init) ["self", "window", "generator"] := fun _ _ _ _ _ _ us hl => match us, hl with | [_, _, _], _ => rfl
theorem b_Talk_queue : Bnd "queue" "Talk.queue" (defArgs s_Talk_queue) (defBody s_Talk_queue) (defScope s_Talk_queue) ["self", "letter"] := fun _ _ _ _ _ _ us hl => match us, hl with | [_, _], _ => rfl
theorem b_Talk_put : Bnd "put" "Talk.put" (defArgs s_Talk_put) (defBody s_Talk_put) (defScope s_Talk_put) ["self", "way", "payload"] := fun _ _ _ _ _ _ us hl => match us, hl with | [_, _, _], _ => rfl
theorem b_Talk_send : Bnd "send" "Talk.send" (defArgs s_Talk_send) (defBody s_Talk_send) (defScope s_Talk_send) ["self"] := fun _ _ _ _ _ _ us hl => match us, hl with | [_], _ => rfl
theorem b_Talk_check_place : Bnd "check_place" "Talk.check_place" (defArgs s_Talk_check_place) (defBody s_Talk_check_place) (defScope s_Talk_check_place) ["self", "way", "place"] := fun _ _ _ _ _ _ us hl => match us, hl with | [_, _, _], _ => rfl
theorem b_Talk_deliver : Bnd "deliver" "Talk.deliver" (defArgs s_Talk_deliver) (defBody s_Talk_deliver) (defScope s_Talk_deliver) ["self", "way"] := fun _ _ _ _ _ _ us hl => match us, hl with | [_, _], _ => rfl
theorem b_Talk_line : Bnd "line" "Talk.line" (defArgs s_Talk_line) (defBody s_Talk_line) (defScope s_Talk_line) ["self", "way"] := fun _ _ _ _ _ _ us hl => match us, hl with | [_, _], _ => rfl
theorem b_Talk_taken : Bnd "taken" "Talk.taken" (defArgs s_Talk_taken) (defBody s_Talk_taken) (defScope s_Talk_taken) ["self"] := fun _ _ _ _ _ _ us hl => match us, hl with | [_], _ => rfl
theorem b_Talk_known : Bnd "known" "Talk.known" (defArgs s_Talk_known) (defBody s_Talk_known) (defScope s_Talk_known) ["self"] := fun _ _ _ _ _ _ us hl => match us, hl with | [_], _ => rfl
theorem b_law_cell : Bnd "_law_cell" "_law_cell" (defArgs s_law_cell) (defBody s_law_cell) (defScope s_law_cell) ["_law_script", "_law_k"] := fun _ _ _ _ _ _ us hl => match us, hl with | [_, _], _ => rfl
theorem b_law_draws : Bnd "_law_draws" "_law_draws" (defArgs s_law_draws) (defBody s_law_draws) (defScope s_law_draws) ["_law_cell_here", "_law_count"] := fun _ _ _ _ _ _ us hl => match us, hl with | [_, _], _ => rfl
theorem b_law_changed : Bnd "_law_changed" "_law_changed" (defArgs s_law_changed) (defBody s_law_changed) (defScope s_law_changed) ["_law_lists"] := fun _ _ _ _ _ _ us hl => match us, hl with | [_], _ => rfl
theorem b_law_edge : Bnd "_law_edge" "_law_edge" (defArgs s_law_edge) (defBody s_law_edge) (defScope s_law_edge) ["_law_monitor", "_law_time"] := fun _ _ _ _ _ _ us hl => match us, hl with | [_, _], _ => rfl
theorem b_law_edges_are_refused : Bnd "_law_edges_are_refused" "_law_edges_are_refused" (defArgs s_law_edges_are_refused) (defBody s_law_edges_are_refused) (defScope s_law_edges_are_refused) ["_law_monitor", "_law_times"] := fun _ _ _ _ _ _ us hl => match us, hl with | [_, _], _ => rfl
theorem b_law_of_monitor : Bnd "_law_of_monitor" "_law_of_monitor" (defArgs s_law_of_monitor) (defBody s_law_of_monitor) (defScope s_law_of_monitor) ["_law_monitor"] := fun _ _ _ _ _ _ us hl => match us, hl with | [_], _ => rfl
theorem b_law_of_talk : Bnd "_law_of_talk" "_law_of_talk" (defArgs s_law_of_talk) (defBody s_law_of_talk) (defScope s_law_of_talk) ["_law_talk_here"] := fun _ _ _ _ _ _ us hl => match us, hl with | [_], _ => rfl
theorem b_law_talk : Bnd "_law_talk" "_law_talk" (defArgs s_law_talk) (defBody s_law_talk) (defScope s_law_talk) ["_law_script"] := fun _ _ _ _ _ _ us hl => match us, hl with | [_], _ => rfl
theorem b_law : Bnd "law" "law" (defArgs s_law) (defBody s_law) (defScope s_law) ["_law_script"] := fun _ _ _ _ _ _ us hl => match us, hl with | [_], _ => rfl
end Edge
/-! Receivers: what they read, as plain functions; each def's promise. -/
namespace Edge
open L2 PyProof.Rows PySem PySem.Spec
/-! ### plain functions -/
def imax (i j : Int) : Int := if j > i then j else i
def gapBits (pb d : Int) : Int := imax 0 (-((pb - 2 * d) / (2 * pb)))
def pollOf (poll phase t : Int) : Int := imax 0 (-((phase - t) / poll))
def pollStep (poll phase : Int) (found : List Int) (t : Int) : List Int :=
  match found.getLast? with
  | some l => if l = pollOf poll phase t then found.dropLast else found ++ [pollOf poll phase t]
  | none => found ++ [pollOf poll phase t]
def polls (poll phase : Int) (sig : List Int) : List Int := sig.foldl (pollStep poll phase) []
def gapsOf (pb : Int) (ps : List Int) : List Int := (ps.zip (ps.drop 1)).map fun q => gapBits pb (q.2 - q.1)
def rgaps (poll pb phase : Int) (sig : List Int) : List Int := gapsOf pb (polls poll phase sig)
theorem pollStep_len (poll phase t : Int) (found : List Int) : (pollStep poll phase found t).length ≤ found.length + 1 := by
  unfold pollStep
  split
  · split
    · rw [List.length_dropLast]
      omega
    · simp
  · simp
theorem polls_len' (poll phase : Int) : ∀ (sig found : List Int), (sig.foldl (pollStep poll phase) found).length ≤ found.length + sig.length
  | [], found => by simp
  | t :: r, found => by
    have h1 := pollStep_len poll phase t found
    have h2 := polls_len' poll phase r (pollStep poll phase found t)
    simp only [List.length_cons, List.foldl_cons]
    omega
theorem polls_len (poll phase : Int) (sig : List Int) : (polls poll phase sig).length ≤ sig.length := by
  have h := polls_len' poll phase sig []
  simpa [polls] using h
theorem snoc_cases {α : Type} (l : List α) : l = [] ∨ ∃ xs y, l = xs ++ [y] := by
  rcases List.eq_nil_or_concat l with h | ⟨xs, y, h⟩
  · exact .inl h
  · exact .inr ⟨xs, y, by rw [h, List.concat_eq_append]⟩
/-- the items so far, and one more -/
theorem take_more {α : Type} : ∀ {l : List α} {i : Nat} {x : α}, l[i]? = some x → l.take (i + 1) = l.take i ++ [x]
  | [], i, x, h => by simp at h
  | a :: l, 0, x, h => by
    have e : a = x := Option.some.inj h
    subst e
    rfl
  | a :: l, i + 1, x, h => by
    have ih := take_more (l := l) (i := i) (x := x) h
    show a :: l.take (i + 1) = a :: l.take i ++ [x]
    rw [ih]
    rfl
theorem polls_more {poll phase t : Int} {sig : List Int} {i : Nat} (h : sig[i]? = some t) : polls poll phase (sig.take (i + 1)) = pollStep poll phase (polls poll phase (sig.take i)) t := by
  unfold polls
  rw [take_more h, List.foldl_append]
  rfl
theorem int_at {ns : List Int} {i : Nat} {y : V} (h : (ns.map V.int)[i]? = some y) : ∃ z, ns[i]? = some z ∧ y = V.int z := by
  rw [List.getElem?_map] at h
  cases e : ns[i]? with
  | none =>
    rw [e] at h
    cases h
  | some z =>
    rw [e] at h
    exact ⟨z, rfl, (Option.some.inj h).symm⟩
/-- what a receiver's numbers may be -/
structure RecOk (poll pb : Int) : Prop where
  p0 : 0 < poll
  p1 : poll ≤ 1000
  b0 : 0 < pb
  b1 : pb ≤ 1000
/-! ### promises -/
def spGapBits (K : PySem.W.Frag) : Sp := fun vs H Q _ => ∃ (r : Addr) (poll pb d : Int), vs = [.ref r, .int d] ∧ SqT K H r [.int poll, .int pb] ∧ RecOk poll pb ∧ Q (.int (gapBits pb d)) H
def spPollOf (K : PySem.W.Frag) : Sp := fun vs H Q _ => ∃ (r : Addr) (poll pb phase t : Int), vs = [.ref r, .int phase, .int t] ∧ SqT K H r [.int poll, .int pb] ∧ RecOk poll pb ∧ Q (.int (pollOf poll phase t)) H
/-- a new list of these ints; what was tracked stands -/
def NewInts (H : Hp) (Q : VK) (ns : List Int) : Prop := ∀ (H' : Hp) (p : Addr), Same H H' → H p = none → H' p = some (.lst (ns.map V.int)) → Q (.ref p) H'
def spPolls (K : PySem.W.Frag) : Sp := fun vs H Q _ => ∃ (r a : Addr) (poll pb phase : Int) (sig : List Int), vs = [.ref r, .int phase, .ref a] ∧ SqT K H r [.int poll, .int pb] ∧ RecOk poll pb ∧ SqL K H a (sig.map V.int) ∧ sig.length ≤ 1000 ∧
  NewInts H Q (polls poll phase sig)
def spRecGaps (K : PySem.W.Frag) : Sp := fun vs H Q _ => ∃ (r a : Addr) (poll pb phase : Int) (sig : List Int), vs = [.ref r, .int phase, .ref a] ∧ SqT K H r [.int poll, .int pb] ∧ RecOk poll pb ∧ SqL K H a (sig.map V.int) ∧ sig.length ≤ 1000 ∧
  NewInts H Q (rgaps poll pb phase sig)
theorem same_sqt {K : PySem.W.Frag} {H H' : Hp} {a : Addr} {xs : List V} (e : Same H H') (h : SqT K H a xs) : SqT K H' a xs := by
  rcases h with (h | ⟨fo, h⟩) | h
  · exact .inl (.inl (e _ _ h))
  · exact .inl (.inr ⟨fo, e _ _ h⟩)
  · exact .inr h
theorem same_put {H H' : Hp} {p : Addr} {o : HO} (s : Same H H') (hp : H p = none) : Same H (upd H' p o) := fun b u e => by
  rw [upd_ne (ne_of_none e hp)]
  exact s b u e
section
variable {P : Program} {w : World} {K : PySem.W.Frag} {mg : PySem.Str → Option Value} {base : Heap}
theorem ok_gap_bits (T : Txt K mg) : Kept P w K mg base CX0 1 (He.ga K "gap_bits") ["receiver", "polls"] (spGapBits K) := by
  refine kept0 (T.fn in_gap_bits) sc_gap_bits b_gap_bits (fun vs H Q E h => ?_) (fun cdv A outer s H vs Q E hr h => ?_)
  · obtain ⟨r, poll, pb, d, rfl, _⟩ := h
    rfl
  · obtain ⟨r, poll, pb, d, rfl, hR, ⟨p0, p1, b0, b1⟩, k⟩ := h
    refine ⟨_, (pss_cons (ps_set (i := 2) sc_gap_bits.nd rfl (Or.inl rfl) (pe_ix ix_tup (pv 0) pe_int (fun _ _ => rfl)))
      (pss_one (ps_ret (pe_callB (call_max2 rfl) (by rfl) (T.fr (x := "max") (by decide +kernel)) (by decide +kernel) (pa_cons pe_int (pa_cons (pe_un un_neg (pe_op op_fdiv (pe_op op_sub (pv 2) (pe_op op_mul pe_int (pv 1))) (pe_op op_mul pe_int (pv 2)))) pa_nil)))))), ?_⟩
    refine ⟨_, rfl, r, _, _, _, rfl, rfl, hR, atI_nat (j := 1) rfl, ?_⟩
    refine ⟨_, rfl, _, rfl, 2, d, rfl, rfl, .inl ⟨by decide, by decide⟩, _, _, rfl, rfl, _, rfl, 2, pb, rfl, rfl, .inl ⟨by decide, by decide⟩, _, _, rfl, rfl, ⟨by omega, by omega⟩, _, rfl, _, _, rfl, k⟩
theorem ok_poll_of (T : Txt K mg) : Kept P w K mg base CX0 1 (He.ga K "poll_of") ["receiver", "phase", "time"] (spPollOf K) := by
  refine kept0 (T.fn in_poll_of) sc_poll_of b_poll_of (fun vs H Q E h => ?_) (fun cdv A outer s H vs Q E hr h => ?_)
  · obtain ⟨r, poll, pb, d, t, rfl, _⟩ := h
    rfl
  · obtain ⟨r, poll, pb, phase, t, rfl, hR, ⟨p0, p1, b0, b1⟩, k⟩ := h
    refine ⟨_, (pss_one (ps_ret (pe_callB (call_max2 rfl) (by rfl) (T.fr (x := "max") (by decide +kernel)) (by decide +kernel) (pa_cons pe_int (pa_cons (pe_un un_neg (pe_op op_fdiv (pe_op op_sub (pv 1) (pv 2)) (pe_ix ix_tup (pv 0) pe_int (fun _ _ => rfl)))) pa_nil))))), ?_⟩
    refine ⟨_, rfl, _, rfl, _, _, rfl, rfl, _, rfl, r, _, _, _, rfl, rfl, hR, atI_nat (j := 0) rfl, _, _, rfl, rfl, ⟨by omega, by omega⟩, _, rfl, _, _, rfl, k⟩
theorem ok_detection_polls (T : Txt K mg) : Kept P w K mg base CX0 2 (He.ga K "detection_polls") ["receiver", "phase", "signal"] (spPolls K) := by
  refine kept0 (T.fn in_detection_polls) sc_detection_polls b_detection_polls (fun vs H Q E h => ?_) (fun cdv A outer s H vs Q E hr h => ?_)
  · obtain ⟨r, a, poll, pb, phase, sig, rfl, _⟩ := h
    rfl
  · obtain ⟨r, a, poll, pb, phase, sig, rfl, hR, R, hS, hlen, k⟩ := h
    refine ⟨_, (pss_cons (ps_set (i := 3) sc_detection_polls.nd rfl (Or.inl rfl) (pe_lst pa_nil))
      (pss_cons (ps_for PassesOwn.never rfl (pi_list (pv 2)) (pg_name (i := 4) sc_detection_polls.nd rfl (Or.inl rfl)) (pss_cons (ps_set (i := 5) sc_detection_polls.nd rfl (Or.inl rfl) (pc (ok_poll_of T) (hr.mono (by decide)) (by rfl) (T.g (x := "poll_of") (by decide +kernel)) (pa_cons (pv 0) (pa_cons (pv 1) (pa_cons (pv 4) pa_nil)))))
      (pss_one (ps_if (PW.pt (pw_and (pt_truth (pv 3) (by intro _; rfl)) (pw_and1 (pt_cmpR op_eq (pe_ix ix_list (pv 3) (pe_un un_neg pe_int) (fun _ _ => rfl)) (pv 5) (nomark _))))) (pss_one (ps_expr (pe_bm0 PySem.F.plainAttrs_list PySem.F.slot_list_pop PySem.F.type_list_pop mt_pop (pv 3)))) (pss_one (ps_expr (pe_bm PySem.F.plainAttrs_list PySem.F.slot_list_append PySem.F.type_list_append mt_append (pv 3) (pa_cons (pv 5) pa_nil))))))))
      (pss_one (ps_ret (pv 3))))), ?_⟩
    refine ⟨Nat.zero_le _, fun p np => ?_⟩
    have s0 : Same H (upd H p (.lst [])) := same_put (Same.refl H) np
    refine ⟨_, rfl, a, rfl, ⟨_, s0.seq hS⟩, for_list (K := K) (a := a) (xs := sig.map V.int) (fun i σ H' => ∃ v4 v5 : Option V, σ = [some (.ref r), some (.int phase), some (.ref a), some (.ref p), v4, v5] ∧ Same H H' ∧ H' p = some (.lst ((polls poll phase (sig.take i)).map V.int)))
      ⟨none, none, rfl, s0, upd_same⟩ (fun i σ H' _ ⟨_, _, _, e, _⟩ => e.seq hS) ?_ ?_⟩
    · rintro i y σ H' hi ⟨v4, v5, rfl, e, hp⟩
      obtain ⟨z, hz, rfl⟩ := int_at hi
      have hl : (polls poll phase (sig.take i)).length ≤ 1000 := Nat.le_trans (polls_len _ _ _) (Nat.le_trans (by rw [List.length_take]; exact Nat.min_le_right _ _) hlen)
      have more := polls_more (poll := poll) (phase := phase) hz
      generalize polls poll phase (sig.take i) = found at hp hl more
      refine ⟨_, rfl, _, rfl, _, rfl, r, poll, pb, phase, z, rfl, same_sqt e hR, R, ?_⟩
      have app : ∀ D : Ends, H' p = some (.lst (found.map V.int)) → polls poll phase (sig.take (i + 1)) = found ++ [pollOf poll phase z] →
          (∀ σ H', (∃ v4 v5 : Option V, σ = [some (.ref r), some (.int phase), some (.ref a), some (.ref p), v4, v5] ∧ Same H H' ∧ H' p = some (.lst ((polls poll phase (sig.take (i + 1))).map V.int))) → D.nx σ H') →
          (tDrop (tBM K "list" rAppend (tVar 3) (tCons (tVar 5) tNil))) D [some (.ref r), some (.int phase), some (.ref a), some (.ref p), some (.int z), some (.int (pollOf poll phase z))] H' := by
        intro D hp em hD
        refine ⟨_, rfl, .inl ⟨rfl, _, SqL.of hp⟩, _, rfl, p, _, _, rfl, rfl, hp, by rw [List.length_map]; exact small1000 hl, ?_⟩
        refine hD _ _ ⟨_, _, rfl, same_put e np, ?_⟩
        rw [upd_same, em, List.map_append]
        rfl
      rcases snoc_cases found with rfl | ⟨xs, l, rfl⟩
      · refine ⟨_, rfl, false, .inl ⟨_, SqL.of hp, rfl⟩, iteF ?_⟩
        exact iteF (app _ hp more fun _ _ x => x)
      · have hg : (xs ++ [l]).getLast? = some l := by simp
        have hd : (xs ++ [l]).dropLast = xs := by simp
        unfold pollStep at more
        rw [hg, hd] at more
        dsimp only at more
        have hp2 := hp
        rw [List.map_append] at hp
        have ha : atI (xs.map V.int ++ [V.int l]) (-1) = some (V.int l) := atI_last _ _
        refine ⟨_, rfl, true, .inl ⟨_, SqL.of hp, by simp⟩, iteT ?_⟩
        refine ⟨_, rfl, 1, rfl, p, _, _, _, rfl, rfl, SqL.of hp, ha, _, rfl, rfl, _, rfl, ?_⟩
        refine ite2 (fun c => ?_) (fun c => ?_)
        · have c1 : l = pollOf poll phase z := by simpa using c
          rw [if_pos c1] at more
          refine ⟨_, rfl, .inl ⟨rfl, _, SqL.of hp⟩, p, _, V.int l, rfl, rfl, hp, by simp, ?_⟩
          refine ⟨_, _, rfl, same_put e np, ?_⟩
          rw [upd_same, more]
          simp
        · have c1 : ¬ l = pollOf poll phase z := by simpa using c
          rw [if_neg c1] at more
          exact app _ hp2 more fun _ _ x => x
    · rintro σ H' ⟨v4, v5, rfl, e, hp⟩
      rw [List.length_map, List.take_length] at hp
      exact ⟨_, rfl, k _ p e np hp⟩
/-- xs[1:] -/
theorem cut_1 (xs : List V) : cutV xs (some 1) none = xs.drop 1 := by
  unfold cutV
  have e1 : HT.sIx xs.length 0 (some 1) = min 1 xs.length := HT.sIx_nat xs.length 0 1
  have e2 : HT.sIx xs.length xs.length none = xs.length := rfl
  rw [e1, e2]
  cases xs with
  | nil => rfl
  | cons a r =>
    have e3 : min 1 (a :: r).length = 1 := by simp
    rw [e3]
    simp
theorem zip_more {xs ys : List Int} {i : Nat} {x y : Int} (hx : xs[i]? = some x) (hy : ys[i]? = some y) : (xs.zip ys)[i]? = some (x, y) := by
  rw [List.getElem?_zip_eq_some]
  exact ⟨hx, hy⟩
theorem gapsOf_len (pb : Int) (ps : List Int) : (gapsOf pb ps).length ≤ ps.length := by
  unfold gapsOf
  rw [List.length_map, List.length_zip]
  omega
theorem ok_received_gaps (T : Txt K mg) : Kept P w K mg base CX0 3 (He.ga K "received_gaps") ["receiver", "phase", "signal"] (spRecGaps K) := by
  refine kept0 (T.fn in_received_gaps) sc_received_gaps b_received_gaps (fun vs H Q E h => ?_) (fun cdv A outer s H vs Q E hr h => ?_)
  · obtain ⟨r, a, poll, pb, phase, sig, rfl, _⟩ := h
    rfl
  · obtain ⟨r, a, poll, pb, phase, sig, rfl, hR, R, hS, hlen, k⟩ := h
    refine ⟨_, (pss_cons (ps_set (i := 3) sc_received_gaps.nd rfl (Or.inl rfl) (pc (ok_detection_polls T) (hr.mono (by decide)) (by rfl) (T.g (x := "detection_polls") (by decide +kernel)) (pa_cons (pv 0) (pa_cons (pv 1) (pa_cons (pv 2) pa_nil)))))
      (pss_one (ps_ret (pe_lc (own := [("number", 4), ("later", 5)]) (g := (gTup K 2 (gCons (gName 4) (gCons (gName 5) gNil)))) (tt := tYes) (te := tCall (spGapBits K) [] E0 (tCons (tVar 0) (tCons (tOp (rI0 fun i j => .int (i - j)) (tVar 5) (tVar 4)) tNil))) rfl sc_received_gaps.nd (pi_zip (by rfl) (T.fr (x := "zip") (by decide +kernel)) (pa_cons (pv 3) (pa_cons (pe_slice sl_list (pv 3) (po_some pe_int) po_none) pa_nil))) (blkOk_by (own := [("number", 4), ("later", 5)]) (N := ["receiver", "phase", "signal", "polls", "number", "later"]) (sc := defScope s_received_gaps) (by decide +kernel)) (fun _ _ _ _ _ => (pg_tup (by rfl) (pgs_cons (pg_name (i := 4) sc_received_gaps.nd rfl (Or.inl rfl)) (pgs_cons (pg_name (i := 5) sc_received_gaps.nd rfl (Or.inl rfl)) pgs_nil)))) (fun _ _ _ _ _ => pts_nil) (fun _ _ _ _ _ => (pc (ok_gap_bits T) (hr.mono (by decide)) (by rfl) (T.g (x := "gap_bits") (by decide +kernel)) (pa_cons (pv 0) (pa_cons (pe_op op_sub (pv 5) (pv 4)) pa_nil)))))))), ?_⟩
    refine ⟨_, rfl, _, rfl, _, rfl, r, a, poll, pb, phase, sig, rfl, hR, R, hS, hlen, fun H1 p e1 np hp => ?_⟩
    have hl : (polls poll phase sig).length ≤ 1000 := Nat.le_trans (polls_len _ _ _) hlen
    unfold rgaps at k
    generalize polls poll phase sig = ps at hp hl k
    refine ⟨_, rfl, _, rfl, 1, rfl, p, _, rfl, SqL.of hp, fun q nq => ?_⟩
    rw [cut_1, ← List.map_drop]
    have npq : p ≠ q := ne_of_none hp nq
    have e2 : Same H (upd H1 q (.lst ((ps.drop 1).map V.int))) := same_put e1 (e1.free nq)
    refine ⟨p, q, _, _, rfl, SqL.of (by rw [upd_ne npq]; exact hp), SqL.of upd_same, fun D nD => ?_⟩
    have e3 : Same (upd H1 q (.lst ((ps.drop 1).map V.int))) (upd (upd H1 q (.lst ((ps.drop 1).map V.int))) D (.lst [])) := same_put (Same.refl _) nD
    generalize hG : upd H1 q (.lst ((ps.drop 1).map V.int)) = G at nD e2 e3
    have gp : G p = some (.lst (ps.map V.int)) := by rw [← hG, upd_ne npq]; exact hp
    have gq : G q = some (.lst ((ps.drop 1).map V.int)) := by rw [← hG, upd_same]
    have zl : (ps.zip (ps.drop 1)).length = min (ps.map V.int).length ((ps.drop 1).map V.int).length := by rw [List.length_zip, List.length_map, List.length_map]
    refine lc_it (walk_zip (n := (ps.zip (ps.drop 1)).length) zl) (fun i H' => Same G H' ∧ H' D = some (.lst (((gapsOf pb ps).take i).map V.int))) ⟨e3, upd_same⟩ (fun i H' _ ⟨e, _⟩ => ⟨SqL.of (e _ _ gp), SqL.of (e _ _ gq)⟩) ?_ ?_
    · rintro i y H' H2 hi ⟨e, hD⟩ ⟨t, vx, vy, rfl, nt, rfl, hx, hy⟩
      obtain ⟨x, hxz, rfl⟩ := int_at hx
      obtain ⟨y, hyz, rfl⟩ := int_at hy
      have hz := zip_more hxz hyz
      refine ⟨t, _, rfl, SqT.of upd_same, rfl, _, _, rfl, _, _, rfl, rfl, rfl, ?_⟩
      refine ⟨_, rfl, _, rfl, _, rfl, _, _, rfl, rfl, r, poll, pb, y - x, rfl, ?_, R, ?_⟩
      · exact same_sqt (e2.trans (same_put e (e.free nt))) hR
      · have nDt : D ≠ t := ne_of_none hD nt
        refine ⟨_, by rw [upd_ne nDt]; exact hD, ?_, ?_, ?_⟩
        · rw [List.length_map, List.length_take]
          have := gapsOf_len pb ps
          exact small1000 (by omega)
        · exact same_put (same_put e (e.free nt)) nD
        · rw [upd_same]
          have hg : (gapsOf pb ps)[i]? = some (gapBits pb (y - x)) := by
            unfold gapsOf
            rw [List.getElem?_map, hz]
            rfl
          rw [take_more hg, List.map_append]
          rfl
    · rintro H' ⟨e, hD⟩
      have hfull : (gapsOf pb ps).take (ps.zip (ps.drop 1)).length = gapsOf pb ps := by
        refine List.take_of_length_le ?_
        unfold gapsOf
        rw [List.length_map]
        exact Nat.le_refl _
      rw [hfull] at hD
      exact k H' D (e2.trans e) (e2.free nD) hD
end
end Edge
/-! Frames: the reader of gaps, the frames' own gaps. -/
namespace Edge
open L2 PyProof.Rows PySem PySem.Spec
/-! ### plain functions -/
structure RS where
  bits : Option PySem.Str
  closed : Bool
  pays : List PySem.Str
def optV : Option PySem.Str → V
  | none => .non
  | some z => .str z
def rdClosed (l gap : Int) : Bool := decide (1 ≤ gap) && decide (gap ≤ l)
def rdDone (r : RS) : List PySem.Str := match r.bits with
  | some b => if r.closed = true then r.pays ++ [cutS b none (some (-1))] else r.pays
  | none => r.pays
def rdGrow (l gap : Int) (b : PySem.Str) : PySem.Str := b ++ Txt.mul "1" (gap - 1) ++ (if gap ≤ l then ("0" : PySem.Str) else "")
def rdStep (l : Int) (r : RS) (gap : Int) : RS :=
  if gap = l + 2 then ⟨some "", rdClosed l gap, rdDone r⟩
  else if ¬ (1 ≤ gap ∧ gap ≤ l + 1) then ⟨none, rdClosed l gap, r.pays⟩
  else ⟨r.bits.map (rdGrow l gap), rdClosed l gap, r.pays⟩
def rd0 : RS := ⟨none, false, []⟩
def rdRun (l : Int) (gs : List Int) : RS := gs.foldl (rdStep l) rd0
def readG (l : Int) (gs : List Int) : List PySem.Str := (rdRun l gs).pays
theorem rdRun_more {l g : Int} {gs : List Int} {i : Nat} (h : gs[i]? = some g) : rdRun l (gs.take (i + 1)) = rdStep l (rdRun l (gs.take i)) g := by
  unfold rdRun
  rw [take_more h, List.foldl_append]
  rfl
theorem mul_len {z : PySem.Str} {n : Int} (hz : z.length = 1) (h0 : 0 ≤ n) : (Txt.mul z n).length = n.toNat := by
  unfold Txt.mul
  by_cases h1 : n < 1
  · rw [if_pos h1]
    have : n = 0 := by omega
    subst this
    rfl
  · rw [if_neg h1]
    split
    · rename_i h2
      rw [hz] at h2
      have h3 : n = 1 := by
        rcases Bool.or_eq_true_iff.mp h2 with h | h
        · exact of_decide_eq_true h
        · cases h
      subst h3
      exact hz
    · have key : ∀ (m : Nat) (a : Array Nat), ((List.replicate m z.cps).foldl (· ++ ·) a).size = a.size + m := by
        intro m
        induction m with
        | zero => intro a; simp
        | succ m ih =>
          intro a
          rw [List.replicate_succ, List.foldl_cons, ih, Array.size_append]
          have hs : z.cps.size = 1 := hz
          omega
      show ((List.replicate n.toNat z.cps).foldl (· ++ ·) #[]).size = _
      rw [key]
      simp
theorem rdGrow_len {l gap : Int} {b : PySem.Str} (h1 : 1 ≤ gap) (h2 : gap ≤ l + 1) : ((rdGrow l gap b).length : Int) ≤ b.length + (l + 1) := by
  unfold rdGrow
  rw [Str.length_append, Str.length_append, mul_len (z := "1") rfl (by omega)]
  have e0 : (("0" : PySem.Str)).length = 1 := rfl
  have e1 : (("" : PySem.Str)).length = 0 := rfl
  split
  · rw [e0]
    omega
  · rw [e1]
    omega
/-- how long the reader's texts may be behind n gaps -/
def RdLe (l : Int) (n : Nat) (r : RS) : Prop := (∀ b, r.bits = some b → (b.length : Int) ≤ n * (l + 1)) ∧ (∀ z ∈ r.pays, (z.length : Int) ≤ n * (l + 1)) ∧ r.pays.length ≤ n
theorem rdLe_step {l gap : Int} {n : Nat} {r : RS} (hl : 0 ≤ l) (h : RdLe l n r) : RdLe l (n + 1) (rdStep l r gap) := by
  obtain ⟨h1, h2, h3⟩ := h
  have hm : ((n + 1 : Nat) : Int) * (l + 1) = n * (l + 1) + (l + 1) := by
    rw [Int.natCast_add, Int.add_mul]
    simp
  have hp : ∀ z ∈ r.pays, (z.length : Int) ≤ ((n + 1 : Nat) : Int) * (l + 1) := fun z hz => by
    have := h2 z hz
    omega
  have hnn : (0 : Int) ≤ n * (l + 1) := Int.mul_nonneg (by omega) (by omega)
  unfold rdStep
  split
  · refine ⟨fun b e => ?_, ?_, ?_⟩
    · have eb : b = "" := (Option.some.inj e).symm
      have e1 : (("" : PySem.Str)).length = 0 := rfl
      rw [eb, e1]
      omega
    · intro z hz
      show (z.length : Int) ≤ _
      have hz' : z ∈ rdDone r := hz
      unfold rdDone at hz'
      split at hz'
      · rename_i b eb
        split at hz'
        · rcases memA hz' with hz' | hz'
          · exact hp z hz'
          · rw [memS hz']
            have a := h1 b eb
            have c := cutS_length b none (some (-1))
            omega
        · exact hp z hz'
      · exact hp z hz'
    · show (rdDone r).length ≤ _
      unfold rdDone
      split
      · split
        · simp
          omega
        · omega
      · omega
  · split
    · exact ⟨fun b e => (by cases e), hp, (by show r.pays.length ≤ n + 1; omega)⟩
    · rename_i hc
      have hc2 : 1 ≤ gap ∧ gap ≤ l + 1 := Classical.not_not.mp hc
      refine ⟨fun b e => ?_, hp, (by show r.pays.length ≤ n + 1; omega)⟩
      cases hb : r.bits with
      | none =>
        rw [hb] at e
        cases e
      | some b0 =>
        rw [hb] at e
        have e' : rdGrow l gap b0 = b := Option.some.inj e
        have a := h1 b0 hb
        have c := rdGrow_len (l := l) (gap := gap) (b := b0) hc2.1 hc2.2
        rw [← e']
        omega
theorem rdLe_run (l : Int) (hl : 0 ≤ l) (gs : List Int) : ∀ n, n ≤ gs.length → RdLe l n (rdRun l (gs.take n))
  | 0, _ => ⟨fun b e => (by cases e), fun z hz => (by cases hz), Nat.zero_le _⟩
  | n + 1, h => by
    have hn : n < gs.length := by omega
    have e : gs[n]? = some gs[n] := by simp [hn]
    rw [rdRun_more e]
    exact rdLe_step hl (rdLe_run l hl gs n (by omega))
/-! ### the heap: a reader at p, its list at q -/
def rdF (l : Int) (b : V) (c : Bool) (q : Addr) : List (PySem.Str × V) := [("limit", .int l), ("bits", b), ("is_closed", .bl c), ("payloads", .ref q)]
structure RdAt (C : Addr) (H : Hp) (p q : Addr) (l : Int) (r : RS) : Prop where
  ob : ∃ dx, H p = some (.ins C dx (rdF l (optV r.bits) r.closed q))
  ls : H q = some (.lst (r.pays.map V.str))
theorem RdAt.ne {C : Addr} {H : Hp} {p q : Addr} {l : Int} {r : RS} (h : RdAt C H p q l r) : p ≠ q := by
  obtain ⟨dx, e⟩ := h.ob
  exact ne_of e h.ls (by intro z; cases z)
/-! ### promises -/
def spRdInit (C : Addr) : Sp := fun vs H Q _ => ∃ (p dx : Addr) (l : Int), vs = [.ref p, .int l] ∧ H p = some (.ins C dx []) ∧
  ∀ (H' : Hp) (q : Addr), H q = none → RdAt C H' p q l rd0 → (∀ b o, H b = some o → b ≠ p → H' b = some o) → Q .non H'
def spRdRead (C : Addr) : Sp := fun vs H Q _ => ∃ (p q : Addr) (l gap : Int) (r : RS), vs = [.ref p, .int gap] ∧ RdAt C H p q l r ∧ 0 ≤ l ∧ l ≤ 1000 ∧ RdLe l 1000 r ∧
  ∀ H' : Hp, RdAt C H' p q l (rdStep l r gap) → (∀ b o, H b = some o → b ≠ p → b ≠ q → H' b = some o) → Q .non H'
/-- a new list of these texts; what was tracked stands -/
def NewTexts (H : Hp) (Q : VK) (ts : List PySem.Str) : Prop := ∀ (H' : Hp) (p : Addr), Same H H' → H p = none → H' p = some (.lst (ts.map V.str)) → Q (.ref p) H'
def spReadGaps (K : PySem.W.Frag) : Sp := fun vs H Q _ => ∃ (a : Addr) (l : Int) (gs : List Int), vs = [.int l, .ref a] ∧ SqL K H a (gs.map V.int) ∧ gs.length ≤ 1000 ∧ 0 ≤ l ∧ l ≤ 1000 ∧ NewTexts H Q (readG l gs)
abbrev rLE : R2 := rI0 fun i j => .bl (decide (i ≤ j))
theorem chain_le {ta tb tc : TE} {σ : L2.St} {H : Hp} {Q : VK} {i j k : Int} (ha : ∀ R : VK, R (.int i) H → ta σ H R) (hb : ∀ R : VK, R (.int j) H → tb σ H R) (hc : ∀ R : VK, R (.int k) H → tc σ H R)
    (h : Q (.bl (decide (i ≤ j) && decide (j ≤ k))) H) : tChain rLE rLE ta tb tc σ H Q := by
  refine ha _ (hb _ ⟨_, _, rfl, rfl, _, rfl, ?_⟩)
  by_cases c : i ≤ j
  · rw [decide_eq_true c] at h ⊢
    exact iteT (hc _ ⟨_, _, rfl, rfl, h⟩)
  · rw [decide_eq_false c] at h ⊢
    exact iteF h
section
variable {P : Program} {w : World} {K : PySem.W.Frag} {mg : PySem.Str → Option Value} {base : Heap}
theorem ok_Reader_init (T : Txt K mg) : Kept P w K mg base CX0 1 (He.ma K (He.ga K "Reader") "__init__") ["self", "limit"] (spRdInit (He.ga K "Reader")) := by
  refine kept0 (T.fn in_Reader_init) sc_Reader_init b_Reader_init (fun vs H Q E h => ?_) (fun cdv A outer s H vs Q E hr h => ?_)
  · obtain ⟨p, dx, l, rfl, _⟩ := h
    rfl
  · obtain ⟨p, dx, l, rfl, hp, k⟩ := h
    have C := T.cl (x := "Reader") (by decide +kernel)
    refine ⟨_, (pss_cons (ps_fld (pv 0) (pv 1) rfl)
      (pss_cons (ps_fld (pv 0) pe_non rfl)
      (pss_cons (ps_fld (pv 0) pe_bl rfl)
      (pss_one (ps_fld (pv 0) (pe_lst pa_nil) rfl))))), ?_⟩
    refine ⟨_, rfl, _, rfl, p, _, dx, _, rfl, hp, C, T.na (by decide +kernel), (by show 0 < 1000; decide), ?_⟩
    refine ⟨_, rfl, p, _, dx, _, rfl, upd_same, C, T.na (by decide +kernel), (by show 1 < 1000; decide), ?_⟩
    refine ⟨_, rfl, p, _, dx, _, rfl, upd_same, C, T.na (by decide +kernel), (by show 2 < 1000; decide), ?_⟩
    refine ⟨Nat.zero_le _, fun q nq => ?_⟩
    have nq0 : H q = none := by
      by_cases e : q = p
      · rw [e, upd_same] at nq
        cases nq
      · rw [upd_ne e, upd_ne e, upd_ne e] at nq
        exact nq
    have npq : p ≠ q := ne_of_none hp nq0
    refine ⟨_, rfl, p, _, dx, _, rfl, (upd_ne npq).trans upd_same, C, T.na (by decide +kernel), (by show 3 < 1000; decide), ?_⟩
    refine k _ q nq0 ⟨⟨dx, upd_same⟩, ?_⟩ fun b o e hb => ?_
    · rw [upd_ne npq.symm, upd_same]
      rfl
    · rw [upd_ne hb, upd_ne (ne_of_none e nq0), upd_ne hb, upd_ne hb, upd_ne hb]
      exact e
theorem ok_Reader_read (T : Txt K mg) : Kept P w K mg base CX0 1 (He.ma K (He.ga K "Reader") "read") ["self", "gap"] (spRdRead (He.ga K "Reader")) := by
  refine kept0 (T.fn in_Reader_read) sc_Reader_read b_Reader_read (fun vs H Q E h => ?_) (fun cdv A outer s H vs Q E hr h => ?_)
  · obtain ⟨p, q, l, gap, r, rfl, _⟩ := h
    rfl
  · obtain ⟨p, q, l, gap, r, rfl, R, l0, l1, ⟨hb, hps, hpl⟩, k⟩ := h
    have C := T.cl (x := "Reader") (by decide +kernel)
    have npq := R.ne
    obtain ⟨⟨dx, hp⟩, hq⟩ := R
    obtain ⟨bits, closed, pays⟩ := r
    refine ⟨_, (pss_cons (ps_set (i := 2) sc_Reader_read.nd rfl (Or.inl rfl) (pe_fld (pv 0) rfl))
      (pss_cons (ps_fld (pv 0) (pe_chain op_le op_le pe_int (pv 1) (pe_fld (pv 0) rfl)) rfl)
      (pss_one (ps_if (pt_cmpR op_eq (pv 1) (pe_op op_add (pe_fld (pv 0) rfl) pe_int) (nomark _)) (pss_cons (ps_if (PW.pt (pw_and (pt_cmpR op_notN (pe_fld (pv 0) rfl) pe_non (nomark _)) (pw_and1 (pt_val (pv 2))))) (pss_one (ps_expr (pe_bm PySem.F.plainAttrs_list PySem.F.slot_list_append PySem.F.type_list_append mt_append (pe_fld (pv 0) rfl) (pa_cons (pe_slice sl_str (pe_fld (pv 0) rfl) po_none (po_some (pe_un un_neg pe_int))) pa_nil)))) pss_nil)
      (pss_one (ps_fld (pv 0) pe_str rfl))) (pss_one (ps_if (pt_not (pt_chain op_le op_le pe_int (pv 1) (pe_op op_add (pe_fld (pv 0) rfl) pe_int))) (pss_one (ps_fld (pv 0) pe_non rfl)) (pss_one (ps_if (pt_cmpR op_notN (pe_fld (pv 0) rfl) pe_non (nomark _)) (pss_one (ps_fld (pv 0) (pe_op op_add_str (pe_op op_add_str (pe_fld (pv 0) rfl) (pe_op op_repS pe_str (pe_op op_sub (pv 1) pe_int))) (pe_ifExp (pt_cmpR op_le (pv 1) (pe_fld (pv 0) rfl) (nomark _)) pe_str pe_str)) rfl)) pss_nil)))))))), ?_⟩
    -- is_end, then whether it is closed now
    refine ⟨_, rfl, p, _, dx, _, _, rfl, hp, C, T.na (by decide +kernel), rfl, ?_⟩
    dsimp only [gName, sFld, tSeq]
    refine chain_le (i := 1) (j := gap) (k := l) (fun R z => z) (fun R z => ⟨_, rfl, z⟩) (fun R z => ⟨_, rfl, p, _, dx, _, _, rfl, hp, C, T.na (by decide +kernel), rfl, z⟩) ?_
    refine ⟨_, rfl, p, _, dx, _, rfl, hp, C, T.na (by decide +kernel), (by show 4 < 1000; decide), ?_⟩
    have hp1 : upd H p (.ins (He.ga K "Reader") dx (rdF l (optV bits) (rdClosed l gap) q)) p = some (.ins (He.ga K "Reader") dx (rdF l (optV bits) (rdClosed l gap) q)) := upd_same
    have hq1 : upd H p (.ins (He.ga K "Reader") dx (rdF l (optV bits) (rdClosed l gap) q)) q = some (.lst (pays.map V.str)) := (upd_ne npq.symm).trans hq
    have ho : ∀ b o, H b = some o → b ≠ p → b ≠ q → upd H p (.ins (He.ga K "Reader") dx (rdF l (optV bits) (rdClosed l gap) q)) b = some o := fun b o e n1 _ => (upd_ne n1).trans e
    have eG : upd H p (.ins (He.ga K "Reader") dx (putF "is_closed" (.bl (decide (1 ≤ gap) && decide (gap ≤ l))) (rdF l (optV bits) closed q))) = upd H p (.ins (He.ga K "Reader") dx (rdF l (optV bits) (rdClosed l gap) q)) := rfl
    rw [eG]
    generalize upd H p (.ins (He.ga K "Reader") dx (rdF l (optV bits) (rdClosed l gap) q)) = G at hp1 hq1 ho
    -- if gap == self.limit + 2
    refine ⟨_, rfl, _, rfl, p, _, dx, _, _, rfl, hp1, C, T.na (by decide +kernel), rfl, _, _, rfl, rfl, rfl, _, rfl, ?_⟩
    refine ite2 (fun c => ?_) (fun c => ?_)
    · have c1 : gap = l + 2 := by simpa using c
      -- the payload is done, or not; then a new one
      have fin : ∀ (G2 : Hp) (ts : List PySem.Str), G2 p = some (.ins (He.ga K "Reader") dx (rdF l (optV bits) (rdClosed l gap) q)) → G2 q = some (.lst (ts.map V.str)) → (∀ b o, H b = some o → b ≠ p → b ≠ q → G2 b = some o) →
          rdDone ⟨bits, closed, pays⟩ = ts → sFld K (tVar 0) (tC (.str "")) "bits" { nx := fun _ H' => Q .non H', rt := Q, bk := fun _ _ => False, ct := fun _ _ => False } [some (.ref p), some (.int gap), some (.bl closed)] G2 := by
        intro G2 ts g1 g2 g3 et
        refine ⟨_, rfl, p, _, dx, _, rfl, g1, C, T.na (by decide +kernel), (by show 4 < 1000; decide), ?_⟩
        refine k _ ⟨⟨dx, ?_⟩, ?_⟩ fun b o e n1 n2 => (upd_ne n1).trans (g3 b o e n1 n2)
        · unfold rdStep
          rw [if_pos c1]
          exact upd_same
        · unfold rdStep
          rw [if_pos c1, upd_ne npq.symm, g2]
          show some (HO.lst (ts.map V.str)) = some (HO.lst ((rdDone ⟨bits, closed, pays⟩).map V.str))
          rw [et]
      cases bits with
      | none =>
        refine ⟨_, rfl, p, _, dx, _, _, rfl, hp1, C, T.na (by decide +kernel), rfl, rfl, _, rfl, iteF ?_⟩
        exact iteF (fin G pays hp1 hq1 ho rfl)
      | some b =>
        refine ⟨_, rfl, p, _, dx, _, _, rfl, hp1, C, T.na (by decide +kernel), rfl, rfl, _, rfl, iteT ?_⟩
        refine ⟨_, rfl, closed, rfl, ?_⟩
        cases closed with
        | false => exact iteF (fin G pays hp1 hq1 ho rfl)
        | true =>
          refine iteT ⟨_, rfl, p, _, dx, _, _, rfl, hp1, C, T.na (by decide +kernel), rfl, .inl ⟨rfl, _, SqL.of hq1⟩, ?_⟩
          have hbl := hb b rfl
          refine ⟨_, rfl, p, _, dx, _, _, rfl, hp1, C, T.na (by decide +kernel), rfl, 1, rfl, -1, rfl, b, rfl, (by rw [sizeLine_eq]; omega), ?_⟩
          refine ⟨q, _, _, rfl, rfl, hq1, (by rw [List.length_map]; exact small1000 hpl), ?_⟩
          refine fin _ (pays ++ [cutS b none (some (-1))]) ((upd_ne npq).trans hp1) ?_ (fun b o e n1 n2 => (upd_ne n2).trans (ho b o e n1 n2)) rfl
          rw [upd_same, List.map_append]
          rfl
    · have c1 : ¬ gap = l + 2 := by simpa using c
      dsimp only [tIfS, tNot, tTest]
      refine chain_le (i := 1) (j := gap) (k := l + 1) (fun R z => z) (fun R z => ⟨_, rfl, z⟩) (fun R z => ⟨_, rfl, p, _, dx, _, _, rfl, hp1, C, T.na (by decide +kernel), rfl, _, _, rfl, rfl, z⟩) ?_
      refine ⟨_, rfl, ?_⟩
      by_cases c2 : 1 ≤ gap ∧ gap ≤ l + 1
      · have e2 : (!(decide (1 ≤ gap) && decide (gap ≤ l + 1))) = false := by simp [c2.1, c2.2]
        rw [e2]
        refine iteF ?_
        cases bits with
        | none =>
          refine ⟨_, rfl, p, _, dx, _, _, rfl, hp1, C, T.na (by decide +kernel), rfl, rfl, _, rfl, iteF ?_⟩
          refine k G ⟨⟨dx, ?_⟩, ?_⟩ ho
          · unfold rdStep
            rw [if_neg c1, if_neg (Classical.not_not.mpr c2)]
            exact hp1
          · unfold rdStep
            rw [if_neg c1, if_neg (Classical.not_not.mpr c2)]
            exact hq1
        | some b =>
          have hbl := hb b rfl
          refine ⟨_, rfl, p, _, dx, _, _, rfl, hp1, C, T.na (by decide +kernel), rfl, rfl, _, rfl, iteT ?_⟩
          have hml : (Txt.mul "1" (gap - 1)).length = (gap - 1).toNat := mul_len (z := "1") rfl (by omega)
          have z0 : (("0" : PySem.Str)).length = 1 := rfl
          have z1 : (("" : PySem.Str)).length = 0 := rfl
          refine ⟨_, rfl, p, _, dx, _, _, rfl, hp1, C, T.na (by decide +kernel), rfl, _, rfl, _, _, rfl, rfl, "1", _, rfl, rfl, Nat.le_refl 1, (by omega), (by omega), ?_⟩
          refine ⟨_, _, rfl, rfl, (by rw [hml, sizeLine_eq]; omega), _, rfl, _, rfl, p, _, dx, _, _, rfl, hp1, C, T.na (by decide +kernel), rfl, _, _, rfl, rfl, _, rfl, ?_⟩
          have fin : ∀ z : PySem.Str, (if gap ≤ l then ("0" : PySem.Str) else "") = z → z.length ≤ 1 →
              tOp (fun x y H Q => ∃ i j, x = .str i ∧ y = .str j ∧ i.length + j.length ≤ sizeLine ∧ Q (.str (i ++ j)) H) (tC (.str (b ++ Txt.mul "1" (gap - 1)))) (tC (.str z)) [some (.ref p), some (.int gap), some (.bl closed)] G fun y H1 =>
                ∃ a C' dx' fs, V.ref p = V.ref a ∧ H1 a = some (.ins C' dx' fs) ∧ Cls K C' ∧ NoAttr K C' "bits" ∧ fs.length < 1000 ∧ Q .non (upd H1 a (.ins C' dx' (putF "bits" y fs))) := by
            intro z ez hz
            refine ⟨_, _, rfl, rfl, (by rw [Str.length_append, hml, sizeLine_eq]; omega), p, _, dx, _, rfl, hp1, C, T.na (by decide +kernel), (by show 4 < 1000; decide), ?_⟩
            refine k _ ⟨⟨dx, ?_⟩, ?_⟩ fun b o e n1 n2 => (upd_ne n1).trans (ho b o e n1 n2)
            · unfold rdStep
              rw [if_neg c1, if_neg (Classical.not_not.mpr c2), upd_same]
              show some (HO.ins _ dx (rdF l (.str (b ++ Txt.mul "1" (gap - 1) ++ z)) (rdClosed l gap) q)) = some (HO.ins _ dx (rdF l (.str (rdGrow l gap b)) (rdClosed l gap) q))
              unfold rdGrow
              rw [ez]
            · unfold rdStep
              rw [if_neg c1, if_neg (Classical.not_not.mpr c2), upd_ne npq.symm]
              exact hq1
          refine ite2 (fun c3 => ?_) (fun c3 => ?_)
          · have c4 : gap ≤ l := by simpa using c3
            obtain ⟨x1, x2, h1, h2, h3, h4⟩ := fin "0" (if_pos c4) (Nat.le_refl 1)
            exact ⟨x1, x2, h1, h2, h3, _, rfl, h4⟩
          · have c4 : ¬ gap ≤ l := by simpa using c3
            obtain ⟨x1, x2, h1, h2, h3, h4⟩ := fin "" (if_neg c4) (Nat.zero_le 1)
            exact ⟨x1, x2, h1, h2, h3, _, rfl, h4⟩
      · have e2 : (!(decide (1 ≤ gap) && decide (gap ≤ l + 1))) = true := by
          rw [Bool.not_eq_true', Bool.and_eq_false_iff, decide_eq_false_iff_not, decide_eq_false_iff_not]
          omega
        rw [e2]
        refine iteT ⟨_, rfl, p, _, dx, _, rfl, hp1, C, T.na (by decide +kernel), (by show 4 < 1000; decide), ?_⟩
        refine k _ ⟨⟨dx, ?_⟩, ?_⟩ fun b o e n1 n2 => (upd_ne n1).trans (ho b o e n1 n2)
        · unfold rdStep
          rw [if_neg c1, if_pos c2]
          exact upd_same
        · unfold rdStep
          rw [if_neg c1, if_pos c2, upd_ne npq.symm]
          exact hq1
end
end Edge
/-! read_gaps; the frames' own gaps. -/
namespace Edge
open L2 PyProof.Rows PySem PySem.Spec
/-! ### plain functions -/
def sgn (c : Nat) : PySem.Str := ⟨#[c]⟩
def stOnes (o : Int) (c : Nat) : Int := if sgn c = "1" then o + 1 else 0
def stStep (l : Int) (s : PySem.Str × Int) (c : Nat) : PySem.Str × Int :=
  if stOnes s.2 c = l then (s.1 ++ sgn c ++ "0", 0) else (s.1 ++ sgn c, stOnes s.2 c)
def stRun (l : Int) (cs : List Nat) : PySem.Str × Int := cs.foldl (stStep l) ("", 0)
def stuffM (l : Int) (z : PySem.Str) : PySem.Str := (stRun l z.cps.toList).1
def flagM (l : Int) : PySem.Str := "0" ++ Txt.mul "1" (l + 1) ++ "0"
def frameM (l : Int) (z : PySem.Str) : PySem.Str := flagM l ++ stuffM l z ++ flagM l
def isZ (cs : List Nat) (j : Nat) : Bool := match cs[j]? with
  | some c => decide (sgn c = "0")
  | none => false
def zerosTo (cs : List Nat) (n : Nat) : List Int := ((List.range n).filter (isZ cs)).map fun j : Nat => (j : Int)
def zerosM (z : PySem.Str) : List Int := zerosTo z.cps.toList z.cps.size
def diffs (ps : List Int) : List Int := (List.range (ps.length - 1)).map fun i => ps.getD (i + 1) 0 - ps.getD i 0
def frameGaps (l : Int) (z : PySem.Str) : List Int := diffs (zerosM (frameM l z))
theorem sgn_len (c : Nat) : (sgn c).length = 1 := rfl
theorem stRun_more {l : Int} {cs : List Nat} {i c : Nat} (h : cs[i]? = some c) : stRun l (cs.take (i + 1)) = stStep l (stRun l (cs.take i)) c := by
  unfold stRun
  rw [take_more h, List.foldl_append]
  rfl
theorem stStep_len (l : Int) (s : PySem.Str × Int) (c : Nat) : (stStep l s c).1.length ≤ s.1.length + 2 := by
  have z0 : (("0" : PySem.Str)).length = 1 := rfl
  have z1 := sgn_len c
  unfold stStep
  split
  · show (s.1 ++ sgn c ++ "0").length ≤ _
    rw [Str.length_append, (Str.length_append)]
    omega
  · show (s.1 ++ sgn c).length ≤ _
    rw [Str.length_append]
    omega
theorem stRun_len (l : Int) (cs : List Nat) : ∀ n, n ≤ cs.length → (stRun l (cs.take n)).1.length ≤ 2 * n
  | 0, _ => Nat.le_refl 0
  | n + 1, h => by
    have hn : n < cs.length := by omega
    have e : cs[n]? = some cs[n] := by simp [hn]
    rw [stRun_more e]
    have a := stStep_len l (stRun l (cs.take n)) cs[n]
    have b := stRun_len l cs n (by omega)
    omega
theorem zerosTo_more (cs : List Nat) (n : Nat) : zerosTo cs (n + 1) = zerosTo cs n ++ (if isZ cs n = true then [(n : Int)] else []) := by
  unfold zerosTo
  rw [List.range_succ, List.filter_append, List.map_append]
  cases h : isZ cs n <;> simp [h]
theorem zerosTo_len (cs : List Nat) (n : Nat) : (zerosTo cs n).length ≤ n := by
  unfold zerosTo
  rw [List.length_map]
  have h := List.length_filter_le (isZ cs) (List.range n)
  rw [List.length_range] at h
  exact h
theorem cut_last (xs : List V) : cutV xs none (some (-1)) = xs.dropLast := by
  unfold cutV
  have e1 : HT.sIx xs.length 0 none = 0 := rfl
  have e2 : HT.sIx xs.length xs.length (some (-1)) = xs.length - 1 := by
    show (if (-1 : Int) < 0 then ((-1 : Int) + (xs.length : Int)).toNat else min (-1 : Int).toNat xs.length) = _
    rw [if_pos (by decide)]
    omega
  rw [e1, e2, List.drop_zero, List.dropLast_eq_take]
  rfl
def spStuff : Sp := fun vs H Q _ => ∃ (l : Int) (z : PySem.Str), vs = [.int l, .str z] ∧ z.length ≤ 10000 ∧ Q (.str (stuffM l z)) H
def spFlag : Sp := fun vs H Q _ => ∃ l : Int, vs = [.int l] ∧ 0 ≤ l ∧ l ≤ 1000 ∧ Q (.str (flagM l)) H
def spFrame : Sp := fun vs H Q _ => ∃ (l : Int) (z : PySem.Str), vs = [.int l, .str z] ∧ 0 ≤ l ∧ l ≤ 1000 ∧ z.length ≤ 10000 ∧ Q (.str (frameM l z)) H
def spZeros : Sp := fun vs H Q _ => ∃ z : PySem.Str, vs = [.str z] ∧ z.length ≤ 100000 ∧ NewInts H Q (zerosM z)
def spDiffs : Sp := fun vs H Q _ => ∃ z : PySem.Str, vs = [.str z] ∧ z.length ≤ 100000 ∧ NewInts H Q (diffs (zerosM z))
def spFrameGaps : Sp := fun vs H Q _ => ∃ (l : Int) (z : PySem.Str), vs = [.int l, .str z] ∧ 0 ≤ l ∧ l ≤ 1000 ∧ z.length ≤ 10000 ∧ NewInts H Q (frameGaps l z)
section
variable {P : Program} {w : World} {K : PySem.W.Frag} {mg : PySem.Str → Option Value} {base : Heap}
theorem ok_read_gaps (T : Txt K mg) : Kept P w K mg base CX0 3 (He.ga K "read_gaps") ["limit", "gaps"] (spReadGaps K) := by
  refine kept0 (T.fn in_read_gaps) sc_read_gaps b_read_gaps (fun vs H Q E h => ?_) (fun cdv A outer s H vs Q E hr h => ?_)
  · obtain ⟨a, l, gs, rfl, _⟩ := h
    rfl
  · obtain ⟨a, l, gs, rfl, hS, hlen, l0, l1, k⟩ := h
    have C := T.cl (x := "Reader") (by decide +kernel)
    refine ⟨_, (pss_cons (ps_set (i := 2) sc_read_gaps.nd rfl (Or.inl rfl) (pmk (ok_Reader_init T) (T.mkr (x := "Reader") (by decide +kernel)) (hr.mono (by decide)) (by rfl) (T.g (x := "Reader") (by decide +kernel)) (pa_cons (pv 0) pa_nil)))
      (pss_cons (ps_for PassesOwn.never rfl (pi_list (pv 1)) (pg_name (i := 3) sc_read_gaps.nd rfl (Or.inl rfl)) (pss_one (ps_expr (pm (ok_Reader_read T) (T.cl (x := "Reader") (by decide +kernel)) (T.me (x := "Reader") (m := "read") (by decide +kernel)) (hr.mono (by decide)) (pv 2) (pa_cons (pv 3) pa_nil)))))
      (pss_one (ps_ret (pe_fld (pv 2) rfl))))), ?_⟩
    refine ⟨_, rfl, fun x dx nx ndx nex => ⟨x, dx, l, rfl, upd_same, fun H1 q nq R1 f1 => ⟨rfl, ?_⟩⟩⟩
    have e0 : Same H H1 := Same.made nx ndx f1
    have nq0 : H q = none := by
      by_cases e : q = x
      · rw [e]
        exact nx
      · rw [upd_ne e] at nq
        by_cases e2 : q = dx
        · rw [e2]
          exact ndx
        · rw [upd_ne e2] at nq
          exact nq
    refine ⟨_, rfl, a, rfl, ⟨_, e0.seq hS⟩, for_list (K := K) (a := a) (xs := gs.map V.int) (fun i σ H' => ∃ v : Option V, σ = [some (.int l), some (.ref a), some (.ref x), v] ∧ Same H H' ∧ RdAt (He.ga K "Reader") H' x q l (rdRun l (gs.take i)))
      ⟨none, rfl, e0, R1⟩ (fun i σ H' _ ⟨_, _, e, _⟩ => e.seq hS) ?_ ?_⟩
    · rintro i y σ H' hi ⟨v, rfl, e, R⟩
      obtain ⟨z, hz, rfl⟩ := int_at hi
      have hle : i ≤ gs.length := Nat.le_of_lt (List.getElem?_eq_some_iff.mp hz).1
      have hb := rdLe_run l l0 gs i hle
      obtain ⟨dx', hx⟩ := R.ob
      have more := rdRun_more (l := l) hz
      refine ⟨_, rfl, x, dx', _, rfl, hx, rfl, _, rfl, x, q, l, z, _, rfl, R, l0, l1, ?_, fun H2 R2 f2 => ?_⟩
      · obtain ⟨h1, h2, h3⟩ := hb
        have hm : (i : Int) * (l + 1) ≤ (1000 : Nat) * (l + 1) := Int.mul_le_mul_of_nonneg_right (by omega) (by omega)
        exact ⟨fun b eb => Int.le_trans (h1 b eb) hm, fun b hb => Int.le_trans (h2 b hb) hm, by omega⟩
      · rw [← more] at R2
        exact ⟨_, rfl, fun b o eb => f2 b o (e b o eb) (ne_of_none eb nx) (ne_of_none eb nq0), R2⟩
    · rintro σ H' ⟨v, rfl, e, R⟩
      rw [List.length_map, List.take_length] at R
      obtain ⟨dx', hx⟩ := R.ob
      exact ⟨_, rfl, x, _, dx', _, _, rfl, hx, C, T.na (by decide +kernel), rfl, k H' q e nq0 R.ls⟩
theorem ok_stuff (T : Txt K mg) : Kept P w K mg base CX0 1 (He.ga K "stuff") ["limit", "bits"] spStuff := by
  refine kept0 (T.fn in_stuff) sc_stuff b_stuff (fun vs H Q E h => ?_) (fun cdv A outer s H vs Q E hr h => ?_)
  · obtain ⟨l, z, rfl, _⟩ := h
    rfl
  · obtain ⟨l, z, rfl, hz, k⟩ := h
    refine ⟨_, (pss_cons (ps_set (i := 2) sc_stuff.nd rfl (Or.inl rfl) pe_str)
      (pss_cons (ps_set (i := 3) sc_stuff.nd rfl (Or.inl rfl) pe_int)
      (pss_cons (ps_for PassesOwn.never rfl (pi_str (pv 1)) (pg_name (i := 4) sc_stuff.nd rfl (Or.inl rfl)) (pss_cons (ps_set (i := 2) sc_stuff.nd rfl (Or.inl rfl) (pe_op op_add_str (pv 2) (pv 4)))
      (pss_cons (ps_set (i := 3) sc_stuff.nd rfl (Or.inl rfl) (pe_ifExp (pt_cmpR op_eq (pv 4) pe_str (nomark _)) (pe_op op_add (pv 3) pe_int) pe_int))
      (pss_one (ps_if (pt_cmpR op_eq (pv 3) (pv 0) (nomark _)) (pss_cons (ps_set (i := 2) sc_stuff.nd rfl (Or.inl rfl) (pe_op op_add_str (pv 2) pe_str))
      (pss_one (ps_set (i := 3) sc_stuff.nd rfl (Or.inl rfl) pe_int))) pss_nil)))))
      (pss_one (ps_ret (pv 2)))))), ?_⟩
    refine ⟨_, rfl, z, rfl, for_it walk_str (fun i σ H' => ∃ v : Option V, σ = [some (.int l), some (.str z), some (.str (stRun l (z.cps.toList.take i)).1), some (.int (stRun l (z.cps.toList.take i)).2), v] ∧ H' = H)
      ⟨none, rfl, rfl⟩ (fun _ _ _ _ _ => trivial) ?_ ?_⟩
    · rintro i y σ H' H2 hi ⟨v, rfl, rfl⟩ ⟨rfl, c, hc, rfl⟩
      have hc2 : z.cps.toList[i]? = some c := by rw [Array.getElem?_toList]; exact hc
      have more := stRun_more (l := l) hc2
      have hl := stRun_len l z.cps.toList i (by have := (List.getElem?_eq_some_iff.mp hc2).1; omega)
      have hi2 : i < 10000 := by
        have : z.cps.size ≤ 10000 := hz
        omega
      generalize stRun l (z.cps.toList.take i) = st at hl more
      obtain ⟨f, o⟩ := st
      have z0 : (("0" : PySem.Str)).length = 1 := rfl
      have z1 := sgn_len c
      have hf : f.length ≤ 2 * i := hl
      refine ⟨_, rfl, _, rfl, f, sgn c, rfl, rfl, (by rw [sizeLine_eq]; omega), ?_⟩
      refine ⟨_, rfl, rfl, _, rfl, ?_⟩
      unfold stStep at more
      have fin : ∀ o' : Int, stOnes o c = o' → ∀ D : Ends, (∀ G, (∃ v : Option V, G = [some (.int l), some (.str z), some (.str (stRun l (z.cps.toList.take (i + 1))).1), some (.int (stRun l (z.cps.toList.take (i + 1))).2), v] ∧ H2 = H2) → D.nx G H2) →
          tIfS (tTest (tOp rEq (tVar 3) (tVar 0))) (tSeq (tAsg (tOp (fun x y H Q => ∃ i j, x = .str i ∧ y = .str j ∧ i.length + j.length ≤ sizeLine ∧ Q (.str (i ++ j)) H) (tVar 2) (tC (.str "0"))) (gName 2)) (tAsg (tC (.int 0)) (gName 3))) tNext D
            [some (.int l), some (.str z), some (.str (f ++ sgn c)), some (.int o'), some (.str (sgn c))] H2 := by
        intro o' eo D hD
        refine ⟨_, rfl, _, rfl, rfl, _, rfl, ite2 (fun c2 => ?_) (fun c2 => ?_)⟩
        · have c3 : o' = l := by simpa using c2
          rw [if_pos (by rw [eo]; exact c3)] at more
          refine ⟨_, rfl, _, _, rfl, rfl, (by rw [Str.length_append, sizeLine_eq]; omega), ?_⟩
          refine hD _ ⟨some (.str (sgn c)), ?_, rfl⟩
          rw [more]
          rfl
        · have c3 : ¬ o' = l := by simpa using c2
          rw [if_neg (by rw [eo]; exact c3)] at more
          refine hD _ ⟨some (.str (sgn c)), ?_, rfl⟩
          rw [more, ← eo]
      refine ite2 (fun c1 => ?_) (fun c1 => ?_)
      · have c4 : sgn c = "1" := by simpa [sgn] using c1
        refine ⟨_, rfl, _, _, rfl, rfl, fin (o + 1) (if_pos c4) _ fun _ x => x⟩
      · have c4 : ¬ sgn c = "1" := by simpa [sgn] using c1
        exact fin 0 (if_neg c4) _ fun _ x => x
    · rintro σ H' ⟨v, rfl, rfl⟩
      refine ⟨_, rfl, ?_⟩
      have ef : z.cps.toList.take z.cps.size = z.cps.toList := List.take_of_length_le (by simp)
      rw [ef]
      exact k
theorem flag_len {l : Int} (l0 : 0 ≤ l) : ((flagM l).length : Int) = l + 3 := by
  unfold flagM
  have z0 : (("0" : PySem.Str)).length = 1 := rfl
  rw [Str.length_append, Str.length_append, mul_len (z := "1") rfl (by omega), z0]
  omega
theorem stuffM_len (l : Int) (z : PySem.Str) : (stuffM l z).length ≤ 2 * z.length := by
  have h := stRun_len l z.cps.toList z.cps.toList.length (Nat.le_refl _)
  rw [List.take_length] at h
  have e : z.cps.toList.length = z.length := by
    rw [Array.length_toList]
    rfl
  rw [e] at h
  exact h
theorem ok_flag_of (T : Txt K mg) : Kept P w K mg base CX0 1 (He.ga K "flag_of") ["limit"] spFlag := by
  refine kept0 (T.fn in_flag_of) sc_flag_of b_flag_of (fun vs H Q E h => ?_) (fun cdv A outer s H vs Q E hr h => ?_)
  · obtain ⟨l, rfl, _⟩ := h
    rfl
  · obtain ⟨l, rfl, l0, l1, k⟩ := h
    have z0 : (("0" : PySem.Str)).length = 1 := rfl
    have hm : (Txt.mul "1" (l + 1)).length = (l + 1).toNat := mul_len (z := "1") rfl (by omega)
    refine ⟨_, (pss_one (ps_ret (pe_op op_add_str (pe_op op_add_str pe_str (pe_op op_repS pe_str (pe_op op_add (pv 0) pe_int))) pe_str))), ?_⟩
    refine ⟨_, rfl, _, _, rfl, rfl, "1", _, rfl, rfl, Nat.le_refl 1, (by omega), (by omega), _, _, rfl, rfl, (by rw [hm, z0, sizeLine_eq]; omega), _, _, rfl, rfl, (by rw [Str.length_append, hm, z0, sizeLine_eq]; omega), k⟩
theorem ok_frame_bits (T : Txt K mg) : Kept P w K mg base CX0 2 (He.ga K "frame_bits") ["limit", "payload"] spFrame := by
  refine kept0 (T.fn in_frame_bits) sc_frame_bits b_frame_bits (fun vs H Q E h => ?_) (fun cdv A outer s H vs Q E hr h => ?_)
  · obtain ⟨l, z, rfl, _⟩ := h
    rfl
  · obtain ⟨l, z, rfl, l0, l1, hz, k⟩ := h
    have h1 := flag_len l0
    have h2 := stuffM_len l z
    refine ⟨_, (pss_one (ps_ret (pe_op op_add_str (pe_op op_add_str (pc (ok_flag_of T) (hr.mono (by decide)) (by rfl) (T.g (x := "flag_of") (by decide +kernel)) (pa_cons (pv 0) pa_nil)) (pc (ok_stuff T) (hr.mono (by decide)) (by rfl) (T.g (x := "stuff") (by decide +kernel)) (pa_cons (pv 0) (pa_cons (pv 1) pa_nil)))) (pc (ok_flag_of T) (hr.mono (by decide)) (by rfl) (T.g (x := "flag_of") (by decide +kernel)) (pa_cons (pv 0) pa_nil))))), ?_⟩
    refine ⟨_, rfl, l, rfl, l0, l1, _, rfl, _, rfl, l, z, rfl, hz, _, _, rfl, rfl, (by rw [sizeLine_eq]; omega), _, rfl, l, rfl, l0, l1, _, _, rfl, rfl, (by rw [Str.length_append, sizeLine_eq]; omega), k⟩
theorem ok_zeros_of (T : Txt K mg) : Kept P w K mg base CX0 1 (He.ga K "zeros_of") ["bits"] spZeros := by
  refine kept0 (T.fn in_zeros_of) sc_zeros_of b_zeros_of (fun vs H Q E h => ?_) (fun cdv A outer s H vs Q E hr h => ?_)
  · obtain ⟨z, rfl, _⟩ := h
    rfl
  · obtain ⟨z, rfl, hz, k⟩ := h
    refine ⟨_, (pss_one (ps_ret (pe_lc (own := [("at", 1), ("bit", 2)]) (g := (gTup K 2 (gCons (gName 1) (gCons (gName 2) gNil)))) rfl sc_zeros_of.nd (pi_enumS (by rfl) (T.fr (x := "enumerate") (by decide +kernel)) (pa_cons (pv 0) pa_nil)) (blkOk_by (own := [("at", 1), ("bit", 2)]) (N := ["bits", "at", "bit"]) (sc := defScope s_zeros_of) (by decide +kernel)) (fun _ _ _ _ _ => (pg_tup (by rfl) (pgs_cons (pg_name (i := 1) sc_zeros_of.nd rfl (Or.inl rfl)) (pgs_cons (pg_name (i := 2) sc_zeros_of.nd rfl (Or.inl rfl)) pgs_nil)))) (fun _ _ _ _ _ => pts_one (pt_cmpR op_eq (pv 2) pe_str (nomark _))) (fun _ _ _ _ _ => (pv 1))))), ?_⟩
    refine ⟨_, rfl, z, rfl, fun D nD => ?_⟩
    refine lc_it walk_enumS (fun i H' => Same H H' ∧ H' D = some (.lst ((zerosTo z.cps.toList i).map V.int))) ⟨same_put (Same.refl H) nD, upd_same⟩ (fun _ _ _ _ => trivial) ?_ ?_
    · rintro i y H' H2 hi ⟨e, hD⟩ ⟨t, vx, vy, rfl, nt, rfl, hx, hy⟩
      have hx2 : vx = .int (i : Nat) := (Option.some.inj hx).symm
      obtain ⟨c, hc, rfl⟩ : ∃ c, z.cps[i]? = some c ∧ vy = .str (sgn c) := by
        have hy2 : Option.map (fun c => V.str ⟨#[c]⟩) (z.cps[i]?) = some vy := hy
        cases q : z.cps[i]? with
        | none =>
          rw [q] at hy2
          cases hy2
        | some c =>
          rw [q] at hy2
          exact ⟨c, rfl, (Option.some.inj hy2).symm⟩
      subst hx2
      have hc2 : z.cps.toList[i]? = some c := by rw [Array.getElem?_toList]; exact hc
      have more := zerosTo_more z.cps.toList i
      have hl := zerosTo_len z.cps.toList i
      have hzi : i < 100000 := by
        have : z.cps.size ≤ 100000 := hz
        omega
      have hiz : isZ z.cps.toList i = decide (sgn c = "0") := by
        unfold isZ
        rw [hc2]
      have nDt : D ≠ t := ne_of_none hD nt
      refine ⟨t, _, rfl, SqT.of upd_same, rfl, _, _, rfl, _, _, rfl, rfl, rfl, ?_⟩
      refine ⟨_, rfl, rfl, _, rfl, ite2 (fun c1 => ?_) (fun c1 => ?_)⟩
      · have c2 : sgn c = "0" := by simpa using c1
        rw [hiz, decide_eq_true c2, if_pos rfl] at more
        refine ⟨_, rfl, _, (by rw [upd_ne nDt]; exact hD), (by rw [List.length_map, sizeLine_eq]; omega), same_put (same_put e (e.free nt)) nD, ?_⟩
        rw [upd_same, more, List.map_append]
        rfl
      · have c2 : ¬ sgn c = "0" := by simpa using c1
        rw [hiz, decide_eq_false c2, if_neg Bool.false_ne_true, List.append_nil] at more
        refine ⟨same_put e (e.free nt), ?_⟩
        rw [upd_ne nDt, more]
        exact hD
    · rintro H' ⟨e, hD⟩
      exact k H' D e nD hD
theorem ok_gaps_of (T : Txt K mg) : Kept P w K mg base CX0 2 (He.ga K "gaps_of") ["bits"] spDiffs := by
  refine kept0 (T.fn in_gaps_of) sc_gaps_of b_gaps_of (fun vs H Q E h => ?_) (fun cdv A outer s H vs Q E hr h => ?_)
  · obtain ⟨z, rfl, _⟩ := h
    rfl
  · obtain ⟨z, rfl, hz, k⟩ := h
    have hl : (zerosM z).length ≤ 100000 := by
      have := zerosTo_len z.cps.toList z.cps.size
      have h2 : z.cps.size ≤ 100000 := hz
      unfold zerosM
      omega
    refine ⟨_, (pss_cons (ps_set (i := 1) sc_gaps_of.nd rfl (Or.inr rfl) (pc (ok_zeros_of T) (hr.mono (by decide)) (by rfl) (T.g (x := "zeros_of") (by decide +kernel)) (pa_cons (pv 0) pa_nil)))
      (pss_one (ps_ret (pe_lc (own := [("at", 2), ("place", 3)]) (g := (gTup K 2 (gCons (gName 2) (gCons (gName 3) gNil)))) (tt := tYes) (te := tOp (rI0 fun i j => .int (i - j)) (tOp (rIxL K) (tVar 1) (tOp (rI0 fun i j => .int (i + j)) (tVar 2) (tC (.int 1)))) (tVar 3)) rfl sc_gaps_of.nd (pi_enum (by rfl) (T.fr (x := "enumerate") (by decide +kernel)) (pa_cons (pe_slice sl_list (pv 1) po_none (po_some (pe_un un_neg pe_int))) pa_nil)) (blkOk_by (own := [("at", 2), ("place", 3)]) (N := ["bits", "places", "at", "place"]) (sc := defScope s_gaps_of) (by decide +kernel)) (fun _ _ _ _ _ => (pg_tup (by rfl) (pgs_cons (pg_name (i := 2) sc_gaps_of.nd rfl (Or.inl rfl)) (pgs_cons (pg_name (i := 3) sc_gaps_of.nd rfl (Or.inl rfl)) pgs_nil)))) (fun _ _ _ _ _ => pts_nil) (fun _ _ _ _ _ => (pe_op op_sub (pe_ix ix_list (pv 1) (pe_op op_add (pv 2) pe_int) (fun _ _ => rfl)) (pv 3))))))), ?_⟩
    refine ⟨_, rfl, z, rfl, hz, fun H1 p e1 np hp => ?_⟩
    generalize zerosM z = ps at hp hl k
    refine ⟨_, rfl, 1, rfl, -1, rfl, p, _, rfl, SqL.of hp, fun q nq => ?_⟩
    rw [cut_last]
    have npq : p ≠ q := ne_of_none hp nq
    have e2 : Same H (upd H1 q (.lst (ps.map V.int).dropLast)) := same_put e1 (e1.free nq)
    refine ⟨q, _, rfl, SqL.of upd_same, fun D nD => ?_⟩
    have e3 : Same (upd H1 q (.lst (ps.map V.int).dropLast)) (upd (upd H1 q (.lst (ps.map V.int).dropLast)) D (.lst [])) := same_put (Same.refl _) nD
    generalize hG : upd H1 q (.lst (ps.map V.int).dropLast) = G at nD e2 e3
    have gp : G p = some (.lst (ps.map V.int)) := by rw [← hG, upd_ne npq]; exact hp
    have gq : G q = some (.lst (ps.map V.int).dropLast) := by rw [← hG, upd_same]
    refine lc_it walk_enum (fun i H' => Same G H' ∧ H' D = some (.lst ((((List.range i).map fun i => ps.getD (i + 1) 0 - ps.getD i 0)).map V.int))) ⟨e3, upd_same⟩ (fun i H' _ ⟨e, _⟩ => SqL.of (e _ _ gq)) ?_ ?_
    · rintro i y H' H2 hi ⟨e, hD⟩ ⟨t, vx, vy, rfl, nt, rfl, hx, hy⟩
      have hx2 : vx = .int (i : Nat) := (Option.some.inj hx).symm
      subst hx2
      have hi2 : i + 1 < ps.length := by
        rw [List.length_dropLast, List.length_map] at hi
        omega
      have h0 : ps[i]? = some (ps.getD i 0) := by rw [List.getD_eq_getElem?_getD, List.getElem?_eq_getElem (by omega)]; rfl
      have h1 : ps[i + 1]? = some (ps.getD (i + 1) 0) := by rw [List.getD_eq_getElem?_getD, List.getElem?_eq_getElem hi2]; rfl
      have hy2 : vy = .int (ps.getD i 0) := by
        have hy3 : (ps.map V.int).dropLast[i]? = some vy := hy
        rw [List.getElem?_dropLast, if_pos (by rw [List.length_map]; omega), List.getElem?_map, h0] at hy3
        exact (Option.some.inj hy3).symm
      subst hy2
      have nDt : D ≠ t := ne_of_none hD nt
      refine ⟨t, _, rfl, SqT.of upd_same, rfl, _, _, rfl, _, _, rfl, rfl, rfl, ?_⟩
      refine ⟨_, rfl, _, rfl, _, _, rfl, rfl, p, _, _, V.int (ps.getD (i + 1) 0), rfl, rfl, SqL.of ((same_put e (e.free nt)) _ _ gp), at_of (j := i + 1) (by omega) (by rw [List.getElem?_map, h1]; rfl), _, rfl, _, _, rfl, rfl, ?_⟩
      refine ⟨_, (by rw [upd_ne nDt]; exact hD), (by rw [List.length_map, List.length_map, List.length_range, sizeLine_eq]; omega), same_put (same_put e (e.free nt)) nD, ?_⟩
      rw [upd_same, List.range_succ, List.map_append, List.map_append]
      rfl
    · rintro H' ⟨e, hD⟩
      refine k H' D (e2.trans e) (e2.free nD) ?_
      rw [List.length_dropLast, List.length_map] at hD
      exact hD
theorem ok_frame_gaps (T : Txt K mg) : Kept P w K mg base CX0 3 (He.ga K "frame_gaps") ["limit", "payload"] spFrameGaps := by
  refine kept0 (T.fn in_frame_gaps) sc_frame_gaps b_frame_gaps (fun vs H Q E h => ?_) (fun cdv A outer s H vs Q E hr h => ?_)
  · obtain ⟨l, z, rfl, _⟩ := h
    rfl
  · obtain ⟨l, z, rfl, l0, l1, hz, k⟩ := h
    refine ⟨_, (pss_one (ps_ret (pc (ok_gaps_of T) (hr.mono (by decide)) (by rfl) (T.g (x := "gaps_of") (by decide +kernel)) (pa_cons (pc (ok_frame_bits T) (hr.mono (by decide)) (by rfl) (T.g (x := "frame_bits") (by decide +kernel)) (pa_cons (pv 0) (pa_cons (pv 1) pa_nil))) pa_nil)))), ?_⟩
    refine ⟨_, rfl, _, rfl, l, z, rfl, l0, l1, hz, frameM l z, rfl, ?_, k⟩
    have h1 := flag_len l0
    have h2 := stuffM_len l z
    unfold frameM
    rw [Str.length_append, (Str.length_append)]
    omega
end
end Edge
/-! Refused(..): an own exception whose __init__ says super().__init__(what); self.what = what. -/
namespace Edge
open L2 PyProof.Rows PySem PySem.Spec
abbrev rN : List Str := ["self", "what"]
def rfA (K : PySem.W.Frag) : Addr := He.ga K "Refused"
def rfI (K : PySem.W.Frag) : Addr := He.ma K (rfA K) "__init__"
/-- what the walk of Refused.__init__ leans on -/
structure RefK (P : Program) (K : PySem.W.Frag) : Prop where
  lk : ∃ (oc : Value) (od : Option Addr) (kV doc pm ct : Value) (an : Option Addr) (osl : Array (Option Value)) (cda cc : Addr) (ccl cl : Value) (cdd cld : Option Addr) (vs : Array Value) (ccs csl : Array (Option Value)) (file : Str) (tf : Tok),
    K.lookup (rfI K) = some ⟨oc, od, .func (PySem.W.ksFn "__init__" "Refused.__init__" (defArgs s_Refused_init) (defBody s_Refused_init) (defScope s_Refused_init) .none kV doc pm an (.ref cda) ct cc), osl⟩ ∧
    PySem.W.codeIn K (.ref cda) "Refused.__init__" = true ∧ K.lookup cda = some ⟨ccl, cdd, .fields vs, ccs⟩ ∧ vs[2]? = some (.str file tf) ∧ ((P.main.file : Str) == file) = true ∧
    K.lookup cc = some ⟨cl, cld, .cell (some (.ref (rfA K))), csl⟩
  oex : OexC K (rfA K)
  keep : PySem.W.keepIn K (.ref (rfI K)) = true
  ini : PySem.W.findIn K (.ref (rfA K)) "__init__" = some (some (.ref (rfI K)))
  fn : PySem.W.typeIn K (.ref (rfI K)) = some (.type "function")
  sup : PySem.W.ks_superIn K (rfA K) (rfA K) "__init__" = some (some (.builtin "ValueError.__init__"))
  opq : PySem.W.nsIn K PySem.cStatics "thirdparty.any" = some none
  ve : PySem.W.subIn K (.ref (rfA K)) (.type "ValueError") = some true
  mro : PySem.W.mroIn K (rfA K) (.ref (rfA K)) = some true
  noat : PySem.W.findIn K (.ref (rfA K)) "what" = some none
  xf : XfC K (rfA K)
  top : (P.main.scope.names.lookup ("super" : Str)).isSome = false
def spRef (K : PySem.W.Frag) : Sp := fun vs H Q _ => ∃ (a : Addr) (z : Str), vs = [.ref a, .str z] ∧ H a = some (exo a (rfA K) none) ∧ ∀ d, H d = none → d ≠ a → Q .non (upd (upd H d (exd d [("what", .str z)])) a (exo a (rfA K) (some d)))
theorem scR1 : (defScope s_Refused_init).names.lookup ("self" : Str) = some .local := by decide +kernel
theorem scR2 : (defScope s_Refused_init).names.lookup ("what" : Str) = some .local := by decide +kernel
theorem scR3 : (defScope s_Refused_init).names.lookup ("super" : Str) = some .globalImplicit := by decide +kernel
theorem scR4 : (defScope s_Refused_init).names.lookup ("__class__" : Str) = some .free := by decide +kernel
theorem scR5 : ∀ x : Str, ((defScope s_Refused_init).names.lookup x = some .cell ∨ (defScope s_Refused_init).names.lookup x = some .free) → x = "__class__" := by
  have key : (defScope s_Refused_init).names.all (fun p => (p.2 != .cell && p.2 != .free) || p.1 == ("__class__" : Str)) = true := by decide +kernel
  intro x hx
  have mem : ∀ v, (defScope s_Refused_init).names.lookup x = some v → (x, v) ∈ (defScope s_Refused_init).names := fun v h => PySem.mem_of_lookup h
  rcases hx with h | h
  · have := List.all_eq_true.mp key _ (mem _ h)
    simpa using this
  · have := List.all_eq_true.mp key _ (mem _ h)
    simpa using this
theorem scR6 : ∀ x ∈ (defScope s_Refused_init).names, x.2 ≠ .cell := by decide +kernel
section
variable {K : PySem.W.Frag} {mg : Str → Option Value} {base : Heap} {P : Program} {w : World}
def rCx (P : Program) (w : World) (K : PySem.W.Frag) (mg : Str → Option Value) (base : Heap) (A : Around) (outer : List Env) (s : Shared) (H : Hp) (E : Value → Shared → Prop) (cdv : Value) (cc : Addr) : Cx where
  prog := P
  w := w
  K := K
  mg := mg
  base := base
  A := A.deeper (PySem.W.ksEnv "Refused.__init__" (defScope s_Refused_init) s.heap.objs.size (rfI K) cdv cc)
  N := rN
  s_0 := s
  H_0 := H
  env := PySem.W.ksEnv "Refused.__init__" (defScope s_Refused_init) s.heap.objs.size (rfI K) cdv cc
  outer := outer
  stack := PySem.W.ksEnv "Refused.__init__" (defScope s_Refused_init) s.heap.objs.size (rfI K) cdv cc :: outer
  ex := []
  calm := true
  fn := fun _ => false
  pn := []
  xe := E
theorem cc_look {cc c : Addr} {x : Str} (h : ([(("__class__" : Str), cc)] : List (Str × Addr)).lookup x = some c) : x = "__class__" ∧ c = cc := by
  have h2 := PySem.mem_of_lookup h
  rw [List.mem_singleton] at h2
  exact ⟨congrArg (·.1) h2, congrArg (·.2) h2⟩
theorem rInv {A : Around} {outer : List Env} {s : Shared} {H : Hp} {E : Value → Shared → Prop} {cdv : Value} {cc : Addr} {us : List Value} {vs : List V} {h0 : Heap} {tk : Nat} {cl : Value} {cld : Option Addr} {csl : Array (Option Value)}
    (hd : A.handled = none) (e0 : Env0 P w K mg base A outer s H) (r : Vals vs us) (hl : vs.length = 2) (hcc : K.lookup cc = some ⟨cl, cld, .cell (some (.ref (rfA K))), csl⟩)
    (hns : h0.Ns s.heap.objs.size (fun x => (rN.zip us).reverse.lookup x)) (hk : ∀ b o, s.heap.get? b = some o → h0.get? b = some o) :
    Inv (rCx P w K mg base A outer s H E cdv cc) [] (start rN vs) H { s with heap := h0, toks := tk } := by
  have hb : base.get? cc = some ⟨cl, cld, .cell (some (.ref (rfA K))), csl⟩ := e0.mod.kin _ _ hcc
  have noA : ∀ b : Addr, b ∉ (rCx P w K mg base A outer s H E cdv cc).ex := fun b z => absurd (show b ∈ ([] : List Addr) from z) (by simp)
  obtain ⟨v1, v2, rfl⟩ : ∃ a b, vs = [a, b] := by
    match vs, hl with
    | [a, b], _ => exact ⟨a, b, rfl⟩
  obtain ⟨u1, us', rfl⟩ : ∃ u us', us = u :: us' := by cases r with | cons _ _ => exact ⟨_, _, rfl⟩
  obtain ⟨u2, us2, rfl⟩ : ∃ u us2, us' = u :: us2 := by cases r with | cons _ r => cases r with | cons _ _ => exact ⟨_, _, rfl⟩
  obtain rfl : us2 = [] := by cases r with | cons _ r => cases r with | cons _ r => cases r with | nil => rfl
  have r1 : RelV v1 u1 := by cases r with | cons a _ => exact a
  have r2 : RelV v2 u2 := by cases r with | cons _ r => cases r with | cons a _ => exact a
  refine ⟨⟨e0.mod, (show (defScope s_Refused_init).kind = .function by decide +kernel), rfl, rfl, Nat.le_refl _, fun y z c h1 h2 => ?_, fun y hy => ?_, fun y c z h => ?_, fun _ => hd, Around.frames_deeper e0.frames, .inr ⟨rfl, rfl⟩, fun b z => absurd z (noA b), e0.bs, e0.bsz, fun b _ _ => noA b, fun b z => absurd z (noA b), e0.funs, e0.frf⟩,
    rfl, e0.bare, Un.kept hk, ⟨_, hns, fun i y v h1 h2 h3 => ?_⟩, fun y c h => ?_, e0.hok.fresh (Nat.le_refl _), fun y c h => ?_, fun p hp => absurd (show p ∈ ([] : List (Addr × Obj)) from hp) (by simp), e0.hok.kept hk, rfl⟩
  · rw [(cc_look h1).1, (cc_look h2).1]
  · have e := scR5 y hy
    subst e
    exact ⟨cc, rfl⟩
  · cases z
  · match i, h1, h2 with
    | 0, h1, h2 =>
      obtain rfl : "self" = y := Option.some.inj h1
      obtain rfl : v1 = v := Option.some.inj (Option.some.inj h2)
      exact ⟨u1, r1, .inl ⟨scR1, rfl⟩⟩
    | 1, h1, h2 =>
      obtain rfl : "what" = y := Option.some.inj h1
      obtain rfl : v2 = v := Option.some.inj (Option.some.inj h2)
      exact ⟨u2, r2, .inl ⟨scR2, rfl⟩⟩
    | i + 2, h1, _ => cases h1
  · rw [(cc_look h).2]
    exact ⟨_, ⟨_, hk _ _ (e0.bs _ _ hb).1, rfl⟩⟩
  · rw [(cc_look h).2]
    exact (e0.bs _ _ hb).2

theorem rSuper {X : Cx} {σ : L2.St} {H : Hp} {s : Shared} {a : Addr} {z : Str} {cda cc : Addr} {p0 p1 p2 p3 p4 : Pos} {Q : Value → Shared → Prop} {A : Around} {outer : List Env} {s0 : Shared} {H0 : Hp} {E : Value → Shared → Prop} {body : List Stmt}
    (T : RefK P K) (hs : mg "super" = none) (eX : X = rCx P w K mg base A outer s0 H0 E (.ref cda) cc) (I : Inv X [] σ H s) (hσ : σ = [some (V.ref a), some (V.str z)]) (ea : H a = some (exo a (rfA K) none))
    {oc : Value} {od : Option Addr} {dV kV doc pm ct : Value} {an : Option Addr} {osl : Array (Option Value)} {ccl cl : Value} {cdd cld : Option Addr} {vs : Array Value} {ccs csl : Array (Option Value)} {file : Str} {tf : Tok}
    (hf : K.lookup (rfI K) = some ⟨oc, od, .func (PySem.W.ksFn "__init__" "Refused.__init__" (defArgs s_Refused_init) (defBody s_Refused_init) (defScope s_Refused_init) dV kV doc pm an (.ref cda) ct cc), osl⟩)
    (hcode : K.lookup cda = some ⟨ccl, cdd, .fields vs, ccs⟩) (hvs : vs[2]? = some (.str file tf)) (hfile : ((P.main.file : Str) == file) = true) (hcc : K.lookup cc = some ⟨cl, cld, .cell (some (.ref (rfA K))), csl⟩)
    {pl : Sem Bool} (he : eval (.Call (.Attribute (.Call (.Name "super" p0) [] [] p1) "__init__" p2) [.Name "what" p3] [] p4) X.env = (do
      let ov ← attributeBase (.Call (.Name "super" p0) [] [] p1) "__init__" X.env (eval (.Call (.Name "super" p0) [] [] p1) X.env)
      standAt p2.atName
      let (fn0, bound0) ← holding [ov] (getMethod ov "__init__" pl)
      callWith p4 fn0 bound0 (backTo p4 (starEach [.Name "what" p3] X.env)) []))
    (q : ∀ s', Inv X [] σ H s' → Q .none s') :
    _root_.PySem.wpAt (model P w) X.A (.func body X.env) (eval (.Call (.Attribute (.Call (.Name "super" p0) [] [] p1) "__init__" p2) [.Name "what" p3] [] p4) X.env) Q X.xe s := by
  subst eX
  obtain ⟨nm, qn, N, bs, bm, sn, sub, ab, col, dd, k0, k1, k2, k3, k5, hC, hbm⟩ := T.oex.cls
  have hclsC : PySem.W.clsIn K (rfA K) = some { name := nm, bases := bs, mro := .ref (rfA K) :: bm, ns := N, qualname := qn, hasDict := true, slotNames := sn, subclasses := sub, abstract := ab, collection := col, hasDel := false } := by
    unfold PySem.W.clsIn; rw [hC] <;> rfl
  obtain ⟨t1, ho⟩ := exo_at I.hok ea
  have KI : K.In s.heap := I.kIn
  obtain ⟨m, hm, hrel⟩ := I.loc
  obtain ⟨uself, ru, lu⟩ := hrel 0 "self" (.ref a) rfl (by rw [hσ]; rfl) (.inl scR1)
  obtain rfl : uself = Value.ref a := ru
  have hself : m "self" = some (.ref a) := by
    rcases lu with lu | lu
    · exact lu.2
    · exact absurd lu.1 (by rw [show (rCx P w K mg base A outer s0 H0 E (.ref cda) cc).env.kindOf "self" = some .local from scR1]; decide)
  have hks : (rCx P w K mg base A outer s0 H0 E (.ref cda) cc).env.kindOf "super" = some .globalImplicit := scR3
  have hkc : (rCx P w K mg base A outer s0 H0 E (.ref cda) cc).env.kindOf "__class__" = some .free := scR4
  have hk : (rCx P w K mg base A outer s0 H0 E (.ref cda) cc).env.scope.kind = .function := I.ok.kind
  have hka : (rCx P w K mg base A outer s0 H0 E (.ref cda) cc).env.kindOf "self" = some .local := scR1
  obtain ⟨mb, hb1, hb2⟩ := I.mod.blt
  have hD : s.heap.get? (rfA K) = some (excClassObj nm qn (rfA K) N bs bm true sn sub ab col dd k0 k1 k2 k3 k5 "ValueError.__new__") := KI _ _ hC
  have hmr : PySem.W.Looks (model P w) s.heap (isSubtype (.ref (rfA K)) (.ref (rfA K))) true := PySem.W.looks_mroIn KI T.mro
  have haC : a ≠ rfA K := fun e => by
    rw [e] at ho
    rw [hD] at ho
    have := congrArg Obj.data (Option.some.inj ho)
    cases this
  refine PySem.ks_wpAt_MethodCall (pl := pl) ?_ he
  refine PySem.ks_wpAt_super_base (ar := (defArgs s_Refused_init).args.headD default) hks hkc (by decide) rfl (KI _ _ hf) rfl rfl rfl (KI _ _ hcode) rfl hvs hfile T.top ?_
  refine PySem.W.ks_loadName_global hk hks (Calls.loadGlobal_builtin (I.mod.glob.keeps I.bk) hs (hb1.keeps I.bk) ((hb2 "super" (by decide)).trans (show bootBuiltins "super" = some (.type "super") by decide +kernel)) ⟨rfl, ?_⟩)
  refine wpAny_loadName_free (v := .ref (rfA K)) hk hkc rfl ⟨_, KI _ _ hcc, rfl⟩ ?_
  show wpAny _ _ (loadName _ "self") _ _ _
  refine wpAny_loadName_local hk hka hm hself ?_
  refine PySem.ks_wpAny_isType_cls hD rfl ⟨rfl, ?_⟩
  obtain ⟨hp, gs1, dr1, tk, os⟩ := s
  refine PySem.ks_wpAny_call_super hD rfl ho rfl (fun c e => by cases e) hmr (fun h1 e1 kk1 => ?_)
  have I1 : Inv (rCx P w K mg base A outer s0 H0 E (.ref cda) cc) [] σ H ⟨h1, gs1, dr1, tk, os⟩ := I.kept (t' := tk) kk1
  have ho1 := kk1 _ _ ho
  have KI1 : K.In h1 := I1.kIn
  have hI : PySem.W.Looks (model P w) h1 (isInstance (.ref a) (.type "ValueError")) true :=
    (PySem.W.InstAt.type (show PySem.W.InstAt h1 a { cls := .ref (rfA K), dict := none, data := .fields #[.ref t1, .none, .none, .none, .bool false, .none] } (rfA K) none from ⟨ho1, rfl, rfl, trivial⟩)).andThen (PySem.W.looks_subIn KI1 T.ve)
  have hsup := T.sup
  unfold PySem.W.ks_superIn at hsup
  rw [hclsC] at hsup
  refine PySem.W.kxs_getMethod PySem.W.kxs_ValueError e1 (PySem.W.looks_opaque KI1 T.opq) (fun A Q E s k q => wpAny_bind ((PySem.W.looks_clsIn KI1 hclsC) A _ E s k (wpAny_pure q))) rfl KI1 hsup hI haC (by decide) ?_
  have I2 : Inv (rCx P w K mg base A outer s0 H0 E (.ref cda) cc) [] σ H ⟨h1.push (PySem.W.kxs_mw "ValueError.__init__" a), gs1, dr1, tk + 1, os⟩ := I1.kept (t' := tk + 1) (fun b u e => Heap.get?_push_of_some _ e)
  have I3 : Inv (rCx P w K mg base A outer s0 H0 E (.ref cda) cc) [(h1.objs.size, PySem.W.kxs_mw "ValueError.__init__" a)] σ H ⟨h1.push (PySem.W.kxs_mw "ValueError.__init__" a), gs1, dr1, tk + 1, os⟩ :=
    I2.pins_of fun p hp => by
      rw [memS hp]
      refine ⟨Heap.get?_push_size _ rfl, I1.hok.fresh (Nat.le_refl _), fun e => ?_, I1.nofs (Nat.le_refl _), fun v e => by cases e⟩
      exact absurd I1.lt (by rw [← e]; exact Nat.lt_irrefl _)
  have pa : PA (rCx P w K mg base A outer s0 H0 E (.ref cda) cc) [.Name "what" p3] (tCons (tVar 1) tNil) := pa_cons (pe_var (i := 1) (x := "what") rfl (Or.inl scR2)) pa_nil
  refine PySem.W.kxs_callWith (i := "ValueError.__init__") (x := a) (by rfl) ?_
  refine PySem.Calls.evalArgs_plain (thn (pa.run p4 _ _ σ H (fun vs H' => vs = [.str z] ∧ H' = H) I3 ?_) ?_)
  · rw [hσ]
    exact ⟨_, rfl, rfl, rfl⟩
  rintro us s4 ⟨ws, H4, I4, r4, rfl, rfl⟩
  have hu : s4.heap.get? h1.objs.size = some (PySem.W.kxs_mw "ValueError.__init__" a) := (I4.pin (h1.objs.size, PySem.W.kxs_mw "ValueError.__init__" a) (List.mem_append_right _ (List.mem_singleton.mpr rfl))).1
  refine ⟨hu, ?_⟩
  have hlen : us.length = 1 := (Paired.length r4).symm
  have I5 : Inv (rCx P w K mg base A outer s0 H0 E (.ref cda) cc) [] σ H4 s4 := I4.pins_of fun p hp => absurd hp (by simp)
  obtain ⟨t2, ho4⟩ := exo_at I5.hok ea
  have hC4 : s4.heap.get? (rfA K) = some (excClassObj nm qn (rfA K) N bs bm true sn sub ab col dd k0 k1 k2 k3 k5 "ValueError.__new__") := I5.kIn _ _ hC
  obtain ⟨h4, g4, d4, t4, os4⟩ := s4
  show wpAny _ _ (call (.ref h1.objs.size) us) _ _ _
  refine wpAny_call <| codeAny_of_tree ?_
  show wpAny _ (Around.in1 _) (callAny (.ref h1.objs.size) ⟨us, []⟩) _ _ _
  unfold callAny
  dsimp only
  refine wpAny_bind <| wpAny_load hu ?_
  dsimp only [PySem.W.kxs_mw]
  refine PySem.W.KFB.if_so (by first | decide) ?_
  refine wpAny_bind (PySem.W.check_bound_init F.excBase_ValueError.toExcCallFacts hC4 ho4 rfl ?_)
  refine wpAny_bind <| wpAny_pure <| wpAny_pure ?_
  refine ⟨plainId_quiet F.excBase_ValueError.init.plain _, codeAny_builtin F.excBase_ValueError.initEntry ?_⟩
  refine PySem.W.exc_init_tree (cls := .ref (rfA K)) (t0 := t2) (dv := none) (c2 := .none) (c3 := .none) (b4 := .bool false) ho4 (by rw [hlen, sizeLine_eq]; decide) fun h5 kk hx _ => ?_
  have J := I5.write (t' := t4) (x := a) (e := a) (o := exo a (rfA K) none) (by rw [ea]; exact True.intro) (.inl rfl) kk ⟨_, hx⟩ (exo_ok hx)
  have eu : upd H4 a (exo a (rfA K) none) = H4 := by
    funext b
    by_cases hb : b = a
    · rw [hb, upd_same, ea]
    · rw [upd_ne hb]
  rw [eu] at J
  exact q _ J

theorem ref_fn (T : RefK P K) (hs : mg "super" = none) {oc : Value} {od : Option Addr} {dV kV doc pm ct : Value} {an : Option Addr} {osl : Array (Option Value)} {cda cc : Addr} {ccl cl : Value} {cdd cld : Option Addr} {vs0 : Array Value} {ccs csl : Array (Option Value)} {file : Str} {tf : Tok}
    (hf : K.lookup (rfI K) = some ⟨oc, od, .func (PySem.W.ksFn "__init__" "Refused.__init__" (defArgs s_Refused_init) (defBody s_Refused_init) (defScope s_Refused_init) dV kV doc pm an (.ref cda) ct cc), osl⟩)
    (hci : PySem.W.codeIn K (.ref cda) "Refused.__init__" = true) (hcode : K.lookup cda = some ⟨ccl, cdd, .fields vs0, ccs⟩) (hvs : vs0[2]? = some (.str file tf)) (hfile : ((P.main.file : Str) == file) = true)
    (hcc : K.lookup cc = some ⟨cl, cld, .cell (some (.ref (rfA K))), csl⟩) :
    FnOk P w K mg base CX0 1 (rfI K) (PySem.W.ksFn "__init__" "Refused.__init__" (defArgs s_Refused_init) (defBody s_Refused_init) (defScope s_Refused_init) dV kV doc pm an (.ref cda) ct cc) rN (spRef K) := by
  refine ⟨fun vs H Q E h => ?_, fun A outer s H args us vs Q E hr e0 hb r hsp => ?_⟩
  · obtain ⟨a, z, rfl, _⟩ := h
    rfl
  · obtain ⟨a, z, ev, ea, hq⟩ := hsp
    subst ev
    have stay : ∀ b o, base.get? b = some o → s.heap.get? b = some o := fun b o e => (e0.bs b o e).1
    have KX : K.In s.heap := e0.mod.kin.keeps stay
    have lim : s.heap.NoLimit := e0.mod.nolimit.keeps stay
    obtain ⟨u1, u2, rfl⟩ : ∃ u1 u2, us = [u1, u2] := by
      cases r with
      | cons _ r => cases r with
        | cons _ r => cases r with
          | nil => exact ⟨_, _, rfl⟩
    refine PySem.ks_codeAny_call_defAt (body := defBody s_Refused_init) (binds := rN.zip [u1, u2]) hr.depth (KX _ _ hf) rfl lim (PySem.W.codeRec_of KX hci) rfl hb scR6 (fun y hy => ?_) (fun h0 hns hk => ?_) (by rfl) (by rfl) (show (defScope s_Refused_init).kind = .function by decide +kernel)
    · rcases memC hy with rfl | hy
      · exact scR1
      · rw [memS hy]
        exact scR2
    · have I : Inv (rCx P w K mg base A outer s H (fun e s' => wpAny (model P w) (A.deeper (PySem.W.ksEnv "Refused.__init__" (defScope s_Refused_init) s.heap.objs.size (rfI K) (.ref cda) cc)) (leaving (PySem.W.ksEnv "Refused.__init__" (defScope s_Refused_init) s.heap.objs.size (rfI K) (.ref cda) cc) e) (fun _ s'' => CR CX0 outer P w H s Q E (.error e) s'') (fun e' s'' => CR CX0 outer P w H s Q E (.error e') s'') s') (.ref cda) cc) [] (start rN [V.ref a, V.str z]) H { s with heap := h0, toks := s.toks + (rN.zip [u1, u2]).length } :=
        rInv hr.hd e0 r rfl hcc hns hk
      generalize hX : rCx P w K mg base A outer s H (fun e s' => wpAny (model P w) (A.deeper (PySem.W.ksEnv "Refused.__init__" (defScope s_Refused_init) s.heap.objs.size (rfI K) (.ref cda) cc)) (leaving (PySem.W.ksEnv "Refused.__init__" (defScope s_Refused_init) s.heap.objs.size (rfI K) (.ref cda) cc) e) (fun _ s'' => CR CX0 outer P w H s Q E (.error e) s'') (fun e' s'' => CR CX0 outer P w H s Q E (.error e') s'') s') (.ref cda) cc = X at I
      have step : ∀ s1, Inv X [] (start rN [V.ref a, V.str z]) H s1 → wpAny (model P w) X.A (exec ((defBody s_Refused_init).getD 1 (.Pass ⟨0, 0, 0, 0⟩)) X.env) (SP X [] { nx := fun _ H' => Q .non H', rt := Q }) X.xe s1 := fun s1 J => by
        subst hX
        refine (ps_ost (f := "what") (pe_var (i := 0) (x := "self") rfl (Or.inl scR1)) (pe_var (i := 1) (x := "what") rfl (Or.inl scR2)) rfl).run [] s1 _ H _ J ?_
        exact ⟨_, rfl, _, rfl, a, rfA K, rfl, T.oex, T.noat, Or.inl ⟨ea, fun dx h1 h2 => hq dx h1 h2⟩⟩
      have two : defBody s_Refused_init = [(defBody s_Refused_init).getD 0 (.Pass ⟨0, 0, 0, 0⟩), (defBody s_Refused_init).getD 1 (.Pass ⟨0, 0, 0, 0⟩)] := by rfl
      have done : ∀ (fl : Flow) (s' : Shared), SP X [] { nx := fun _ H' => Q .non H', rt := Q } fl s' → CR CX0 outer P w H s Q E (.ok (.ret (match fl with | .ret v => v | _ => .none))) s' := fun fl s' hs' => by
        subst hX
        cases fl with
        | ret u =>
          obtain ⟨v, σ', H', J, rv, q⟩ := hs'
          exact ⟨v, H', J.os, J.bare, J.base, J.hok, rv, q⟩
        | next =>
          obtain ⟨σ', H', J, q⟩ := hs'
          exact ⟨V.non, H', J.os, J.bare, J.base, J.hok, rfl, q⟩
        | brk =>
          obtain ⟨_, _, _, q⟩ := hs'
          exact False.elim q
        | cont =>
          obtain ⟨_, _, _, q⟩ := hs'
          exact False.elim q
      have first : _root_.PySem.wpAt (model P w) X.A (.func (defBody s_Refused_init) X.env) (exec ((defBody s_Refused_init).getD 0 (.Pass ⟨0, 0, 0, 0⟩)) X.env) (fun fl s' => fl = .next ∧ Inv X [] (start rN [V.ref a, V.str z]) H s') X.xe { s with heap := h0, toks := s.toks + (rN.zip [u1, u2]).length } := by
        refine PySem.ks_wpAt_Expr_any ?_ (by subst hX; rfl) (by subst hX; rfl)
        exact rSuper T hs hX.symm I rfl ea hf hcode hvs hfile hcc (by subst hX; rfl) fun s' J => ⟨rfl, J⟩
      have main : _root_.PySem.wpAt (model P w) X.A (.func (defBody s_Refused_init) X.env) (execs (defBody s_Refused_init) X.env) (fun fl s' => CR CX0 outer P w H s Q E (.ok (.ret (match fl with | .ret v => v | _ => .none))) s') X.xe { s with heap := h0, toks := s.toks + (rN.zip [u1, u2]).length } := by
        conv in execs _ _ => rw [two]
        refine PySem.ks_wpAt_execs_cons (PySem.ks_wpAt_mono first (fun fl s' hs' => ?_) fun _ _ x => x)
        obtain ⟨rfl, J⟩ := hs'
        refine PySem.ks_wpAt_execs_cons (PySem.wpAt_of_wpAny (wpAny_mono (step s' J) (fun fl s2 h2 => ?_) fun _ _ x => x))
        cases fl with
        | next => exact PySem.wpAt_of_wpAny (wpAny_pure (done .next s2 h2))
        | ret u => exact done _ s2 h2
        | brk => exact done _ s2 h2
        | cont => exact done _ s2 h2
      subst hX
      exact main
theorem ref_kept (T : RefK P K) (hs : mg "super" = none) : Kept P w K mg base CX0 1 (rfI K) rN (spRef K) := by
  obtain ⟨oc, od, kV, doc, pm, ct, an, osl, cda, cc, ccl, cl, cdd, cld, vs0, ccs, csl, file, tf, hf, hci, hcode, hvs, hfile, hcc⟩ := T.lk
  exact ⟨T.keep, _, Binds.all (fun us hl => match us, hl with | [_, _], _ => rfl), ref_fn T hs hf hci hcode hvs hfile hcc⟩

/-! ### raise Refused(..), except Refused -/
/-- the further facts of the top: Refused's -/
structure Ext (P : Program) (K : PySem.W.Frag) : Prop where
  k : RefK P K
  exm : PySem.W.exmOne K (.ref (rfA K)) (.ref (rfA K)) = some true
def tRef (K : PySem.W.Frag) (z : Str) : L2.St → Hp → XK → Prop := fun _ H Q => ∀ d, H d = none → Q (.ref (rfA K)) (some d) (upd H d (.xd [("what", .str z)]))
theorem pmk_ref {X : Cx} {e : Expr} {z : Str} {p pos : Pos} (T : Txt X.K X.mg) (Y : Ext X.prog X.K) (hr : Room 2 X.A) (hg : Gl X "Refused") (ha : PE X e (tC (.str z)))
    (he : starEach [e] X.env = (false, eval e X.env) :: starEach [] X.env := by rfl) (hpl : (backTo pos (starEach [] X.env)).any (·.1) = false := by rfl) :
    PMk X (.Call (.Name "Refused" p) [e] [] pos) (tRef X.K z) := by
  obtain ⟨kp, fd, b, F⟩ := ref_kept (P := X.prog) (w := X.w) (base := X.base) Y.k (T.fr (x := "super") (by decide +kernel))
  intro pins s σ H Q I h
  refine (pmk_oex (ta := tCons (tC (.str z)) tNil) Y.k.oex Y.k.ini Y.k.fn F hr b .nil pass0 hg (T.g (x := "Refused") (by decide +kernel)) (pa_cons ha pa_nil he) (by decide) he hpl) pins s σ H Q I ?_
  refine ⟨by show 1 ≤ 1000; decide, fun a ha => ⟨a, z, rfl, upd_same, fun d hd hda => ⟨rfl, d, [("what", V.str z)], upd_same, ?_, ?_, ?_⟩⟩⟩
  · rw [upd_ne hda, upd_same]
  · rwa [upd_ne hda] at hd
  · have hd' : H d = none := by rwa [upd_ne hda] at hd
    have e : upd (del (upd (upd (upd H a (exo a (rfA X.K) none)) d (exd d [("what", .str z)])) a (exo a (rfA X.K) (some d))) a) d (.xd [("what", .str z)]) = upd H d (.xd [("what", .str z)]) := by
      funext b
      by_cases hb : b = d
      · rw [hb, upd_same, upd_same]
      · rw [upd_ne hb, upd_ne hb]
        by_cases hb2 : b = a
        · rw [hb2, del_same, ha]
        · rw [del_ne hb2, upd_ne hb2, upd_ne hb, upd_ne hb2]
    rw [e]
    exact h d hd'
end
/-- E is told of a Refused -/
def Refuses (K : PySem.W.Frag) (H : Hp) (E : XK) (z : Str) : Prop := ∀ d, H d = none → E (.ref (rfA K)) (some d) (upd H d (.xd [("what", .str z)]))
theorem takes_no {X : Cx} : Takes X (fun _ _ _ _ => False) := fun u s' x => by
  unfold XE at x
  obtain ⟨_, _, _, _, _, _, _, _, _, _, _, _, _, _, _, _, bad⟩ := x
  exact bad.elim
end Edge
/-! receive; Monitor; opened. -/
namespace Edge
open L2 PyProof.Rows PySem PySem.Spec
/-! ### a monitor -/
def monF (l ph : Int) (r sg : Addr) : List (PySem.Str × V) := [("limit", .int l), ("receiver", .ref r), ("phase", .int ph), ("signal", .ref sg)]
structure MonP (l poll pb : Int) : Prop where
  r : RecOk poll pb
  l0 : 0 ≤ l
  l1 : l ≤ 1000
structure MonAt (K : PySem.W.Frag) (H : Hp) (m r sg : Addr) (l poll pb ph : Int) (ts : List Int) : Prop where
  o : ∃ dx, H m = some (.ins (He.ga K "Monitor") dx (monF l ph r sg))
  s : H sg = some (.lst (ts.map V.int))
  t : SqT K H r [.int poll, .int pb]
  p : MonP l poll pb
theorem MonAt.ne {K : PySem.W.Frag} {H : Hp} {m r sg : Addr} {l poll pb ph : Int} {ts : List Int} (h : MonAt K H m r sg l poll pb ph ts) : m ≠ sg := fun e => by
  obtain ⟨dx, ho⟩ := h.o
  rw [e, h.s] at ho
  cases ho
theorem MonAt.same {K : PySem.W.Frag} {H H' : Hp} {m r sg : Addr} {l poll pb ph : Int} {ts : List Int} (h : MonAt K H m r sg l poll pb ph ts) (e : Same H H') : MonAt K H' m r sg l poll pb ph ts :=
  ⟨let ⟨dx, ho⟩ := h.o; ⟨dx, e _ _ ho⟩, e _ _ h.s, same_sqt e h.t, h.p⟩
/-- all else is as before -/
def Oth (sg : Addr) (H H' : Hp) : Prop := ∀ b o, H b = some o → b ≠ sg → H' b = some o
theorem oth_sqt {K : PySem.W.Frag} {H H' : Hp} {sg a : Addr} {xs ys : List V} (e : Oth sg H H') (hs : H sg = some (.lst ys)) (h : SqT K H a xs) : SqT K H' a xs := by
  have n : ∀ {o : HO}, H a = some o → o ≠ .lst ys → a ≠ sg := fun {o} h d z => by
    rw [z, hs] at h
    exact d (Option.some.inj h).symm
  rcases h with (h | ⟨fo, h⟩) | h
  · exact .inl (.inl (e _ _ h (n h (by intro z; cases z))))
  · exact .inl (.inr ⟨fo, e _ _ h (n h (by intro z; cases z))⟩)
  · exact .inr h
theorem MonAt.oth {K : PySem.W.Frag} {H H' : Hp} {m r sg : Addr} {l poll pb ph : Int} {ts us : List Int} (h : MonAt K H m r sg l poll pb ph ts) (e : Oth sg H H') (hs : H' sg = some (.lst (us.map V.int))) : MonAt K H' m r sg l poll pb ph us :=
  ⟨let ⟨dx, ho⟩ := h.o; ⟨dx, e _ _ ho h.ne⟩, hs, oth_sqt e h.s h.t, h.p⟩
/-! ### promises -/
def spReceive (K : PySem.W.Frag) : Sp := fun vs H Q _ => ∃ (r a : Addr) (l poll pb phase : Int) (sig : List Int), vs = [.int l, .ref r, .int phase, .ref a] ∧ SqT K H r [.int poll, .int pb] ∧ MonP l poll pb ∧ SqL K H a (sig.map V.int) ∧ sig.length ≤ 1000 ∧
  NewTexts H Q (readG l (rgaps poll pb phase sig))
def spDetTime (K : PySem.W.Frag) : Sp := fun vs H Q _ => ∃ (r : Addr) (poll pb ph n : Int), vs = [.ref r, .int ph, .int n] ∧ SqT K H r [.int poll, .int pb] ∧ CMul n poll ∧ Q (.int (ph + n * poll)) H
def spMonInit (K : PySem.W.Frag) : Sp := fun vs H Q _ => ∃ (m dx r : Addr) (l ph : Int), vs = [.ref m, .int l, .ref r, .int ph] ∧ H m = some (.ins (He.ga K "Monitor") dx []) ∧
  ∀ H' sg, H sg = none → H' m = some (.ins (He.ga K "Monitor") dx (monF l ph r sg)) → H' sg = some (.lst []) → (∀ b o, H b = some o → b ≠ m → H' b = some o) → Q .non H'
def spMonCount (K : PySem.W.Frag) : Sp := fun vs H Q _ => ∃ (m r sg : Addr) (l poll pb ph : Int) (ts : List Int), vs = [.ref m] ∧ MonAt K H m r sg l poll pb ph ts ∧ Q (.int (ts.length : Nat)) H
def spMonGaps (K : PySem.W.Frag) : Sp := fun vs H Q _ => ∃ (m r sg : Addr) (l poll pb ph : Int) (ts : List Int), vs = [.ref m] ∧ MonAt K H m r sg l poll pb ph ts ∧ ts.length ≤ 1000 ∧ NewInts H Q (rgaps poll pb ph ts)
def spMonPays (K : PySem.W.Frag) : Sp := fun vs H Q _ => ∃ (m r sg : Addr) (l poll pb ph : Int) (ts : List Int), vs = [.ref m] ∧ MonAt K H m r sg l poll pb ph ts ∧ ts.length ≤ 1000 ∧ NewTexts H Q (readG l (rgaps poll pb ph ts))
def spMonEdges (K : PySem.W.Frag) : Sp := fun vs H Q _ => ∃ (m r sg : Addr) (l poll pb ph : Int) (ts : List Int), vs = [.ref m] ∧ MonAt K H m r sg l poll pb ph ts ∧ NewInts H Q ts
def Later (ts : List Int) (t : Int) : Prop := ∀ y, ts.getLast? = some y → y < t
def spMonEdge (K : PySem.W.Frag) : Sp := fun vs H Q E => ∃ (m r sg : Addr) (l poll pb ph t : Int) (ts : List Int), vs = [.ref m, .int t] ∧ MonAt K H m r sg l poll pb ph ts ∧ ts.length ≤ 256 ∧
  (ts.length = 256 → Refuses K H E "too many edges") ∧ (ts.length < 256 → ¬ Later ts t → Refuses K H E "edge is not later") ∧
  (ts.length < 256 → Later ts t → ∀ H' n, H' sg = some (.lst ((ts ++ [t]).map V.int)) → Oth sg H H' → Q (.int n) H')
def spMonUndo (K : PySem.W.Frag) : Sp := fun vs H Q _ => ∃ (m r sg : Addr) (l poll pb ph t : Int) (ts : List Int), vs = [.ref m] ∧ MonAt K H m r sg l poll pb ph (ts ++ [t]) ∧ Q (.int t) (upd H sg (.lst (ts.map V.int)))
def spMonFeed (K : PySem.W.Frag) : Sp := fun vs H Q _ => ∃ (m r sg a : Addr) (l poll pb ph : Int) (ts us : List Int), vs = [.ref m, .ref a] ∧ MonAt K H m r sg l poll pb ph ts ∧ ts.length ≤ 256 ∧ H a = some (.lst (us.map V.int)) ∧ a ≠ sg ∧
  ∀ (H' : Hp) (n : Nat), n ≤ us.length → (∀ j t, j < n → us[j]? = some t → (ts ++ us.take j).length < 256 ∧ Later (ts ++ us.take j) t) → (∀ t, us[n]? = some t → ¬ ((ts ++ us.take n).length < 256 ∧ Later (ts ++ us.take n) t)) →
    H' sg = some (.lst ((ts ++ us.take n).map V.int)) → Oth sg H H' → Q (.int (n : Nat)) H'
section
variable {P : Program} {w : World} {K : PySem.W.Frag} {mg : PySem.Str → Option Value} {base : Heap}
theorem ok_receive (T : Txt K mg) : Kept P w K mg base CX0 4 (He.ga K "receive") ["limit", "receiver", "phase", "signal"] (spReceive K) := by
  refine kept0 (T.fn in_receive) sc_receive b_receive (fun vs H Q E h => ?_) (fun cdv A outer s H vs Q E hr h => ?_)
  · obtain ⟨r, a, l, poll, pb, phase, sig, rfl, _⟩ := h
    rfl
  · obtain ⟨r, a, l, poll, pb, phase, sig, rfl, hR, M, hS, hlen, k⟩ := h
    refine ⟨_, (pss_one (ps_ret (pc (ok_read_gaps T) (hr.mono (by decide)) (by rfl) (T.g (x := "read_gaps") (by decide +kernel)) (pa_cons (pv 0) (pa_cons (pc (ok_received_gaps T) (hr.mono (by decide)) (by rfl) (T.g (x := "received_gaps") (by decide +kernel)) (pa_cons (pv 1) (pa_cons (pv 2) (pa_cons (pv 3) pa_nil)))) pa_nil))))), ?_⟩
    refine ⟨_, rfl, _, rfl, _, rfl, _, rfl, r, a, poll, pb, phase, sig, rfl, hR, M.r, hS, hlen, fun H1 p e1 np hp => ?_⟩
    refine ⟨p, l, _, rfl, SqL.of hp, ?_, M.l0, M.l1, fun H2 q e2 nq hq => ?_⟩
    · exact Nat.le_trans (gapsOf_len _ _) (Nat.le_trans (polls_len _ _ _) hlen)
    · exact k H2 q (e1.trans e2) (e1.free nq) hq
theorem ok_detection_time (T : Txt K mg) : Kept P w K mg base CX0 1 (He.ga K "detection_time") ["receiver", "phase", "number"] (spDetTime K) := by
  refine kept0 (T.fn in_detection_time) sc_detection_time b_detection_time (fun vs H Q E h => ?_) (fun cdv A outer s H vs Q E hr h => ?_)
  · obtain ⟨r, poll, pb, ph, n, rfl, _⟩ := h
    rfl
  · obtain ⟨r, poll, pb, ph, n, rfl, hR, hc, k⟩ := h
    refine ⟨_, (pss_one (ps_ret (pe_op op_add (pv 1) (pe_op op_mul (pv 2) (pe_ix ix_tup (pv 0) pe_int (fun _ _ => rfl)))))), ?_⟩
    exact ⟨_, rfl, _, rfl, _, rfl, r, _, _, _, rfl, rfl, hR, rfl, _, _, rfl, rfl, hc, _, _, rfl, rfl, k⟩
theorem ok_Monitor_init (T : Txt K mg) : Kept P w K mg base CX0 1 (He.ma K (He.ga K "Monitor") "__init__") ["self", "limit", "receiver", "phase"] (spMonInit K) := by
  refine kept0 (T.fn in_Monitor_init) sc_Monitor_init b_Monitor_init (fun vs H Q E h => ?_) (fun cdv A outer s H vs Q E hr h => ?_)
  · obtain ⟨m, dx, r, l, ph, rfl, _⟩ := h
    rfl
  · obtain ⟨m, dx, r, l, ph, rfl, hp, k⟩ := h
    have C := T.cl (x := "Monitor") (by decide +kernel)
    refine ⟨_, (pss_cons (ps_fld (pv 0) (pv 1) rfl)
      (pss_cons (ps_fld (pv 0) (pv 2) rfl)
      (pss_cons (ps_fld (pv 0) (pv 3) rfl)
      (pss_one (ps_fld (pv 0) (pe_lst pa_nil) rfl))))), ?_⟩
    refine ⟨_, rfl, _, rfl, m, _, dx, _, rfl, hp, C, T.na (by decide +kernel), (by show 0 < 1000; decide), ?_⟩
    refine ⟨_, rfl, _, rfl, m, _, dx, _, rfl, upd_same, C, T.na (by decide +kernel), (by show 1 < 1000; decide), ?_⟩
    refine ⟨_, rfl, _, rfl, m, _, dx, _, rfl, upd_same, C, T.na (by decide +kernel), (by show 2 < 1000; decide), ?_⟩
    refine ⟨Nat.zero_le _, fun q nq => ?_⟩
    have nq0 : H q = none := by
      by_cases e : q = m
      · rw [e, upd_same] at nq
        cases nq
      · rw [upd_ne e, upd_ne e, upd_ne e] at nq
        exact nq
    have npq : m ≠ q := ne_of_none hp nq0
    refine ⟨_, rfl, m, _, dx, _, rfl, (upd_ne npq).trans upd_same, C, T.na (by decide +kernel), (by show 3 < 1000; decide), ?_⟩
    refine k _ q nq0 upd_same ?_ fun b o e hb => ?_
    · rw [upd_ne npq.symm, upd_same]
    · rw [upd_ne hb, upd_ne (ne_of_none e nq0), upd_ne hb, upd_ne hb, upd_ne hb]
      exact e
theorem ok_Monitor_edge_count (T : Txt K mg) : Kept P w K mg base CX0 1 (He.ma K (He.ga K "Monitor") "edge_count") ["self"] (spMonCount K) := by
  refine kept0 (T.fn in_Monitor_edge_count) sc_Monitor_edge_count b_Monitor_edge_count (fun vs H Q E h => ?_) (fun cdv A outer s H vs Q E hr h => ?_)
  · obtain ⟨m, r, sg, l, poll, pb, ph, ts, rfl, _⟩ := h
    rfl
  · obtain ⟨m, r, sg, l, poll, pb, ph, ts, rfl, M, k⟩ := h
    have C := T.cl (x := "Monitor") (by decide +kernel)
    obtain ⟨dx, ho⟩ := M.o
    refine ⟨_, (pss_one (ps_ret (pe_callB call_len_seq (by rfl) (T.fr (x := "len") (by decide +kernel)) PySem.boot_len (pa_cons (pe_fld (pv 0) rfl) pa_nil)))), ?_⟩
    refine ⟨_, rfl, m, _, dx, _, _, rfl, ho, C, T.na (by decide +kernel), rfl, sg, _, rfl, .inl (SqL.of M.s), ?_⟩
    rw [List.length_map]
    exact k
theorem ok_Monitor_edges (T : Txt K mg) : Kept P w K mg base CX0 1 (He.ma K (He.ga K "Monitor") "edges") ["self"] (spMonEdges K) := by
  refine kept0 (T.fn in_Monitor_edges) sc_Monitor_edges b_Monitor_edges (fun vs H Q E h => ?_) (fun cdv A outer s H vs Q E hr h => ?_)
  · obtain ⟨m, r, sg, l, poll, pb, ph, ts, rfl, _⟩ := h
    rfl
  · obtain ⟨m, r, sg, l, poll, pb, ph, ts, rfl, M, k⟩ := h
    have C := T.cl (x := "Monitor") (by decide +kernel)
    obtain ⟨dx, ho⟩ := M.o
    refine ⟨_, (pss_one (ps_ret (pe_callTy call_list_of (by rfl) (T.fr (x := "list") (by decide +kernel)) (by decide +kernel) (pa_cons (pe_fld (pv 0) rfl) pa_nil)))), ?_⟩
    refine ⟨_, rfl, m, _, dx, _, _, rfl, ho, C, T.na (by decide +kernel), rfl, sg, _, rfl, .inl (SqL.of M.s), fun q nq => ?_⟩
    exact k _ q (same_put (Same.refl H) nq) nq upd_same
theorem ok_Monitor_gaps (T : Txt K mg) : Kept P w K mg base CX0 4 (He.ma K (He.ga K "Monitor") "gaps") ["self"] (spMonGaps K) := by
  refine kept0 (T.fn in_Monitor_gaps) sc_Monitor_gaps b_Monitor_gaps (fun vs H Q E h => ?_) (fun cdv A outer s H vs Q E hr h => ?_)
  · obtain ⟨m, r, sg, l, poll, pb, ph, ts, rfl, _⟩ := h
    rfl
  · obtain ⟨m, r, sg, l, poll, pb, ph, ts, rfl, M, hlen, k⟩ := h
    have C := T.cl (x := "Monitor") (by decide +kernel)
    obtain ⟨dx, ho⟩ := M.o
    refine ⟨_, (pss_one (ps_ret (pc (ok_received_gaps T) (hr.mono (by decide)) (by rfl) (T.g (x := "received_gaps") (by decide +kernel)) (pa_cons (pe_fld (pv 0) rfl) (pa_cons (pe_fld (pv 0) rfl) (pa_cons (pe_fld (pv 0) rfl) pa_nil)))))), ?_⟩
    refine ⟨_, rfl, m, _, dx, _, _, rfl, ho, C, T.na (by decide +kernel), rfl, _, rfl, m, _, dx, _, _, rfl, ho, C, T.na (by decide +kernel), rfl, _, rfl, m, _, dx, _, _, rfl, ho, C, T.na (by decide +kernel), rfl, ?_⟩
    exact ⟨r, sg, poll, pb, ph, ts, rfl, M.t, M.p.r, SqL.of M.s, hlen, k⟩
theorem ok_Monitor_payloads (T : Txt K mg) : Kept P w K mg base CX0 5 (He.ma K (He.ga K "Monitor") "payloads") ["self"] (spMonPays K) := by
  refine kept0 (T.fn in_Monitor_payloads) sc_Monitor_payloads b_Monitor_payloads (fun vs H Q E h => ?_) (fun cdv A outer s H vs Q E hr h => ?_)
  · obtain ⟨m, r, sg, l, poll, pb, ph, ts, rfl, _⟩ := h
    rfl
  · obtain ⟨m, r, sg, l, poll, pb, ph, ts, rfl, M, hlen, k⟩ := h
    have C := T.cl (x := "Monitor") (by decide +kernel)
    obtain ⟨dx, ho⟩ := M.o
    refine ⟨_, (pss_one (ps_ret (pc (ok_receive T) (hr.mono (by decide)) (by rfl) (T.g (x := "receive") (by decide +kernel)) (pa_cons (pe_fld (pv 0) rfl) (pa_cons (pe_fld (pv 0) rfl) (pa_cons (pe_fld (pv 0) rfl) (pa_cons (pe_fld (pv 0) rfl) pa_nil))))))), ?_⟩
    refine ⟨_, rfl, m, _, dx, _, _, rfl, ho, C, T.na (by decide +kernel), rfl, _, rfl, m, _, dx, _, _, rfl, ho, C, T.na (by decide +kernel), rfl, _, rfl, m, _, dx, _, _, rfl, ho, C, T.na (by decide +kernel), rfl, _, rfl, m, _, dx, _, _, rfl, ho, C, T.na (by decide +kernel), rfl, ?_⟩
    exact ⟨r, sg, l, poll, pb, ph, ts, rfl, M.t, M.p, SqL.of M.s, hlen, k⟩
theorem ok_Monitor_undo (T : Txt K mg) : Kept P w K mg base CX0 4 (He.ma K (He.ga K "Monitor") "undo") ["self"] (spMonUndo K) := by
  refine kept0 (T.fn in_Monitor_undo) sc_Monitor_undo b_Monitor_undo (fun vs H Q E h => ?_) (fun cdv A outer s H vs Q E hr h => ?_)
  · obtain ⟨m, r, sg, l, poll, pb, ph, t, ts, rfl, _⟩ := h
    rfl
  · obtain ⟨m, r, sg, l, poll, pb, ph, t, ts, rfl, M, k⟩ := h
    have C := T.cl (x := "Monitor") (by decide +kernel)
    obtain ⟨dx, ho⟩ := M.o
    refine ⟨_, (pss_cons (ps_if (pt_not (pt_truth (pe_fld (pv 0) rfl) (by intro _; rfl))) (pss_one ps_never) pss_nil)
      (pss_one (ps_ret (pe_bm0 PySem.F.plainAttrs_list PySem.F.slot_list_pop PySem.F.type_list_pop mt_pop (pe_fld (pv 0) rfl))))), ?_⟩
    refine ⟨_, rfl, m, _, dx, _, _, rfl, ho, C, T.na (by decide +kernel), rfl, true, .inl ⟨_, SqL.of M.s, by simp⟩, iteF ?_⟩
    refine ⟨_, rfl, m, _, dx, _, _, rfl, ho, C, T.na (by decide +kernel), rfl, .inl ⟨rfl, _, SqL.of M.s⟩, sg, _, V.int t, rfl, rfl, M.s, by simp, ?_⟩
    have e : (((ts ++ [t]).map V.int)).dropLast = ts.map V.int := by simp
    rw [e]
    exact k
theorem ok_Monitor_edge (T : Txt K mg) (Y : Ext P K) : Kept P w K mg base (L2.CX P w) 6 (He.ma K (He.ga K "Monitor") "edge") ["self", "time"] (spMonEdge K) := by
  refine keptX (T.fn in_Monitor_edge) sc_Monitor_edge b_Monitor_edge (fun vs H Q E h => ?_) (fun cdv A outer s H vs Q E hr h => ?_)
  · obtain ⟨m, r, sg, l, poll, pb, ph, t, ts, rfl, _⟩ := h
    rfl
  · obtain ⟨m, r, sg, l, poll, pb, ph, t, ts, rfl, M, hlen, kF, kR, kA⟩ := h
    have C := T.cl (x := "Monitor") (by decide +kernel)
    obtain ⟨dx, ho⟩ := M.o
    refine ⟨_, (pss_cons (ps_if (pt_cmpR op_ge (pe_callB call_len_seq (by rfl) (T.fr (x := "len") (by decide +kernel)) PySem.boot_len (pa_cons (pe_fld (pv 0) rfl) pa_nil)) (pgi rfl (T.ci (x := "EDGES_MOST") (i := 256) (by decide +kernel))) (nomark _)) (pss_one (ps_raise rfl (takes_of rfl rfl rfl rfl) (pmk_ref T Y (hr.mono (by decide)) (by rfl) pe_str))) pss_nil)
      (pss_cons (ps_if (PW.pt (pw_and (pt_truth (pe_fld (pv 0) rfl) (by intro _; rfl)) (pw_and1 (pt_cmpR op_le (pv 1) (pe_ix ix_list (pe_fld (pv 0) rfl) (pe_un un_neg pe_int) (fun _ _ => rfl)) (nomark _))))) (pss_one (ps_raise rfl (takes_of rfl rfl rfl rfl) (pmk_ref T Y (hr.mono (by decide)) (by rfl) pe_str))) pss_nil)
      (pss_cons (ps_expr (pe_bm PySem.F.plainAttrs_list PySem.F.slot_list_append PySem.F.type_list_append mt_append (pe_fld (pv 0) rfl) (pa_cons (pv 1) pa_nil)))
      (pss_one (ps_ret (pe_callB call_len_seq (by rfl) (T.fr (x := "len") (by decide +kernel)) PySem.boot_len (pa_cons (pm0 (ok_Monitor_payloads T) (T.cl (x := "Monitor") (by decide +kernel)) (T.me (x := "Monitor") (m := "payloads") (by decide +kernel)) (hr.mono (by decide)) (pv 0)) pa_nil))))))), ?_⟩
    refine ⟨_, rfl, m, _, dx, _, _, rfl, ho, C, T.na (by decide +kernel), rfl, sg, _, rfl, .inl (SqL.of M.s), _, _, rfl, rfl, _, rfl, ?_⟩
    rw [List.length_map]
    refine ite2 (fun c => ?_) (fun c => ?_)
    · have c1 : (256 : Int) ≤ (ts.length : Nat) := by simpa using c
      exact kF (by omega)
    · have c1 : ¬ (256 : Int) ≤ (ts.length : Nat) := by simpa using c
      have c2 : ts.length < 256 := by omega
      have app : Later ts t → tSeq (tDrop (tBM K "list" rAppend (tFld K (tVar 0) "signal") (tCons (tVar 1) tNil))) (tRet (tCB (fun xs H Q => ∃ p ys, xs = [.ref p] ∧ (SqL K H p ys ∨ SqT K H p ys) ∧ Q (.int ys.length) H) (tCons (tMeth (He.ga K "Monitor") "payloads" (spMonPays K) [] E0 (tVar 0) tNil) tNil))) { nx := fun _ H' => Q .non H', rt := Q, bk := fun _ _ => False, ct := fun _ _ => False } [some (.ref m), some (.int t)] H := fun hL => by
        refine ⟨_, rfl, m, _, dx, _, _, rfl, ho, C, T.na (by decide +kernel), rfl, .inl ⟨rfl, _, SqL.of M.s⟩, _, rfl, sg, _, _, rfl, rfl, M.s, (by rw [List.length_map]; exact small1000 (by omega)), ?_⟩
        have oth : Oth sg H (upd H sg (.lst (ts.map V.int ++ [V.int t]))) := fun b o e hb => by rw [upd_ne hb]; exact e
        have hs1 : upd H sg (.lst (ts.map V.int ++ [V.int t])) sg = some (.lst ((ts ++ [t]).map V.int)) := by rw [upd_same, List.map_append]; rfl
        have M1 := M.oth oth hs1
        obtain ⟨dx1, ho1⟩ := M1.o
        refine ⟨_, rfl, m, dx1, _, rfl, ho1, rfl, m, r, sg, l, poll, pb, ph, _, rfl, M1, by rw [List.length_append]; show ts.length + 1 ≤ 1000; omega, fun H2 q e2 nq hq => ?_⟩
        exact ⟨q, _, rfl, .inl (SqL.of hq), kA c2 hL H2 _ (e2 _ _ hs1) fun b o e hb => e2 _ _ (oth b o e hb)⟩
      rcases snoc_cases ts with rfl | ⟨xs, y, rfl⟩
      · refine ⟨_, rfl, m, _, dx, _, _, rfl, ho, C, T.na (by decide +kernel), rfl, false, .inl ⟨_, SqL.of M.s, rfl⟩, iteF (iteF ?_)⟩
        exact app fun y hy => by cases hy
      · have hl : (xs ++ [y]).getLast? = some y := by simp
        have hms := M.s
        rw [List.map_append] at hms
        have ha : atI (xs.map V.int ++ [V.int y]) (-1) = some (V.int y) := atI_last _ _
        refine ⟨_, rfl, m, _, dx, _, _, rfl, ho, C, T.na (by decide +kernel), rfl, true, .inl ⟨_, SqL.of M.s, by simp⟩, iteT ?_⟩
        refine ⟨_, rfl, _, rfl, m, _, dx, _, _, rfl, ho, C, T.na (by decide +kernel), rfl, 1, rfl, sg, _, _, _, rfl, rfl, SqL.of hms, ha, _, _, rfl, rfl, _, rfl, ?_⟩
        refine ite2 (fun c => ?_) (fun c => ?_)
        · have c3 : t ≤ y := by simpa using c
          exact kR c2 fun hL => by have := hL y hl; omega
        · have c3 : ¬ t ≤ y := by simpa using c
          exact app fun z hz => by rw [hl] at hz; cases hz; omega
end
end Edge
/-! feed, history, state, opened; the law's words of a monitor. -/
namespace Edge
open L2 PyProof.Rows PySem PySem.Spec
/-! ### lists of tuples of ints -/
def Tups (H : Hp) (vs : List V) (ls : List (List Int)) : Prop := vs.length = ls.length ∧ ∀ (i : Nat) (l : List Int), ls[i]? = some l → ∃ q : Addr, vs[i]? = some (V.ref q) ∧ H q = some (.tup (l.map V.int))
def KeepT (H H' : Hp) : Prop := ∀ b xs, H b = some (.tup xs) → H' b = some (.tup xs)
theorem Tups.keep {H H' : Hp} {vs : List V} {ls : List (List Int)} (h : Tups H vs ls) (k : KeepT H H') : Tups H' vs ls :=
  ⟨h.1, fun i l e => let ⟨q, a, b⟩ := h.2 i l e; ⟨q, a, k _ _ b⟩⟩
theorem keepT_same {H H' : Hp} (e : Same H H') : KeepT H H' := fun b xs h => e b _ h
theorem keepT_put {H H' : Hp} {p : Addr} {ys zs : List V} (k : KeepT H H') (hp : H' p = some (.lst ys)) : KeepT H (upd H' p (.lst zs)) := fun b xs h => by
  have h2 := k b xs h
  rw [upd_ne (fun e => by rw [e, hp] at h2; cases h2)]
  exact h2
theorem Tups.nil {H : Hp} : Tups H [] [] := ⟨rfl, fun i l e => by cases e⟩
theorem Tups.push {H : Hp} {vs : List V} {ls : List (List Int)} {l : List Int} {q : Addr} (h : Tups H vs ls) (hq : H q = some (.tup (l.map V.int))) : Tups H (vs ++ [.ref q]) (ls ++ [l]) := by
  refine ⟨by rw [List.length_append, List.length_append, h.1]; rfl, fun i k e => ?_⟩
  by_cases hi : i < ls.length
  · rw [List.getElem?_append_left hi] at e
    obtain ⟨q2, a, b⟩ := h.2 i k e
    exact ⟨q2, by rw [List.getElem?_append_left (by rw [h.1]; exact hi)]; exact a, b⟩
  · rw [List.getElem?_append_right (by omega)] at e
    have e0 : i - ls.length = 0 := by
      cases hj : i - ls.length with
      | zero => rfl
      | succ j => rw [hj] at e; cases e
    rw [e0] at e
    obtain rfl : l = k := Option.some.inj e
    exact ⟨q, by rw [List.getElem?_append_right (by rw [h.1]; omega), h.1, e0]; rfl, hq⟩
theorem dp_ints {K : PySem.W.Frag} {H : Hp} : ∀ ns : List Int, DpAll K H (ns.map V.int) (ns.map PyData.int)
  | [] => .nil
  | n :: ns => .cons (.int n) (dp_ints ns)
theorem dp_strs {K : PySem.W.Frag} {H : Hp} : ∀ ns : List PySem.Str, DpAll K H (ns.map V.str) (ns.map PyData.str)
  | [] => .nil
  | n :: ns => .cons (.str n) (dp_strs ns)
def tupD (l : List Int) : PyData := .tuple (l.map PyData.int)
theorem Tups.dp {K : PySem.W.Frag} {H : Hp} : ∀ {vs : List V} {ls : List (List Int)}, Tups H vs ls → DpAll K H vs (ls.map tupD)
  | [], [], _ => .nil
  | [], l :: ls, h => by cases h.1
  | v :: vs, [], h => by cases h.1
  | v :: vs, l :: ls, h => by
    obtain ⟨q, a, b⟩ := h.2 0 l rfl
    obtain rfl : v = .ref q := Option.some.inj a
    refine .cons (.tup (SqT.of b) (dp_ints l)) (Tups.dp ⟨Nat.succ.inj h.1, fun i k e => ?_⟩)
    exact h.2 (i + 1) k e
/-! ### promises -/
def histL (l poll pb ph : Int) (ts : List Int) : List (List Int) := (List.range ts.length).map fun i => [ts.getD i 0, (((readG l (rgaps poll pb ph (ts.take (i + 1)))).length : Nat) : Int)]
def spMonHist (K : PySem.W.Frag) : Sp := fun vs H Q _ => ∃ (m r sg : Addr) (l poll pb ph : Int) (ts : List Int), vs = [.ref m] ∧ MonAt K H m r sg l poll pb ph ts ∧ ts.length ≤ 1000 ∧
  ∀ H' p us, Same H H' → H p = none → H' p = some (.lst us) → Tups H' us (histL l poll pb ph ts) → Q (.ref p) H'
def spMonState (K : PySem.W.Frag) : Sp := fun vs H Q _ => ∃ (m r sg : Addr) (l poll pb ph : Int) (ts : List Int), vs = [.ref m] ∧ MonAt K H m r sg l poll pb ph ts ∧
  ∀ H' p q, Same H H' → H' p = some (.tup [.int l, .ref r, .int ph, .ref q]) → H' q = some (.tup (ts.map V.int)) → Q (.ref p) H'
def spOpened (K : PySem.W.Frag) : Sp := fun vs H Q _ => ∃ (p q r : Addr) (l poll pb ph : Int) (ts : List Int), vs = [.ref p] ∧ H p = some (.tup [.int l, .ref r, .int ph, .ref q]) ∧ H q = some (.tup (ts.map V.int)) ∧ SqT K H r [.int poll, .int pb] ∧ MonP l poll pb ∧
  ∀ H' m sg, Same H H' → MonAt K H' m r sg l poll pb ph ts → Q (.ref m) H'
def spLawEdge (K : PySem.W.Frag) : Sp := fun vs H Q _ => ∃ (m r sg : Addr) (l poll pb ph t : Int) (ts : List Int), vs = [.ref m, .int t] ∧ MonAt K H m r sg l poll pb ph ts ∧ ts.length ≤ 256 ∧ ¬ (ts.length < 256 ∧ Later ts t) ∧
  (ts.length = 256 → ∀ H', Same H H' → Q (.str "too many edges") H') ∧ (ts.length < 256 → ∀ H', Same H H' → Q (.str "edge is not later") H')
/-- a new list of rows -/
def NewRows (K : PySem.W.Frag) (H : Hp) (Q : VK) (d : PyData) : Prop := ∀ (H' : Hp) (p : Addr) (rows : List Addr), Same H H' → H p = none → H' p = some (.lst (rows.map V.ref)) → (∀ r ∈ rows, H r = none ∧ r ≠ p ∧ ∃ xs, H' r = some (.lst xs) ∧ xs.length ≤ 10000) → rows.length ≤ 10 →
  Dp K H' (.ref p) d → Q (.ref p) H'
def monD (l poll pb ph : Int) (ts : List Int) : PyData :=
  .list [.list (ts.map PyData.int), .list ((rgaps poll pb ph ts).map PyData.int), .list ((readG l (rgaps poll pb ph ts)).map PyData.str), .list ((histL l poll pb ph ts).map tupD)]
def spOfMon (K : PySem.W.Frag) : Sp := fun vs H Q _ => ∃ (m r sg : Addr) (l poll pb ph : Int) (ts : List Int), vs = [.ref m] ∧ MonAt K H m r sg l poll pb ph ts ∧ ts.length ≤ 1000 ∧ NewRows K H Q (monD l poll pb ph ts)
def spChanged : Sp := fun vs H Q _ => ∃ (p : Addr) (rows : List Addr), vs = [.ref p] ∧ H p = some (.lst (rows.map V.ref)) ∧ (∀ r ∈ rows, r ≠ p ∧ ∃ xs, H r = some (.lst xs) ∧ xs.length ≤ 10000) ∧ rows.length ≤ 10 ∧
  ∀ H', (∀ b o, H b = some o → b ∉ rows → H' b = some o) → Q .non H'
section
variable {P : Program} {w : World} {K : PySem.W.Frag} {mg : PySem.Str → Option Value} {base : Heap}
theorem ok_Monitor_feed (T : Txt K mg) (Y : Ext P K) : Kept P w K mg base CX0 7 (He.ma K (He.ga K "Monitor") "feed") ["self", "times"] (spMonFeed K) := by
  refine kept0 (T.fn in_Monitor_feed) sc_Monitor_feed b_Monitor_feed (fun vs H Q E h => ?_) (fun cdv A outer s H vs Q E hr h => ?_)
  · obtain ⟨m, r, sg, a, l, poll, pb, ph, ts, us, rfl, _⟩ := h
    rfl
  · obtain ⟨m, r, sg, a, l, poll, pb, ph, ts, us, rfl, M, hlen, hA, hne, k⟩ := h
    have C := T.cl (x := "Monitor") (by decide +kernel)
    refine ⟨_, (pss_cons (ps_set (i := 2) sc_Monitor_feed.nd rfl (Or.inl rfl) pe_int)
      (pss_cons (ps_for PassesOwn.never rfl (pi_list (pv 1)) (pg_name (i := 3) sc_Monitor_feed.nd rfl (Or.inl rfl)) (pss_cons (ps_try_only rfl rfl ⟨by rfl, by decide, .inl (T.g (x := "Refused") (by decide +kernel))⟩ takes_no (fun W pn xe tk pw => (pss_one (ps_expr (pms (ok_Monitor_edge T Y) (T.cl (x := "Monitor") (by decide +kernel)) (T.me (x := "Monitor") (m := "edge") (by decide +kernel)) (hr.mono (by decide)) (fun σ => passAt tk σ) (pv 0) (pa_cons (pv 3) pa_nil))))) (fun a oe cls d pn hz hf => (pss_one (ps_ret (pv 2)))))
      (pss_one (ps_aug (i := 2) sc_Monitor_feed.nd rfl (Or.inl rfl) pe_int ip_add))))
      (pss_one (ps_ret (pv 2))))), ?_⟩
    refine ⟨_, rfl, a, rfl, ⟨_, SqL.of hA⟩, for_list (K := K) (a := a) (xs := us.map V.int) (fun i σ H' => ∃ v : Option V, σ = [some (.ref m), some (.ref a), some (.int (i : Nat)), v] ∧ Oth sg H H' ∧ H' sg = some (.lst ((ts ++ us.take i).map V.int)) ∧
        (ts ++ us.take i).length ≤ 256 ∧ ∀ j t, j < i → us[j]? = some t → (ts ++ us.take j).length < 256 ∧ Later (ts ++ us.take j) t)
      ⟨none, rfl, fun b o e _ => e, by rw [List.take_zero, List.append_nil]; exact M.s, by rw [List.take_zero, List.append_nil]; exact hlen, fun j t hj => absurd hj (Nat.not_lt_zero _)⟩ (fun i σ H' _ ⟨_, _, e, _⟩ => SqL.of (e _ _ hA hne)) ?_ ?_⟩
    · rintro i y σ H' hi ⟨v, rfl, e, hs, hl, hacc⟩
      obtain ⟨z, hz, rfl⟩ := int_at hi
      have M1 := M.oth e hs
      obtain ⟨dx1, ho1⟩ := M1.o
      have more := take_more hz
      have hi2 : i < us.length := (List.getElem?_eq_some_iff.mp hz).1
      refine ⟨_, rfl, ?_⟩
      have ref : ¬ ((ts ++ us.take i).length < 256 ∧ Later (ts ++ us.take i) z) → ∀ msg : PySem.Str, ∀ d, H' d = none → Q (.int (i : Nat)) (upd H' d (.xd [("what", .str msg)])) := fun hno msg d nd => by
        have e1 : Same H' (upd H' d (.xd [("what", .str msg)])) := same_put (Same.refl H') nd
        exact k _ i (Nat.le_of_lt hi2) hacc (fun t ht => by rw [hz] at ht; cases ht; exact hno) (e1 _ _ hs) fun b o eb hb => e1 _ _ (e b o eb hb)
      refine ⟨m, dx1, _, rfl, ho1, rfl, _, rfl, m, r, sg, l, poll, pb, ph, z, _, rfl, M1, hl, fun hf d nd => ⟨true, Y.exm, fun _ a2 ha2 => ⟨_, rfl, ref (fun h => by omega) _ d nd⟩, fun h => by cases h⟩,
        fun hlt hL d nd => ⟨true, Y.exm, fun _ a2 ha2 => ⟨_, rfl, ref (fun h => hL h.2) _ d nd⟩, fun h => by cases h⟩, fun hlt hL H2 n h2 o2 => ?_⟩
      refine ⟨_, rfl, _, _, rfl, rfl, some (.int z), ?_, fun b o eb hb => o2 b o (e b o eb hb) hb, by rw [more, ← List.append_assoc]; exact h2, ?_, fun j t hj ht => ?_⟩
      · rfl
      · rw [more, ← List.append_assoc, List.length_append]
        show _ + 1 ≤ 256
        omega
      · by_cases hj2 : j < i
        · exact hacc j t hj2 ht
        · have ej : j = i := by omega
          subst ej
          rw [hz] at ht
          cases ht
          exact ⟨hlt, hL⟩
    · rintro σ H' ⟨v, rfl, e, hs, hl, hacc⟩
      rw [List.length_map] at hacc hs
      have e0 : us.length = (us.map V.int).length := (List.length_map _).symm
      refine ⟨_, rfl, ?_⟩
      show Q (V.int (((us.map V.int).length : Nat) : Int)) H'
      rw [← e0]
      exact k H' us.length (Nat.le_refl _) hacc (fun t ht => by rw [List.getElem?_eq_none (Nat.le_refl _)] at ht; cases ht) hs e
end
end Edge
/-! history, state, opened, the law's words of a monitor. -/
namespace Edge
open L2 PyProof.Rows PySem PySem.Spec
theorem histL_len (l poll pb ph : Int) (ts : List Int) : (histL l poll pb ph ts).length = ts.length := by
  unfold histL
  simp only [List.length_range, List.length_map]
def histN (l poll pb ph : Int) (ts : List Int) (n : Nat) : List (List Int) := (List.range n).map fun i => [ts.getD i 0, (((readG l (rgaps poll pb ph (ts.take (i + 1)))).length : Nat) : Int)]
theorem histN_more (l poll pb ph : Int) (ts : List Int) (n : Nat) : histN l poll pb ph ts (n + 1) = histN l poll pb ph ts n ++ [[ts.getD n 0, (((readG l (rgaps poll pb ph (ts.take (n + 1)))).length : Nat) : Int)]] := by
  unfold histN
  rw [List.range_succ, List.map_append]
  rfl
theorem cut_to (xs : List V) (n : Nat) (h : n ≤ xs.length) : cutV xs none (some (n : Nat)) = xs.take n := by
  unfold cutV
  have e1 : HT.sIx xs.length xs.length (some (n : Nat)) = min n xs.length := HT.sIx_nat xs.length xs.length n
  have e2 : HT.sIx xs.length 0 none = 0 := rfl
  rw [e1, e2, Nat.min_eq_left h]
  simp
section
variable {P : Program} {w : World} {K : PySem.W.Frag} {mg : PySem.Str → Option Value} {base : Heap}
theorem ok_Monitor_history (T : Txt K mg) : Kept P w K mg base CX0 4 (He.ma K (He.ga K "Monitor") "history") ["self"] (spMonHist K) := by
  refine kept0 (T.fn in_Monitor_history) sc_Monitor_history b_Monitor_history (fun vs H Q E h => ?_) (fun cdv A outer s H vs Q E hr h => ?_)
  · obtain ⟨m, r, sg, l, poll, pb, ph, ts, rfl, _⟩ := h
    rfl
  · obtain ⟨m, r, sg, l, poll, pb, ph, ts, rfl, M, hlen, k⟩ := h
    have C := T.cl (x := "Monitor") (by decide +kernel)
    obtain ⟨dx, ho⟩ := M.o
    refine ⟨_, (pss_cons (ps_set (i := 1) sc_Monitor_history.nd rfl (Or.inl rfl) (pe_lst pa_nil))
      (pss_cons (ps_for PassesOwn.never rfl (pi_enum (by rfl) (T.fr (x := "enumerate") (by decide +kernel)) (pa_cons (pe_fld (pv 0) rfl) pa_nil)) (pg_tup (by rfl) (pgs_cons (pg_name (i := 2) sc_Monitor_history.nd rfl (Or.inl rfl)) (pgs_cons (pg_name (i := 3) sc_Monitor_history.nd rfl (Or.inl rfl)) pgs_nil))) (pss_cons (ps_set (i := 4) sc_Monitor_history.nd rfl (Or.inl rfl) (pc (ok_received_gaps T) (hr.mono (by decide)) (by rfl) (T.g (x := "received_gaps") (by decide +kernel)) (pa_cons (pe_fld (pv 0) rfl) (pa_cons (pe_fld (pv 0) rfl) (pa_cons (pe_slice sl_list (pe_fld (pv 0) rfl) po_none (po_some (pe_op op_add (pv 2) pe_int))) pa_nil)))))
      (pss_one (ps_expr (pe_bm PySem.F.plainAttrs_list PySem.F.slot_list_append PySem.F.type_list_append mt_append (pv 1) (pa_cons (pe_tup (pa_cons (pv 3) (pa_cons (pe_callB call_len_seq (by rfl) (T.fr (x := "len") (by decide +kernel)) PySem.boot_len (pa_cons (pc (ok_read_gaps T) (hr.mono (by decide)) (by rfl) (T.g (x := "read_gaps") (by decide +kernel)) (pa_cons (pe_fld (pv 0) rfl) (pa_cons (pv 4) pa_nil))) pa_nil)) pa_nil))) pa_nil))))))
      (pss_one (ps_ret (pv 1))))), ?_⟩
    refine ⟨Nat.zero_le _, fun p np => ?_⟩
    have s0 : Same H (upd H p (.lst [])) := same_put (Same.refl H) np
    have M0 := M.same s0
    obtain ⟨dx0, ho0⟩ := M0.o
    refine ⟨_, rfl, m, _, dx0, _, _, rfl, ho0, C, T.na (by decide +kernel), rfl, sg, _, rfl, SqL.of M0.s, for_it walk_enum (fun i σ H' => ∃ v2 v3 v4 : Option V, σ = [some (.ref m), some (.ref p), v2, v3, v4] ∧ Same H H' ∧ ∃ us, H' p = some (.lst us) ∧ Tups H' us (histN l poll pb ph ts i))
      ⟨none, none, none, rfl, s0, [], upd_same, Tups.nil⟩ (fun i σ H' _ ⟨_, _, _, _, e, _⟩ => SqL.of (e _ _ M.s)) ?_ ?_⟩
    · rintro i y σ H' H2 hi ⟨v2, v3, v4, rfl, e, us, hp, hus⟩ ⟨t, vx, vy, rfl, nt, rfl, hx, hy⟩
      have hx2 : vx = .int (i : Nat) := (Option.some.inj hx).symm
      subst hx2
      obtain ⟨z, hz, rfl⟩ := int_at hy
      have hi2 : i < ts.length := (List.getElem?_eq_some_iff.mp hz).1
      have e2 : Same H (upd H' t (.tup [.int (i : Nat), .int z])) := same_put e (e.free nt)
      have npt : p ≠ t := ne_of_none hp nt
      have M1 := M.same e2
      obtain ⟨dx1, ho1⟩ := M1.o
      refine ⟨t, _, rfl, SqT.of upd_same, rfl, _, _, rfl, _, _, rfl, rfl, ?_⟩
      refine ⟨_, rfl, m, _, dx1, _, _, rfl, ho1, C, T.na (by decide +kernel), rfl, _, rfl, m, _, dx1, _, _, rfl, ho1, C, T.na (by decide +kernel), rfl, _, rfl, m, _, dx1, _, _, rfl, ho1, C, T.na (by decide +kernel), rfl, _, rfl, _, _, rfl, rfl, _, rfl, sg, _, rfl, SqL.of M1.s, fun q nq => ?_⟩
      have ecut : cutV (ts.map V.int) none (some ((i : Nat) + 1 : Int)) = (ts.take (i + 1)).map V.int := by
        rw [show ((i : Nat) + 1 : Int) = ((i + 1 : Nat) : Int) by omega, cut_to _ _ (by rw [List.length_map]; omega), List.map_take]
      rw [ecut]
      generalize hG : upd H' t (.tup [.int (i : Nat), .int z]) = G at e2 M1 ho1 nq
      have gp : G p = some (.lst us) := by rw [← hG, upd_ne npt]; exact hp
      have gus : Tups G us (histN l poll pb ph ts i) := hus.keep (by rw [← hG]; exact keepT_same (same_put (Same.refl H') nt))
      have e3 : Same G (upd G q (.lst ((ts.take (i + 1)).map V.int))) := same_put (Same.refl G) nq
      have hlt : (ts.take (i + 1)).length ≤ 1000 := by rw [List.length_take]; omega
      refine ⟨r, q, poll, pb, ph, ts.take (i + 1), rfl, same_sqt e3 M1.t, M1.p.r, SqL.of upd_same, hlt, fun H3 g e4 ng hg => ?_⟩
      have M3 := (M1.same e3).same e4
      obtain ⟨dx3, ho3⟩ := M3.o
      have hp3 : H3 p = some (.lst us) := e4 _ _ (e3 _ _ gp)
      refine ⟨_, rfl, .inl ⟨rfl, _, SqL.of hp3⟩, _, rfl, _, rfl, m, _, dx3, _, _, rfl, ho3, C, T.na (by decide +kernel), rfl, _, rfl, g, l, _, rfl, SqL.of hg, Nat.le_trans (gapsOf_len _ _) (Nat.le_trans (polls_len _ _ _) hlt), M.p.l0, M.p.l1, fun H4 x e5 nx hx => ?_⟩
      refine ⟨x, _, rfl, .inl (SqL.of hx), (by rw [sizeLine_eq]; show 2 ≤ _; decide), fun u nu => ?_⟩
      have e6 : Same H4 (upd H4 u (.tup [.int z, .int (((readG l (rgaps poll pb ph (ts.take (i + 1)))).map V.str).length : Nat)])) := same_put (Same.refl H4) nu
      have hp5 := e6 _ _ (e5 _ _ hp3)
      have hbl : us.length ≤ 1000 := by
        have h1 := hus.1
        have h2 : (histN l poll pb ph ts i).length = i := by unfold histN; rw [List.length_map, List.length_range]
        omega
      refine ⟨p, _, _, rfl, rfl, hp5, small1000 hbl, _, _, _, rfl, ?_, us ++ [.ref u], upd_same, ?_⟩
      · exact same_put (((e2.trans e3).trans e4).trans (e5.trans e6)) np
      · rw [histN_more]
        have ku : KeepT G (upd H4 u (.tup [.int z, .int (((readG l (rgaps poll pb ph (ts.take (i + 1)))).map V.str).length : Nat)])) := keepT_same ((e3.trans e4).trans (e5.trans e6))
        refine ((gus.keep ku).push (q := u) ?_).keep (keepT_put (fun _ _ x => x) hp5)
        rw [upd_same, List.length_map]
        have h0 : ts.getD i 0 = z := by rw [List.getD_eq_getElem?_getD, hz]; rfl
        rw [h0]
        rfl
    · rintro σ H' ⟨v2, v3, v4, rfl, e, us, hp, hus⟩
      rw [List.length_map] at hus
      exact ⟨_, rfl, k H' p us e np hp hus⟩
theorem ok_Monitor_state (T : Txt K mg) : Kept P w K mg base CX0 1 (He.ma K (He.ga K "Monitor") "state") ["self"] (spMonState K) := by
  refine kept0 (T.fn in_Monitor_state) sc_Monitor_state b_Monitor_state (fun vs H Q E h => ?_) (fun cdv A outer s H vs Q E hr h => ?_)
  · obtain ⟨m, r, sg, l, poll, pb, ph, ts, rfl, _⟩ := h
    rfl
  · obtain ⟨m, r, sg, l, poll, pb, ph, ts, rfl, M, k⟩ := h
    have C := T.cl (x := "Monitor") (by decide +kernel)
    obtain ⟨dx, ho⟩ := M.o
    refine ⟨_, (pss_one (ps_ret (pe_tup (pa_cons (pe_fld (pv 0) rfl) (pa_cons (pe_fld (pv 0) rfl) (pa_cons (pe_fld (pv 0) rfl) (pa_cons (pe_callTy call_tuple_of (by rfl) (T.fr (x := "tuple") (by decide +kernel)) (by decide +kernel) (pa_cons (pe_fld (pv 0) rfl) pa_nil)) pa_nil))))))), ?_⟩
    refine ⟨_, rfl, m, _, dx, _, _, rfl, ho, C, T.na (by decide +kernel), rfl, _, rfl, m, _, dx, _, _, rfl, ho, C, T.na (by decide +kernel), rfl, _, rfl, m, _, dx, _, _, rfl, ho, C, T.na (by decide +kernel), rfl, _, rfl, m, _, dx, _, _, rfl, ho, C, T.na (by decide +kernel), rfl, ?_⟩
    refine ⟨sg, _, rfl, .inl ⟨SqL.of M.s, fun q nq => ⟨(by rw [sizeLine_eq]; show 4 ≤ _; decide), fun p np => ?_⟩⟩⟩
    have e1 : Same H (upd H q (.tup (ts.map V.int))) := same_put (Same.refl H) nq
    have e2 : Same (upd H q (.tup (ts.map V.int))) (upd (upd H q (.tup (ts.map V.int))) p (.tup [.int l, .ref r, .int ph, .ref q])) := same_put (Same.refl _) np
    exact k _ p q (e1.trans e2) upd_same (e2 _ _ upd_same)
theorem ok_opened (T : Txt K mg) : Kept P w K mg base CX0 3 (He.ga K "opened") ["state"] (spOpened K) := by
  refine kept0 (T.fn in_opened) sc_opened b_opened (fun vs H Q E h => ?_) (fun cdv A outer s H vs Q E hr h => ?_)
  · obtain ⟨p, q, r, l, poll, pb, ph, ts, rfl, _⟩ := h
    rfl
  · obtain ⟨p, q, r, l, poll, pb, ph, ts, rfl, hp, hq, hR, M, k⟩ := h
    have C := T.cl (x := "Monitor") (by decide +kernel)
    refine ⟨_, (pss_cons (ps_set (i := 1) sc_opened.nd rfl (Or.inl rfl) (pmk (ok_Monitor_init T) (T.mkr (x := "Monitor") (by decide +kernel)) (hr.mono (by decide)) (by rfl) (T.g (x := "Monitor") (by decide +kernel)) (pa_cons (pe_ix ix_tup (pv 0) pe_int (fun _ _ => rfl)) (pa_cons (pe_ix ix_tup (pv 0) pe_int (fun _ _ => rfl)) (pa_cons (pe_ix ix_tup (pv 0) pe_int (fun _ _ => rfl)) pa_nil)))))
      (pss_cons (ps_fld (pv 1) (pe_callTy call_list_of (by rfl) (T.fr (x := "list") (by decide +kernel)) (by decide +kernel) (pa_cons (pe_ix ix_tup (pv 0) pe_int (fun _ _ => rfl)) pa_nil)) rfl)
      (pss_one (ps_ret (pv 1))))), ?_⟩
    refine ⟨_, rfl, p, _, 0, _, rfl, rfl, SqT.of hp, rfl, _, rfl, p, _, 1, _, rfl, rfl, SqT.of hp, rfl, _, rfl, p, _, 2, _, rfl, rfl, SqT.of hp, rfl, fun m dx nm ndx nex => ⟨m, dx, r, l, ph, rfl, upd_same, fun H1 sg nsg hm hs f1 => ⟨rfl, ?_⟩⟩⟩
    have e1 : Same H H1 := Same.made nm ndx f1
    refine ⟨_, rfl, p, _, 3, _, rfl, rfl, SqT.of (e1 _ _ hp), rfl, q, _, rfl, .inr (SqT.of (e1 _ _ hq)), fun s2 n2 => ?_⟩
    have hm2 : upd H1 s2 (.lst (ts.map V.int)) m = some (.ins (He.ga K "Monitor") dx (monF l ph r sg)) := (same_put (Same.refl H1) n2) _ _ hm
    refine ⟨_, rfl, m, _, dx, _, rfl, hm2, C, T.na (by decide +kernel), (by show 4 < 1000; decide), ?_⟩
    have nms : s2 ≠ m := fun e => by rw [e, hm] at n2; cases n2
    have e3 : Same H (upd (upd H1 s2 (.lst (ts.map V.int))) m (.ins (He.ga K "Monitor") dx (putF "signal" (.ref s2) (monF l ph r sg)))) := same_put (same_put e1 (e1.free n2)) nm
    exact ⟨_, rfl, k _ m s2 e3 ⟨⟨dx, upd_same⟩, by rw [upd_ne nms, upd_same], same_sqt e3 hR, M⟩⟩
theorem ok_law_edge (T : Txt K mg) (Y : Ext P K) : Kept P w K mg base CX0 7 (He.ga K "_law_edge") ["_law_monitor", "_law_time"] (spLawEdge K) := by
  refine kept0 (T.fn in_law_edge) sc_law_edge b_law_edge (fun vs H Q E h => ?_) (fun cdv A outer s H vs Q E hr h => ?_)
  · obtain ⟨m, r, sg, l, poll, pb, ph, t, ts, rfl, _⟩ := h
    rfl
  · obtain ⟨m, r, sg, l, poll, pb, ph, t, ts, rfl, M, hlen, hno, kF, kR⟩ := h
    obtain ⟨dx, ho⟩ := M.o
    refine ⟨_, (pss_one (ps_try_as (i := 2) rfl rfl sc_law_edge.nd rfl rfl ⟨by rfl, by decide, .inl (T.g (x := "Refused") (by decide +kernel))⟩ takes_no (fun W pn xe tk pw => (pss_one (ps_ret (pms (ok_Monitor_edge T Y) (T.cl (x := "Monitor") (by decide +kernel)) (T.me (x := "Monitor") (m := "edge") (by decide +kernel)) (hr.mono (by decide)) (fun σ => passAt tk σ) (pv 0) (pa_cons (pv 1) pa_nil))))) (fun a oe cls d pn hz hf => (pss_one (ps_ret (pe_xf (C := rfA K) Y.k.xf Y.k.noat hz hf (pv 2))))))), ?_⟩
    have fin : ∀ msg : PySem.Str, (∀ H', Same H H' → Q (.str msg) H') → ∀ d, H d = none → ∀ a2, upd H d (.xd [("what", .str msg)]) a2 = none → tRet (tXf a2 (.ref (rfA K)) (some d) (rfA K) "what" (tVar 2)) { nx := fun σ' H' => Q .non H', rt := Q, bk := fun _ _ => False, ct := fun _ _ => False } [some (.ref m), some (.int t), some (.ref a2)] (upd H d (.xd [("what", .str msg)])) := fun msg kk d nd a2 na => by
      exact ⟨_, rfl, rfl, rfl, d, _, _, rfl, upd_same, rfl, kk _ (same_put (Same.refl H) nd)⟩
    refine ⟨_, rfl, m, dx, _, rfl, ho, rfl, _, rfl, m, r, sg, l, poll, pb, ph, t, _, rfl, M, hlen, fun hf d nd => ⟨true, Y.exm, fun _ a2 ha2 => fin _ (kF hf) d nd a2 ha2, fun h => by cases h⟩,
        fun hlt hL d nd => ⟨true, Y.exm, fun _ a2 ha2 => fin _ (kR hlt) d nd a2 ha2, fun h => by cases h⟩, fun hlt hL => absurd ⟨hlt, hL⟩ hno⟩
end
end Edge
/-! the law's rows. -/
namespace Edge
open L2 PyProof.Rows PySem PySem.Spec
theorem readG_len {l : Int} (hl : 0 ≤ l) (gs : List Int) : (readG l gs).length ≤ gs.length := by
  have h := (rdLe_run l hl gs gs.length (Nat.le_refl _)).2.2
  rw [List.take_length] at h
  exact h
theorem rgaps_len (poll pb ph : Int) (ts : List Int) : (rgaps poll pb ph ts).length ≤ ts.length := Nat.le_trans (gapsOf_len _ _) (polls_len _ _ _)
def spRefused (K : PySem.W.Frag) : Sp := fun vs H Q _ => ∃ (m r sg a : Addr) (l poll pb ph : Int) (ts : List Int), vs = [.ref m, .ref a] ∧ MonAt K H m r sg l poll pb ph ts ∧ H a = some (.lst (ts.map V.int)) ∧ ts.length ≤ 100 ∧ (∀ t ∈ ts, ¬ Later ts t) ∧
  ∀ H', Same H H' → Q (.bl true) H'
section
variable {P : Program} {w : World} {K : PySem.W.Frag} {mg : PySem.Str → Option Value} {base : Heap}
theorem ok_law_of_monitor (T : Txt K mg) : Kept P w K mg base CX0 6 (He.ga K "_law_of_monitor") ["_law_monitor"] (spOfMon K) := by
  refine kept0 (T.fn in_law_of_monitor) sc_law_of_monitor b_law_of_monitor (fun vs H Q E h => ?_) (fun cdv A outer s H vs Q E hr h => ?_)
  · obtain ⟨m, r, sg, l, poll, pb, ph, ts, rfl, _⟩ := h
    rfl
  · obtain ⟨m, r, sg, l, poll, pb, ph, ts, rfl, M, hlen, k⟩ := h
    obtain ⟨dx, ho⟩ := M.o
    refine ⟨_, (pss_one (ps_ret (pe_lst (pa_cons (pm0 (ok_Monitor_edges T) (T.cl (x := "Monitor") (by decide +kernel)) (T.me (x := "Monitor") (m := "edges") (by decide +kernel)) (hr.mono (by decide)) (pv 0)) (pa_cons (pm0 (ok_Monitor_gaps T) (T.cl (x := "Monitor") (by decide +kernel)) (T.me (x := "Monitor") (m := "gaps") (by decide +kernel)) (hr.mono (by decide)) (pv 0)) (pa_cons (pm0 (ok_Monitor_payloads T) (T.cl (x := "Monitor") (by decide +kernel)) (T.me (x := "Monitor") (m := "payloads") (by decide +kernel)) (hr.mono (by decide)) (pv 0)) (pa_cons (pm0 (ok_Monitor_history T) (T.cl (x := "Monitor") (by decide +kernel)) (T.me (x := "Monitor") (m := "history") (by decide +kernel)) (hr.mono (by decide)) (pv 0)) pa_nil))))))), ?_⟩
    refine ⟨_, rfl, m, dx, _, rfl, ho, rfl, m, r, sg, l, poll, pb, ph, ts, rfl, M, fun H1 e s1 n1 h1 => ?_⟩
    have M1 := M.same s1
    obtain ⟨dx1, ho1⟩ := M1.o
    refine ⟨_, rfl, m, dx1, _, rfl, ho1, rfl, m, r, sg, l, poll, pb, ph, ts, rfl, M1, hlen, fun H2 g s2 n2 h2 => ?_⟩
    have M2 := M1.same s2
    obtain ⟨dx2, ho2⟩ := M2.o
    refine ⟨_, rfl, m, dx2, _, rfl, ho2, rfl, m, r, sg, l, poll, pb, ph, ts, rfl, M2, hlen, fun H3 y s3 n3 h3 => ?_⟩
    have M3 := M2.same s3
    obtain ⟨dx3, ho3⟩ := M3.o
    refine ⟨_, rfl, m, dx3, _, rfl, ho3, rfl, m, r, sg, l, poll, pb, ph, ts, rfl, M3, hlen, fun H4 z us s4 n4 h4 hus => ?_⟩
    refine ⟨(by rw [sizeLine_eq]; show 4 ≤ _; decide), fun p np => ?_⟩
    have s5 : Same H4 (upd H4 p (.lst [.ref e, .ref g, .ref y, .ref z])) := same_put (Same.refl H4) np
    have e4 := s4 _ _ (s3 _ _ (s2 _ _ h1))
    have g4 := s4 _ _ (s3 _ _ h2)
    have y4 := s4 _ _ h3
    have sA : Same H H4 := ((s1.trans s2).trans s3).trans s4
    have lg := rgaps_len poll pb ph ts
    have ly := readG_len M.p.l0 (rgaps poll pb ph ts)
    have lh := histL_len l poll pb ph ts
    refine k _ p [e, g, y, z] (sA.trans s5) (sA.free np) upd_same ?_ (by show 4 ≤ 10; decide) (.lst (SqL.of upd_same) (.cons (.lst (SqL.of (s5 _ _ e4)) (dp_ints _)) (.cons (.lst (SqL.of (s5 _ _ g4)) (dp_ints _)) (.cons (.lst (SqL.of (s5 _ _ y4)) (dp_strs _)) (.cons (.lst (SqL.of (s5 _ _ h4)) (hus.keep (keepT_same s5)).dp) .nil)))))
    intro q hq
    have nof : ∀ {b : Addr} {o : HO}, H4 b = some o → b ≠ p := fun h => ne_of_none h np
    rcases memC hq with rfl | hq
    · exact ⟨n1, nof e4, _, s5 _ _ e4, by rw [List.length_map]; omega⟩
    rcases memC hq with rfl | hq
    · exact ⟨s1.free n2, nof g4, _, s5 _ _ g4, by rw [List.length_map]; omega⟩
    rcases memC hq with rfl | hq
    · exact ⟨(s1.trans s2).free n3, nof y4, _, s5 _ _ y4, by rw [List.length_map]; omega⟩
    rcases memC hq with rfl | hq
    · exact ⟨((s1.trans s2).trans s3).free n4, nof h4, _, s5 _ _ h4, by rw [hus.1]; omega⟩
    · cases hq
theorem ok_law_changed (T : Txt K mg) : Kept P w K mg base CX0 1 (He.ga K "_law_changed") ["_law_lists"] spChanged := by
  refine kept0 (T.fn in_law_changed) sc_law_changed b_law_changed (fun vs H Q E h => ?_) (fun cdv A outer s H vs Q E hr h => ?_)
  · obtain ⟨p, rows, rfl, _⟩ := h
    rfl
  · obtain ⟨p, rows, rfl, hp, hrow, hlen, k⟩ := h
    refine ⟨_, (pss_one (ps_for PassesOwn.never rfl (pi_list (pv 0)) (pg_name (i := 1) sc_law_changed.nd rfl (Or.inl rfl)) (pss_cons (ps_expr (pe_bm PySem.F.plainAttrs_list PySem.F.slot_list_append PySem.F.type_list_append mt_append (pv 1) (pa_cons pe_str pa_nil)))
      (pss_one (ps_expr (pe_bm0 PySem.F.plainAttrs_list PySem.F.slot_list_reverse PySem.F.type_list_reverse mt_reverse (pv 1))))))), ?_⟩
    refine ⟨_, rfl, p, rfl, ⟨_, SqL.of hp⟩, for_list (K := K) (a := p) (xs := rows.map V.ref) (fun i σ H' => ∃ v : Option V, σ = [some (.ref p), v] ∧ (∀ b o, H b = some o → b ∉ rows → H' b = some o) ∧ ∀ r ∈ rows, ∃ xs, H' r = some (.lst xs) ∧ xs.length ≤ 10000 + i)
      ⟨none, rfl, fun b o e _ => e, fun r hr => (hrow r hr).2⟩ (fun i σ H' _ ⟨_, _, e, _⟩ => SqL.of (e _ _ hp fun z => (hrow p z).1 rfl)) ?_ ?_⟩
    · rintro i y σ H' hi ⟨v, rfl, e, hx⟩
      rw [List.getElem?_map] at hi
      cases hq : rows[i]? with
      | none => rw [hq] at hi; cases hi
      | some q =>
        rw [hq] at hi
        obtain rfl : V.ref q = y := Option.some.inj hi
        have hm : q ∈ rows := List.mem_of_getElem? hq
        have hil : i < rows.length := (List.getElem?_eq_some_iff.mp hq).1
        obtain ⟨xs, hxs, hxl⟩ := hx q hm
        refine ⟨_, rfl, .inl ⟨rfl, _, SqL.of hxs⟩, q, _, _, rfl, rfl, hxs, (by rw [sizeLine_eq]; omega), ?_⟩
        refine ⟨_, rfl, .inl ⟨rfl, _, SqL.of upd_same⟩, q, _, rfl, rfl, upd_same, ?_⟩
        refine ⟨_, rfl, fun b o eb hb => ?_, fun r hr => ?_⟩
        · have hbq : b ≠ q := fun z => hb (by rw [z]; exact hm)
          rw [upd_ne hbq, upd_ne hbq]
          exact e b o eb hb
        · by_cases hrq : r = q
          · exact ⟨_, by rw [hrq, upd_same], by rw [List.length_reverse, List.length_append]; show xs.length + 1 ≤ _; omega⟩
          · obtain ⟨ys, hys, hyl⟩ := hx r hr
            exact ⟨ys, by rw [upd_ne hrq, upd_ne hrq]; exact hys, by omega⟩
    · rintro σ H' ⟨v, rfl, e, hx⟩
      exact k H' e
end
end Edge
/-! edges are refused. -/
namespace Edge
open L2 PyProof.Rows PySem PySem.Spec
theorem mem_cut {xs : List V} {lo hi : Option Int} {v : V} (h : v ∈ cutV xs lo hi) : v ∈ xs := List.mem_of_mem_drop (List.mem_of_mem_take h)
theorem shp_ints (ns : List Int) : SeqAt.shaped (.list (ns.map PyData.int)) = true := PySem.W.ke_shaped_ints ns
theorem eqv_ints (ns : List Int) : PyData.eqv (.list (ns.map PyData.int)) (.list (ns.map PyData.int)) = true := SeqAt.eqv_refl _ (SeqAt.canLay_of_shaped (shp_ints ns))
theorem dpl {K : PySem.W.Frag} {H : Hp} {a : Addr} {ns : List Int} (h : SqL K H a (ns.map V.int)) : Dp K H (.ref a) (.list (ns.map PyData.int)) := .lst h (dp_ints ns)
def threes : List Int := (List.range 300).map fun k : Nat => 3 * ((k : Nat) : Int)
theorem threes_len : threes.length = 300 := by unfold threes; rw [List.length_map, List.length_range]
theorem threes_at {i : Nat} (h : i < 300) : threes[i]? = some (3 * ((i : Nat) : Int)) := by
  unfold threes
  rw [List.getElem?_map, List.getElem?_range h]
  rfl
theorem threes_later {i : Nat} (h : i < 300) : Later (threes.take i) (3 * ((i : Nat) : Int)) := fun y hy => by
  cases i with
  | zero => cases hy
  | succ j =>
    rw [take_more (threes_at (by omega : j < 300)), List.getLast?_concat] at hy
    obtain rfl := Option.some.inj hy
    omega
section
variable {P : Program} {w : World} {K : PySem.W.Frag} {mg : PySem.Str → Option Value} {base : Heap}
theorem ok_law_edges_are_refused (T : Txt K mg) (Y : Ext P K) : Kept P w K mg base CX0 8 (He.ga K "_law_edges_are_refused") ["_law_monitor", "_law_times"] (spRefused K) := by
  refine kept0 (T.fn in_law_edges_are_refused) sc_law_edges_are_refused b_law_edges_are_refused (fun vs H Q E h => ?_) (fun cdv A outer s H vs Q E hr h => ?_)
  · obtain ⟨m, r, sg, a, l, poll, pb, ph, ts, rfl, _⟩ := h
    rfl
  · obtain ⟨m, r, sg, a, l, poll, pb, ph, ts, rfl, M, hA, hlen, hno, k⟩ := h
    have C := T.cl (x := "Monitor") (by decide +kernel)
    refine ⟨_, (pss_cons (ps_for PassesOwn.never rfl (pi_list (pe_op op_cat (pe_slice sl_list (pv 1) (po_some (pe_un un_neg pe_int)) po_none) (pe_slice sl_list (pv 1) po_none (po_some (pe_un un_neg pe_int))))) (pg_name (i := 2) sc_law_edges_are_refused.nd rfl (Or.inl rfl)) (pss_one (ps_if (PW.pt (pw_or (pt_cmpR op_ne (pc (ok_law_edge T Y) (hr.mono (by decide)) (by rfl) (T.g (x := "_law_edge") (by decide +kernel)) (pa_cons (pv 0) (pa_cons (pv 2) pa_nil))) pe_str (nomark _)) (pw_or1 (pt_cmpR (op_neD hr.units) (pm0 (ok_Monitor_edges T) (T.cl (x := "Monitor") (by decide +kernel)) (T.me (x := "Monitor") (m := "edges") (by decide +kernel)) (hr.mono (by decide)) (pv 0)) (pv 1) (nomark _))))) (pss_one (ps_ret pe_bl)) pss_nil)))
      (pss_cons (ps_set (i := 3) sc_law_edges_are_refused.nd rfl (Or.inl rfl) (pmk (ok_Monitor_init T) (T.mkr (x := "Monitor") (by decide +kernel)) (hr.mono (by decide)) (by rfl) (T.g (x := "Monitor") (by decide +kernel)) (pa_cons pe_int (pa_cons (pe_tup (pa_cons pe_int (pa_cons pe_int pa_nil))) (pa_cons pe_int pa_nil)))))
      (pss_cons (ps_if (PW.pt (pw_or (pt_cmpR op_ne (pm (ok_Monitor_feed T Y) (T.cl (x := "Monitor") (by decide +kernel)) (T.me (x := "Monitor") (m := "feed") (by decide +kernel)) (hr.mono (by decide)) (pv 3) (pa_cons (pe_lc (own := [("_law_k", 4)]) (g := (gName 4)) (tt := tYes) (te := tOp (rI CMul fun i j => .int (i * j)) (tC (.int 3)) (tVar 4)) rfl sc_law_edges_are_refused.nd (pi_range1 (by rfl) (T.fr (x := "range") (by decide +kernel)) (pa_cons pe_int pa_nil)) (blkOk_by (own := [("_law_k", 4)]) (N := ["_law_monitor", "_law_times", "_law_time", "_law_full", "_law_k"]) (sc := defScope s_law_edges_are_refused) (by decide +kernel)) (fun _ _ _ _ _ => (pg_name (i := 4) sc_law_edges_are_refused.nd rfl (Or.inl rfl))) (fun _ _ _ _ _ => pts_nil) (fun _ _ _ _ _ => (pe_op op_mul pe_int (pv 4)))) pa_nil)) pe_int (nomark _)) (pw_or1 (pt_cmpR op_ne (pm0 (ok_Monitor_edge_count T) (T.cl (x := "Monitor") (by decide +kernel)) (T.me (x := "Monitor") (m := "edge_count") (by decide +kernel)) (hr.mono (by decide)) (pv 3)) pe_int (nomark _))))) (pss_one (ps_ret pe_bl)) pss_nil)
      (pss_cons (ps_for PassesOwn.never rfl (pi_list (pe_lst (pa_cons (pe_op op_pow pe_int pe_int) (pa_cons pe_int pa_nil)))) (pg_name (i := 2) sc_law_edges_are_refused.nd rfl (Or.inl rfl)) (pss_one (ps_if (pt_cmpR op_ne (pc (ok_law_edge T Y) (hr.mono (by decide)) (by rfl) (T.g (x := "_law_edge") (by decide +kernel)) (pa_cons (pv 3) (pa_cons (pv 2) pa_nil))) pe_str (nomark _)) (pss_one (ps_ret pe_bl)) pss_nil)))
      (pss_one (ps_ret (pe_and (pe_cmpR op_eq (pm0 (ok_Monitor_undo T) (T.cl (x := "Monitor") (by decide +kernel)) (T.me (x := "Monitor") (m := "undo") (by decide +kernel)) (hr.mono (by decide)) (pv 3)) pe_int (nomark _)) (pe_one (pe_cmpR op_eq (pm0 (ok_Monitor_edge_count T) (T.cl (x := "Monitor") (by decide +kernel)) (T.me (x := "Monitor") (m := "edge_count") (by decide +kernel)) (hr.mono (by decide)) (pv 3)) pe_int (nomark _)))))))))), ?_⟩
    refine ⟨_, rfl, 1, rfl, -1, rfl, a, _, rfl, SqL.of hA, fun q1 n1 => ?_⟩
    have s1 : Same H (upd H q1 (.lst (cutV (ts.map V.int) (some (-1)) none))) := same_put (Same.refl H) n1
    refine ⟨_, rfl, 1, rfl, -1, rfl, a, _, rfl, SqL.of (s1 _ _ hA), fun q2 n2 => ?_⟩
    have s2 := same_put s1 (s1.free n2) (o := .lst (cutV (ts.map V.int) none (some (-1))))
    have n12 : q1 ≠ q2 := fun e => by rw [← e, upd_same] at n2; cases n2
    refine ⟨q1, q2, _, _, rfl, rfl, (by rw [upd_ne n12, upd_same]), upd_same, ?_, fun q3 n3 => ?_⟩
    · have h1 := cutV_length (ts.map V.int) (some (-1)) none
      have h2 := cutV_length (ts.map V.int) none (some (-1))
      rw [List.length_map] at h1 h2
      rw [sizeLine_eq]
      omega
    have s3 := same_put s2 (s2.free n3) (o := .lst (cutV (ts.map V.int) (some (-1)) none ++ cutV (ts.map V.int) none (some (-1))))
    generalize hxs : cutV (ts.map V.int) (some (-1)) none ++ cutV (ts.map V.int) none (some (-1)) = xs at s3
    have hmem : ∀ v ∈ xs, ∃ t ∈ ts, v = V.int t := fun v hv => by
      rw [← hxs] at hv
      have h2 : v ∈ ts.map V.int := (memA hv).elim mem_cut mem_cut
      obtain ⟨t, ht, e⟩ := List.mem_map.mp h2
      exact ⟨t, ht, e.symm⟩
    generalize hG : upd (upd (upd H q1 (.lst (cutV (ts.map V.int) (some (-1)) none))) q2 (.lst (cutV (ts.map V.int) none (some (-1))))) q3 (.lst xs) = G at s3
    have hq3 : G q3 = some (.lst xs) := by rw [← hG, upd_same]
    refine ⟨q3, rfl, ⟨_, SqL.of hq3⟩, for_list (K := K) (a := q3) (xs := xs) (fun i σ H' => ∃ v2 : Option V, σ = [some (.ref m), some (.ref a), v2, none, none] ∧ Same G H') ⟨none, rfl, Same.refl G⟩ (fun i σ H' _ ⟨_, _, e⟩ => SqL.of (e _ _ hq3)) ?_ ?_⟩
    · rintro i y σ H' hi ⟨v2, rfl, e⟩
      obtain ⟨t, ht, rfl⟩ := hmem _ (List.mem_of_getElem? hi)
      have M1 := M.same (s3.trans e)
      have hnt := hno t ht
      refine ⟨_, rfl, _, rfl, m, r, sg, l, poll, pb, ph, t, ts, rfl, M1, by omega, fun z => hnt z.2, fun z => by omega, fun _ H2 e2 => ⟨rfl, _, rfl, ?_⟩⟩
      refine ite2 (fun c => absurd c (by simp)) (fun _ => ?_)
      have M2 := M1.same e2
      obtain ⟨dx2, ho2⟩ := M2.o
      refine ⟨_, rfl, m, dx2, _, rfl, ho2, rfl, m, r, sg, l, poll, pb, ph, ts, rfl, M2, fun H3 p e3 np hp => ?_⟩
      refine ⟨_, rfl, _, _, dpl (SqL.of hp), dpl (SqL.of (((s3.trans e).trans (e2.trans e3)) _ _ hA)), shp_ints _, shp_ints _, _, rfl, ?_⟩
      rw [eqv_ints]
      exact iteF ⟨_, rfl, (e.trans e2).trans e3⟩
    · rintro σ H' ⟨v2, rfl, e⟩
      have sH : Same H H' := s3.trans e
      refine ⟨(by rw [sizeLine_eq]; show 2 ≤ _; decide), fun r2 nr2 => ?_⟩
      have e1 := same_put (Same.refl H') nr2 (o := .tup [.int 5, .int 4])
      have hr2 : upd H' r2 (.tup [.int 5, .int 4]) r2 = some (.tup [.int 5, .int 4]) := upd_same
      generalize upd H' r2 (.tup [.int 5, .int 4]) = G1 at e1 hr2
      refine fun x dx nx ndx nex => ⟨x, dx, r2, 2, 0, rfl, upd_same, fun H1 f nf hx hf f1 => ⟨rfl, ?_⟩⟩
      have eM : Same G1 H1 := Same.made nx ndx f1
      have nf0 : G1 f = none := by
        by_cases e : f = x
        · rw [e]; exact nx
        · rw [upd_ne e] at nf
          by_cases e2 : f = dx
          · rw [e2]; exact ndx
          · rw [upd_ne e2] at nf; exact nf
      have MF : MonAt K H1 x r2 f 2 5 4 0 [] := ⟨⟨dx, hx⟩, hf, SqT.of (eM _ _ hr2), ⟨⟨by decide, by decide, by decide, by decide⟩, by decide, by decide⟩⟩
      have oX : ∀ {b : Addr}, H1 b = none → G1 b = none := fun h => eM.free h
      refine ⟨_, rfl, x, dx, _, rfl, hx, rfl, 300, rfl, by decide, by decide, fun D nD => ?_⟩
      have e2 : Same H1 (upd H1 D (.lst [])) := same_put (Same.refl H1) nD
      refine lc_range (fun i H' => Same H1 H' ∧ H' D = some (.lst ((threes.take i).map V.int))) ⟨e2, upd_same⟩ ?_ ?_
      · rintro i H2 hi ⟨e, hD⟩
        have hi3 : i < 300 := hi
        have hl : (threes.take i).length ≤ 300 := by rw [List.length_take, threes_len]; omega
        refine ⟨rfl, ?_⟩
        refine ⟨_, rfl, _, _, rfl, rfl, .inl ⟨by decide, by decide⟩, _, hD, (by rw [List.length_map, sizeLine_eq]; omega), same_put e nD, ?_⟩
        rw [upd_same, take_more (threes_at hi3), List.map_append]
        show some (HO.lst (_ ++ [V.int (3 * (0 + (i : Nat)))])) = _
        rw [Int.zero_add]
        rfl
      · rintro H2 ⟨e, hD⟩
        have hD2 : H2 D = some (.lst (threes.map V.int)) := by
          have h3 : threes.take (300 : Int).toNat = threes := List.take_of_length_le (by rw [threes_len]; decide)
          rw [h3] at hD
          exact hD
        have M2 := MF.same e
        have nDf : D ≠ f := fun z => by rw [z, hf] at nD; cases nD
        refine ⟨x, r2, f, D, 2, 5, 4, 0, [], threes, rfl, M2, by decide, hD2, nDf, fun H3 n hn hacc hstop hf3 o3 => ?_⟩
        have tl : ∀ i, i ≤ 300 → (([] : List Int) ++ threes.take i).length = i := fun i hi => by rw [List.nil_append, List.length_take, threes_len]; omega
        have hn3 : n ≤ 300 := by rw [threes_len] at hn; exact hn
        have hn256 : n = 256 := by
          rcases Nat.lt_trichotomy n 256 with h | h | h
          · exact absurd ⟨by rw [tl n hn3]; exact h, by rw [List.nil_append]; exact threes_later (by omega)⟩ (hstop _ (threes_at (by omega)))
          · exact h
          · have h2 := (hacc 256 _ h (threes_at (by decide))).1
            rw [tl 256 (by decide)] at h2
            exact absurd h2 (by decide)
        subst hn256
        have M3 := M2.oth o3 hf3
        rw [List.nil_append] at M3
        have l3 : (threes.take 256).length = 256 := by rw [List.length_take, threes_len]; decide
        have sA : Same H H3 := fun b o eb => by
          have b1 := e _ _ (eM _ _ (e1 _ _ (sH _ _ eb)))
          exact o3 _ _ b1 fun z => by
            have h0 := e1 _ _ (sH _ _ eb)
            rw [z, nf0] at h0
            cases h0
        obtain ⟨dx3, ho3⟩ := M3.o
        refine ⟨rfl, _, rfl, ite2 (fun c => absurd c (by simp)) (fun _ => ?_)⟩
        refine ⟨_, rfl, x, dx3, _, rfl, ho3, rfl, x, r2, f, 2, 5, 4, 0, _, rfl, M3, rfl, _, rfl, ?_⟩
        rw [l3]
        refine ite2 (fun c => absurd c (by simp)) (fun _ => ?_)
        refine ⟨_, _, rfl, rfl, ⟨by decide, by decide, by decide⟩, (by rw [sizeLine_eq]; show 2 ≤ _; decide), fun p np => ?_⟩
        have e3 := same_put (Same.refl H3) np (o := .lst [.int (10 ^ (6 : Int).toNat), .int 0])
        have hp3 : upd H3 p (.lst [.int (10 ^ (6 : Int).toNat), .int 0]) p = some (.lst [.int (10 ^ (6 : Int).toNat), .int 0]) := upd_same
        generalize upd H3 p (.lst [.int (10 ^ (6 : Int).toNat), .int 0]) = G3 at e3 hp3
        refine ⟨p, rfl, ⟨_, SqL.of hp3⟩, for_list (K := K) (a := p) (xs := [V.int (10 ^ (6 : Int).toNat), V.int 0]) (fun i σ H' => ∃ v : Option V, σ = [some (.ref m), some (.ref a), v, some (.ref x), none] ∧ Same G3 H') ⟨_, rfl, Same.refl G3⟩ (fun i σ H' _ ⟨_, _, e⟩ => SqL.of (e _ _ hp3)) ?_ ?_⟩
        · rintro i y σ H4 hi ⟨v, rfl, e4⟩
          obtain ⟨t, rfl⟩ : ∃ t, y = V.int t := by
            rcases memC (List.mem_of_getElem? hi) with rfl | h
            · exact ⟨_, rfl⟩
            · exact ⟨_, memS h⟩
          have M4 := (M3.same e3).same e4
          refine ⟨_, rfl, _, rfl, x, r2, f, 2, 5, 4, 0, t, _, rfl, M4, by rw [l3]; decide, fun z => by rw [l3] at z; exact absurd z.1 (by decide), fun _ H5 e5 => ⟨rfl, _, rfl, ?_⟩, fun z => by rw [l3] at z; exact absurd z (by decide)⟩
          exact ite2 (fun c => absurd c (by simp)) (fun _ => ⟨_, rfl, e4.trans e5⟩)
        · rintro σ H4 ⟨v, rfl, e4⟩
          have M4 := (M3.same e3).same e4
          have e255 : threes.take 256 = threes.take 255 ++ [765] := take_more (threes_at (by decide : 255 < 300))
          rw [e255] at M4
          obtain ⟨dx4, ho4⟩ := M4.o
          refine ⟨_, rfl, x, dx4, _, rfl, ho4, rfl, x, r2, f, 2, 5, 4, 0, 765, _, rfl, M4, rfl, _, rfl, iteT ?_⟩
          have M5 : MonAt K (upd H4 f (.lst ((threes.take 255).map V.int))) x r2 f 2 5 4 0 (threes.take 255) := M4.oth (fun b o eb hb => by rw [upd_ne hb]; exact eb) upd_same
          obtain ⟨dx5, ho5⟩ := M5.o
          have l255 : (threes.take 255).length = 255 := by rw [List.length_take, threes_len]; decide
          refine ⟨_, rfl, x, dx5, _, rfl, ho5, rfl, x, r2, f, 2, 5, 4, 0, _, rfl, M5, rfl, ?_⟩
          rw [l255]
          refine k _ fun b o eb => ?_
          have hbf : b ≠ f := fun z => by
            have h0 := e1 _ _ (sH _ _ eb)
            rw [z, nf0] at h0
            cases h0
          rw [upd_ne hbf]
          exact e4 _ _ (e3 _ _ (sA _ _ eb))
end
end Edge
/-! all(a < b for a, b in zip(xs, ys)), lists of ints; the def's table may grow. -/
namespace Edge
open GxR L2 PyProof.Rows PySem PySem.Spec
section
variable {X : Cx} {σ : L2.St} {s : Shared} {H : Hp} {pins : List (Addr × Obj)}
structure GenS2 (env : Env) (scope : Scope) (xa xb : PySem.Str) : Prop where
  kind : scope.kind = .function
  co : false = scope.isCoroutine
  cell : ∀ z ∈ scope.names, z.2 ≠ .cell
  dot : scope.names.lookup (".0" : PySem.Str) = some NameKind.local
  la : scope.names.lookup xa = some .local
  lb : scope.names.lookup xb = some .local
  ab : xa ≠ xb
  free : ∀ z ∈ scope.names, z.2 = .free → ∃ ca, env.cells.lookup z.1 = some ca
def trZ (ns ms : List Int) (j : Nat) : Bool := match ns[j]?, ms[j]? with
  | some a, some b => decide (a < b)
  | _, _ => false
/-- the generator g is ready to be walked in the state s5 -/
def ReadyZ (X : Cx) (pins : List (Addr × Obj)) (σ : L2.St) (H1 : Hp) (P : Addr) (n : Nat) (tr : Nat → Bool) (g : Addr) (s5 : Shared) : Prop :=
  ∃ (fp wr : List Addr) (G : Array GenState → Array GenState → Prop) (F : Nat → Value → Prop) (St : Nat → Shared → Prop), -- a walk of n turns
    WalksS X.prog X.w X.A.in1 g fp wr G n F St ∧ St 0 s5 ∧ TruthOf X.prog X.w X.A.in1 F tr ∧ ∀ s', Moved wr G s5 s' → ∃ H2, Tabbed P H1 H2 ∧ Inv X pins σ H2 s'
theorem ints_at {ns : List Int} {us : List Value} (r : Vals (ns.map V.int) us) {i : Nat} {u : Value} (h : us[i]? = some u) : ∃ a t, ns[i]? = some a ∧ u = .int a t := by
  have hl := r.length
  have hi : i < us.length := (List.getElem?_eq_some_iff.mp h).1
  have hi2 : i < ns.length := by rw [List.length_map] at hl; omega
  have e : (ns.map V.int)[i]? = some (V.int ns[i]) := by rw [List.getElem?_map, List.getElem?_eq_getElem hi2]; rfl
  obtain ⟨u2, hu, ru⟩ := r.get e
  rw [h] at hu
  obtain rfl := Option.some.inj hu
  obtain ⟨t, rfl⟩ := ru
  exact ⟨_, t, List.getElem?_eq_getElem hi2, rfl⟩
theorem gen_zip {c P : Addr} {e e2 : Expr} {xa xb : PySem.Str} {pa pb pt px pp p1 p2 p3 gpos : Pos} {kt : Nat} {scope : Scope} {ta : TA} {k : Nat} {Q' : Value → Shared → Prop} {R : List Int → List Int → Hp → Prop}
    (hr : Room k X.A) (TB : TabB X.base X.mg c P) (hcode : X.env.code = .ref c) (S : GenS2 X.env scope xa xb) (hg : Gl X "zip") (hm : X.mg "zip" = none) (hi : PA X [e, e2] ta)
    (hss : starEach [e, e2] X.env = (false, eval e X.env) :: starEach [e2] X.env) (hpl : (backTo pp (starEach [e2] X.env)).any (·.1) = false)
    (hs : ∀ v, genFold (.Call (.Name "zip" px) [e, e2] [] pp) X.env v = pure v) (I : Inv X pins σ H s)
    (hda : (xa == ("__debug__" : PySem.Str)) = false) (hdb : (xb == ("__debug__" : PySem.Str)) = false)
    (h : ta σ H fun vs H1 => ∃ (a b : Addr) (ns ms : List Int), vs = [.ref a, .ref b] ∧ SqL X.K H1 a (ns.map V.int) ∧ SqL X.K H1 b (ms.map V.int) ∧ TabG H1 P ∧ R ns ms H1)
    (hQ : ∀ ns ms H1 g s5, R ns ms H1 → ReadyZ X pins σ H1 P (min ns.length ms.length) (trZ ns ms) g s5 → Q' (.ref g) s5) :
    wpAny (model X.prog X.w) X.A (eval (.GeneratorExp (.Compare (.Name xa p1) [.Lt] [.Name xb p2] p3) [⟨.Tuple [.Name xa pa, .Name xb pb] kt pt, .Call (.Name "zip" px) [e, e2] [] pp, [], 0⟩] scope gpos) X.env) Q' X.xe s := by
  refine wpAny_GeneratorExp_walksQT hr.hd S.co.symm (closure_ok S.free) S.cell S.dot S.la S.lb S.ab S.kind (by have := hr.dp; omega) ?_ hs
  refine Call_ (ld_blt I hg hm PyProof.Rows.boot_zip (PyProof.Rows.callWith_type1 (thn (hi.run pp pins s σ H _ I h) fun us s0 ⟨vs, H1, I0, r1, q1⟩ => ?_) hss hpl))
  obtain ⟨a, b, ns, ms, rfl, hqa, hqb, ⟨ps, hP, ht⟩, q1⟩ := q1
  obtain ⟨ua, us', rfl⟩ : ∃ u us', us = u :: us' := by cases r1 with | cons _ _ => exact ⟨_, _, rfl⟩
  obtain ⟨ub, us2, rfl⟩ : ∃ u us2, us' = u :: us2 := by cases r1 with | cons _ r => cases r with | cons _ _ => exact ⟨_, _, rfl⟩
  obtain rfl : us2 = [] := by cases r1 with | cons _ r => cases r with | cons _ r => cases r with | nil => rfl
  have ra : ua = .ref a := by cases r1 with | cons x _ => exact x
  have rb : ub = .ref b := by cases r1 with | cons _ r => cases r with | cons x _ => exact x
  subst ra rb
  obtain ⟨its, rv, pl1, _⟩ := I0.list hqa
  obtain ⟨its2, rv2, pl2, _⟩ := I0.list hqb
  have l1 : its.length = ns.length := by rw [← rv.length, List.length_map]
  have l2 : its2.length = ms.length := by rw [← rv2.length, List.length_map]
  have apart := PySem.W.ktu_apart s0.heap.objs.size a b pl1.lt pl2.lt
  refine call_zip_2 pl1.isList pl2.isList fun hz0 hz hTI hTO h1 h2 hsz0 hk0 => wpAny_pyIter_zip hz ?_
  have I1 : Inv X pins σ H1 { s0 with heap := hz0 } := I0.kept (t' := s0.toks) hk0
  have hst : IsZip hz0 (s0.heap.objs.size + 4) (s0.heap.objs.size + 2) (s0.heap.objs.size + 3) .none ∧ IsPair hz0 (s0.heap.objs.size + 2) (.ref s0.heap.objs.size) (.ref (s0.heap.objs.size + 1)) ∧ (∃ a b, IsPair hz0 (s0.heap.objs.size + 3) a b) ∧ hz0.IsListIter s0.heap.objs.size a 0 ∧ hz0.IsListIter (s0.heap.objs.size + 1) b 0 ∧ hz0.IsList a its.toArray ∧ hz0.IsList b its2.toArray :=
    ⟨hz, hTI, ⟨_, _, hTO⟩, h1, h2, pl1.isList.at fun o e => hk0 _ o e, pl2.isList.at fun o e => hk0 _ o e⟩
  have hPs0 : s0.heap.get? P = some { cls := .none, data := .fields ps } := I0.hok P _ hP
  have hPlt0 : P < s0.heap.objs.size := Heap.lt_size hPs0
  have W := fun (A' : Around) (hA : A'.handled = none) => (WalksT.zip2 (prog := X.prog) (w := X.w) hA _ _ _ _ _ a b apart its.toArray its2.toArray).toU
  have hPs : hz0.get? P = some { cls := .none, data := .fields ps } := hk0 _ _ hPs0
  have lim2 : hz0.NoLimit := I1.nolimit
  have cd : PySem.W.CodeHd hz0 c P := TB.code.keeps fun b u e => I1.bk b u e
  have wlt : ∀ b ∈ [s0.heap.objs.size + 4, s0.heap.objs.size + 3, s0.heap.objs.size, s0.heap.objs.size + 1], s0.heap.objs.size ≤ b := fun b hb => by
    simp only [List.not_mem_nil, List.mem_cons, or_false] at hb
    rcases hb with h | h | h | h <;> (rw [h]; first | exact Nat.le_add_right _ _ | exact Nat.le_refl _)
  have flt : ∀ q ∈ [s0.heap.objs.size + 4, s0.heap.objs.size + 2, s0.heap.objs.size + 3, s0.heap.objs.size, s0.heap.objs.size + 1, a, b], q < hz0.objs.size ∧ q ≠ P := fun q hq => by
    have ha := pl1.lt
    have hb := pl2.lt
    have nPa : a ≠ P := fun e => by
      obtain ⟨o, ho, hc, _⟩ := pl1.isList
      rw [e, hPs0] at ho
      cases ho
      cases hc
    have nPb : b ≠ P := fun e => by
      obtain ⟨o, ho, hc, _⟩ := pl2.isList
      rw [e, hPs0] at ho
      cases ho
      cases hc
    simp only [List.not_mem_nil, List.mem_cons, or_false] at hq
    have hP2 : (P : Nat) < s0.heap.objs.size := hPlt0
    have ha2 : (a : Nat) < s0.heap.objs.size := ha
    have hb2 : (b : Nat) < s0.heap.objs.size := hb
    rw [hsz0]
    rcases hq with h | h | h | h | h | h | h
    · rw [h]; exact ⟨Nat.add_lt_add_left (by decide) _, Nat.ne_of_gt (Nat.lt_of_lt_of_le hPlt0 (Nat.le_add_right _ _))⟩
    · rw [h]; exact ⟨Nat.add_lt_add_left (by decide) _, Nat.ne_of_gt (Nat.lt_of_lt_of_le hPlt0 (Nat.le_add_right _ _))⟩
    · rw [h]; exact ⟨Nat.add_lt_add_left (by decide) _, Nat.ne_of_gt (Nat.lt_of_lt_of_le hPlt0 (Nat.le_add_right _ _))⟩
    · rw [h]; exact ⟨Nat.lt_add_of_pos_right (by decide), Nat.ne_of_gt hPlt0⟩
    · rw [h]; exact ⟨Nat.add_lt_add_left (by decide) _, Nat.ne_of_gt (Nat.lt_of_lt_of_le hPlt0 (Nat.le_add_right _ _))⟩
    · rw [h]; exact ⟨Nat.lt_of_lt_of_le ha (Nat.le_add_right _ _), nPa⟩
    · rw [h]; exact ⟨Nat.lt_of_lt_of_le hb (Nat.le_add_right _ _), nPb⟩
  have grown : ∀ {Qx : Value → Shared → Prop}, (∀ (code : Value) (h3 : Heap) (tk : Nat) (qs : Array Value), Heap.ExtBut P hz0 h3 → hz0.objs.size ≤ h3.objs.size → h3.get? P = some { cls := .none, data := .fields qs } → (∃ more, qs = ps ++ more) → TriplesOk qs.toList → Qx code { s0 with heap := h3, toks := tk }) →
      wpAny (model X.prog X.w) X.A (genexprCode X.env gpos (X.env.qual ++ "<genexpr>") scope) Qx X.xe { s0 with heap := hz0 } := fun {Qx} done => by
    cases among : codeAmong gpos ps.toList with
    | some cv => exact wpAny_genexprCode_hit hcode (cd.code hPs ht) among (done cv hz0 s0.toks ps (Heap.ExtBut.refl _ _) (Nat.le_refl _) hPs ⟨#[], by simp⟩ ht)
    | none =>
      refine wpAny_genexprCodeX hcode (cd.code hPs ht) (cd.tab hPs) among fun nc nh ntk nx nge nlt nco _ ntab _ => ?_
      obtain ⟨_, _, _, _, _, _, _, _, _, _, _, _, _, _, _, _, _, _, _, ntr, _⟩ := nco
      exact done _ nh ntk _ nx (Nat.le_trans nge (Nat.le_of_lt nlt)) ntab.2 ⟨_, rfl⟩ ntr
  refine ⟨lim2, grown fun code h3 tk qs hx hsz hP3 hmore ht3 => ?_⟩
  obtain ⟨bm, ob, e1, e2', e3, e4, e5, e6, e7, e8⟩ := TB.bm
  have hcP : ¬ cStatics = P := fun e => by
    obtain ⟨_, ⟨o2, _, _, at2, dd2, _⟩, _⟩ := I1.nolimit
    rw [e, hPs] at at2
    obtain rfl := Option.some.inj at2
    cases dd2
  have hcl : cStatics < s0.heap.objs.size := let ⟨_, hns, _⟩ := I0.nolimit; hns.lt
  have keep3 : ∀ b u, b ≠ P → s0.heap.get? b = some u → h3.get? b = some u := fun b u hb e => hx b u hb (hk0 b u e)
  refine wpAny_builtinsFor (m := X.mg) (by rw [I1.ok.glob]; exact (I1.mod.glob.keeps I1.bk).extBut hx TB.gP) e1 e2' (keep3 _ _ e4 (I0.bk _ _ e5)) e6 e7 e8 ?_
  refine ⟨s0.heap.objs.size + 4, _, _, _, _, _, _, (fun _ => true), (fun i y => ∃ x1 y1, ns[i]? = some x1 ∧ ms[i]? = some y1 ∧ y = .bool (decide (x1 < y1))), rfl, W, (fun i vals hv => let ⟨x, y, _, _, ev⟩ := hv; ⟨x, y, ev⟩), ?_, ?_, lim2.extBut hx hcP, ?_, ?_, ?_⟩
  · refine (W X.A hr.hd).frame _ _ _ hst fun q hq u e => hx q u (flt q hq).2 e
  · intro q hq
    exact Nat.lt_of_lt_of_le (flt q hq).1 hsz
  · intro z
    exact absurd (wlt _ z) (Nat.not_le_of_gt hcl)
  · intro href hhref
    refine ⟨fun A' E' i va vb s₂ m₂ hA hPv hn hma hmb hk => ?_, fun A' E' i va vb s₂ m₂ hA hPv hp hn hma hmb hk => ?_⟩
    · simp only [List.forIn_nil]
      exact wpAny_pure (And.intro rfl (GxR.keeps_refl _))
    · obtain ⟨x, y, hx1, hy1, ev⟩ := hPv
      obtain ⟨rfl, rfl⟩ : va = x ∧ vb = y := by simpa using congrArg Array.toList ev
      obtain ⟨x1, t1, hxn, rfl⟩ := ints_at rv (by simpa using hx1)
      obtain ⟨y1, t2, hyn, rfl⟩ := ints_at rv2 (by simpa using hy1)
      refine wpAny_Compare1 ?_
      refine wpAny_Name (wpAny_loadName_local S.kind S.la hn hma ?_) hda
      refine wpAny_Name (wpAny_loadName_local S.kind S.lb hn hmb ?_) hdb
      exact lt_int ⟨⟨x1, y1, hxn, hyn, rfl⟩, keeps_refl _⟩
  · intro g h5 _ _ hgb _ _ hk5 W5 hat
    simp only [List.length_range, GxR.passing_true] at W5
    have en : min its.toArray.size its2.toArray.size = min ns.length ms.length := by rw [List.size_toArray, List.size_toArray, l1, l2]
    refine hQ ns ms H1 g _ q1 ?_
    rw [← en]
    refine ⟨_, _, _, _, _, W5.in4_1, hat, ?_, fun s' hm => ?_⟩
    · intro j y sj Qj Ej hy hQj
      obtain ⟨i, hij, x1, y1, hxn, hyn, rfl⟩ := hy
      obtain ⟨_, ej⟩ := List.getElem?_eq_some_iff.mp hij
      rw [List.getElem_range] at ej
      subst ej
      have e9 : trZ ns ms j = decide (x1 < y1) := by unfold trZ; rw [hxn, hyn]
      have hQ2 : Qj (trZ ns ms j) sj := hQj
      rw [e9] at hQ2
      exact wpAny_truthy_bool hQ2
    · obtain ⟨more, em⟩ := hmore
      have nwr : ∀ b u, s0.heap.get? b = some u → b ∉ h3.objs.size :: [s0.heap.objs.size + 4, s0.heap.objs.size + 3, s0.heap.objs.size, s0.heap.objs.size + 1] := fun b u e hb => by
        have hl := Heap.lt_size e
        rcases memC hb with z | z
        · rw [z] at hl
          have h9 : (h3.objs.size : Nat) < s0.heap.objs.size := hl
          rw [hsz0] at hsz
          have h10 : s0.heap.objs.size + 5 ≤ (h3.objs.size : Nat) := hsz
          omega
        · exact absurd (wlt _ z) (Nat.not_le_of_gt hl)
      have J := inv_tab (more := more) (h' := s'.heap) (g' := s'.gens) (d' := s'.drawn) (t' := s'.toks) I0 hP (fun b u hb e => hm.heap b u (nwr b u e) (hk5 b u (keep3 b u hb e)))
        (by rw [← em]; exact hm.heap P _ (nwr P _ hPs0) (hk5 P _ hP3)) (AllBare.movedS (I0.bare.push hgb) hm)
      rw [sh_eta s0 s' hm.os] at J
      exact ⟨upd H1 P (.tbl (ps ++ more)), ⟨⟨_, upd_same, by rw [← em]; exact ht3⟩, fun b n => upd_ne n⟩, J⟩
end
end Edge
/-! relays. -/
namespace Edge
open GxR L2 PyProof.Rows PySem PySem.Spec
/-! ### all of a zip -/
theorem genS2_of {env : Env} {scope : Scope} {xa xb : PySem.Str} (h1 : scope.kind = .function) (h2 : scope.isCoroutine = false) (h3 : ∀ y ∈ scope.names, y.2 ≠ .cell) (h4 : scope.names.lookup (".0" : PySem.Str) = some NameKind.local)
    (h5 : scope.names.lookup xa = some .local) (h6 : scope.names.lookup xb = some .local) (h7 : xa ≠ xb) (h8 : ∀ y ∈ scope.names, y.2 ≠ .free) : GenS2 env scope xa xb := ⟨h1, h2.symm, h3, h4, h5, h6, h7, fun y hy e => absurd e (h8 y hy)⟩
def tAllZ (K : PySem.W.Frag) (P : Addr) (ta : TA) : TE := fun σ H Q => ta σ H fun vs H1 => ∃ (a b : Addr) (ns ms : List Int), vs = [.ref a, .ref b] ∧ SqL K H1 a (ns.map V.int) ∧ SqL K H1 b (ms.map V.int) ∧ TabG H1 P ∧ ∀ H2 c, Tabbed P H1 H2 → Q (.bl c) H2
section
variable {X : Cx}
theorem pe_allZ {c P : Addr} {e e2 : Expr} {xa xb : PySem.Str} {pa pb pt px pp p1 p2 p3 gpos p pos : Pos} {kt : Nat} {scope : Scope} {ta : TA} {k : Nat}
    (hr : Room k X.A) (hg0 : Gl X "all") (hm0 : X.mg "all" = none) (hb : bootBuiltins "all" = some (.builtin "all")) (TB : TabB X.base X.mg c P) (hcode : X.env.code = .ref c) (S : GenS2 X.env scope xa xb) (hg : Gl X "zip") (hm : X.mg "zip" = none) (hi : PA X [e, e2] ta)
    (hss : starEach [e, e2] X.env = (false, eval e X.env) :: starEach [e2] X.env := by rfl) (hpl : (backTo pp (starEach [e2] X.env)).any (·.1) = false := by rfl)
    (hs : ∀ v, genFold (.Call (.Name "zip" px) [e, e2] [] pp) X.env v = pure v := by intro v; rfl)
    (hda : (xa == ("__debug__" : PySem.Str)) = false := by decide) (hdb : (xb == ("__debug__" : PySem.Str)) = false := by decide)
    (he : starEach [.GeneratorExp (.Compare (.Name xa p1) [.Lt] [.Name xb p2] p3) [⟨.Tuple [.Name xa pa, .Name xb pb] kt pt, .Call (.Name "zip" px) [e, e2] [] pp, [], 0⟩] scope gpos] X.env = (false, eval (.GeneratorExp (.Compare (.Name xa p1) [.Lt] [.Name xb p2] p3) [⟨.Tuple [.Name xa pa, .Name xb pb] kt pt, .Call (.Name "zip" px) [e, e2] [] pp, [], 0⟩] scope gpos) X.env) :: starEach [] X.env := by rfl) :
    PE X (.Call (.Name "all" p) [.GeneratorExp (.Compare (.Name xa p1) [.Lt] [.Name xb p2] p3) [⟨.Tuple [.Name xa pa, .Name xb pb] kt pt, .Call (.Name "zip" px) [e, e2] [] pp, [], 0⟩] scope gpos] [] pos) (tAllZ X.K P ta) := by
  refine ⟨fun pn0 s σ H Q I h => ?_⟩
  refine wpAny_Call_Name_kw (ld_blt I hg0 hm0 hb ?_)
  refine PyProof.Rows.callWith_builtin1 (hplain := (by rfl)) ?_ he
  rw [he]
  show wpAny _ _ (spliced ((false, eval (.GeneratorExp (.Compare (.Name xa p1) [.Lt] [.Name xb p2] p3) [⟨.Tuple [.Name xa pa, .Name xb pb] kt pt, .Call (.Name "zip" px) [e, e2] [] pp, [], 0⟩] scope gpos) X.env) :: backTo pos (starEach [] X.env))) _ _ s
  refine Calls.spliced_cons (gen_zip (R := fun ns ms H1 => ∀ H2 c, Tabbed P H1 H2 → Q (.bl c) H2) hr TB hcode S hg hm hi hss hpl hs I hda hdb h fun ns ms H1 g s5 hR hG => ?_)
  obtain ⟨fp, wr, G, F, St, Wk, st0, tru, left⟩ := hG
  refine Calls.spliced_nil ?_
  refine call_all_walkS (Wk.self 0 _ _ _ st0 ⟨g, fp, wr, G, _, F, St, _, rfl, Wk, st0, tru, fun s9 mv => ?_⟩)
  obtain ⟨H2, tb, J⟩ := left s9 mv
  exact ⟨.bl _, H2, J, rfl, hR H2 _ tb⟩
end
/-! ### promises -/
/-- is_ordered's code object and its table -/
def zc (K : PySem.W.Frag) : Addr := He.codeOf K ("is_ordered", none)
def zt (K : PySem.W.Frag) : Addr := He.tabOf K (zc K)
/-- all but the table is as before, the table may have grown -/
def Tabs (P : Addr) (H H' : Hp) : Prop := TabG H' P ∧ ∀ b o, H b = some o → b ≠ P → H' b = some o
theorem tabG_same {P : Addr} {H H' : Hp} (e : Same H H') (t : TabG H P) : TabG H' P := let ⟨ps, h, k⟩ := t; ⟨ps, e _ _ h, k⟩
theorem tabs_same {P : Addr} {H H' : Hp} (e : Same H H') (t : TabG H P) : Tabs P H H' := ⟨tabG_same e t, fun b o h _ => e b o h⟩
def spOrdered (K : PySem.W.Frag) : Sp := fun vs H Q _ => ∃ (a : Addr) (ns : List Int), vs = [.ref a] ∧ SqL K H a (ns.map V.int) ∧ TabG H (zt K) ∧ ∀ H' c, Tabs (zt K) H H' → Q (.bl c) H'
section
variable {P : Program} {w : World} {K : PySem.W.Frag} {mg : PySem.Str → Option Value} {base : Heap}
theorem kept0C {x qual : PySem.Str} {params : Arguments} {body : List Stmt} {scope : Scope} {N ps : List PySem.Str} {k : Nat} {sp : Sp} {p : He.Defn} (F : ∃ fd, FunD K x qual params body scope [] [] (He.fAd K p) fd) (S : FnScope N ps scope) (B : Bnd x qual params body scope ps) (len : ∀ vs H Q E, sp vs H Q E → vs.length = ps.length)
    (walk : ∀ (A : Around) (outer : List Env) (s : Shared) (H : Hp) (vs : List V) (Q : VK) (E : XK), Room k (A.deeper (envOfC qual scope s.heap.objs.size (He.fAd K p) (.ref (He.codeOf K p)))) → sp vs H Q E →
      ∃ t, PSs (cxOf CX0 P w K mg base N qual scope (He.fAd K p) (.ref (He.codeOf K p)) A outer s H E).nox body t ∧ t { nx := fun _ H' => Q .non H', rt := Q } (start N vs) H) : Kept P w K mg base CX0 (k + 1) (He.fAd K p) ps sp := by
  obtain ⟨fd, F⟩ := F
  refine ⟨F.kp, fd, F.bindsN B, ?_⟩
  obtain ⟨_, _, _, _, _, _, _, cdv, _, _, rfl, lk, hcd, _, _⟩ := F.ex
  obtain ⟨c, rfl⟩ := He.codeIn_ref hcd
  have ec : He.codeOf K p = c := He.codeOf_eq lk rfl
  refine fn_of lk hcd S len fun A outer s H vs Q E hr h => ?_
  rw [← ec] at hr ⊢
  obtain ⟨t, a, b⟩ := walk A outer s H vs Q E hr h
  exact ⟨t, a.nox, b⟩
theorem ok_is_ordered (T : Txt K mg) (Z : TabB base mg (zc K) (zt K)) : Kept P w K mg base CX0 1 (He.ga K "is_ordered") ["signal"] (spOrdered K) := by
  refine kept0C (p := ("is_ordered", none)) (T.fn in_is_ordered) sc_is_ordered b_is_ordered (fun vs H Q E h => ?_) (fun A outer s H vs Q E hr h => ?_)
  · obtain ⟨a, ns, rfl, _⟩ := h
    rfl
  · obtain ⟨a, ns, rfl, hS, hT, k⟩ := h
    refine ⟨_, (pss_cons (ps_if (PW.pt (pw_and (pt_truth (pv 0) (by intro _; rfl)) (pw_and1 (pt_cmpR op_lt (pe_ix ix_list (pv 0) pe_int (fun _ _ => rfl)) pe_int (nomark _))))) (pss_one (ps_ret pe_bl)) pss_nil)
      (pss_one (ps_ret (pe_allZ hr (by rfl) (T.fr (x := "all") (by decide +kernel)) (by decide +kernel) Z rfl (genS2_of (by rfl) (by rfl) (by decide +kernel) (by decide +kernel) (by decide +kernel) (by decide +kernel) (by decide) (by decide +kernel)) (by rfl) (T.fr (x := "zip") (by decide +kernel)) (pa_cons (pv 0) (pa_cons (pe_slice sl_list (pv 0) (po_some pe_int) po_none) pa_nil)))))), ?_⟩
    have fin : ∀ q, H q = none → ∃ (a' b' : Addr) (ns' ms : List Int), [V.ref a, V.ref q] = [V.ref a', V.ref b'] ∧ SqL K (upd H q (.lst (cutV (ns.map V.int) (some 1) none))) a' (ns'.map V.int) ∧ SqL K (upd H q (.lst (cutV (ns.map V.int) (some 1) none))) b' (ms.map V.int) ∧
        TabG (upd H q (.lst (cutV (ns.map V.int) (some 1) none))) (zt K) ∧ ∀ H2 c, Tabbed (zt K) (upd H q (.lst (cutV (ns.map V.int) (some 1) none))) H2 → Q (.bl c) H2 := fun q nq => by
      have e1 : Same H (upd H q (.lst (cutV (ns.map V.int) (some 1) none))) := same_put (Same.refl H) nq
      refine ⟨a, q, ns, ns.drop 1, rfl, e1.seq hS, SqL.of (by rw [upd_same, cut_1, List.map_drop]), tabG_same e1 hT, fun H2 c t => k H2 c ⟨t.1, fun b o eb hb => ?_⟩⟩
      rw [t.2 b hb]
      exact e1 _ _ eb
    cases ns with
    | nil =>
      refine ⟨_, rfl, false, .inl ⟨_, hS, rfl⟩, iteF (iteF ?_)⟩
      exact ⟨_, rfl, _, rfl, 1, rfl, a, _, rfl, hS, fin⟩
    | cons n ns =>
      refine ⟨_, rfl, true, .inl ⟨_, hS, rfl⟩, iteT ?_⟩
      refine ⟨_, rfl, a, _, 0, V.int n, rfl, rfl, hS, at_of (j := 0) (by omega) rfl, _, _, rfl, rfl, _, rfl, ite2 (fun _ => ?_) (fun _ => ?_)⟩
      · exact k H _ (tabs_same (Same.refl H) hT)
      · exact ⟨_, rfl, _, rfl, 1, rfl, a, _, rfl, hS, fin⟩
end
end Edge
/-! relays, go on. -/
namespace Edge
open GxR L2 PyProof.Rows PySem PySem.Spec
def AnyInts (H : Hp) (Q : VK) (n : Nat) : Prop := ∀ (H' : Hp) (p : Addr) (ns : List Int), Same H H' → H p = none → H' p = some (.lst (ns.map V.int)) → ns.length ≤ n → Q (.ref p) H'
def spShift (K : PySem.W.Frag) : Sp := fun vs H Q _ => ∃ (a : Addr) (i : Int), vs = [.ref a, .int i] ∧ SqT K H a [] ∧ 0 ≤ i ∧ Q (.int 0) H
def spPlaces (K : PySem.W.Frag) : Sp := fun vs H Q _ => ∃ (r a : Addr) (poll pb : Int) (ps : List Int), vs = [.ref r, .ref a] ∧ SqT K H r [.int poll, .int pb] ∧ RecOk poll pb ∧ SqL K H a (ps.map V.int) ∧ ps.length ≤ 1000 ∧ AnyInts H Q 2000
def spLate (K : PySem.W.Frag) : Sp := fun vs H Q _ => ∃ (r a b : Addr) (poll pb ph st bt : Int) (ps qs : List Int), vs = [.ref r, .int ph, .ref a, .ref b, .int st, .int bt] ∧ SqT K H r [.int poll, .int pb] ∧ RecOk poll pb ∧ SqL K H a (ps.map V.int) ∧ SqL K H b (qs.map V.int) ∧
  ps.length ≤ 1000 ∧ qs.length ≤ 2000 ∧ 0 < bt ∧ bt < 2 ^ 60 ∧ ∀ H' c, Same H H' → Q (.bl c) H'
def spRelay (K : PySem.W.Frag) : Sp := fun vs H Q _ => ∃ (r sh a : Addr) (poll pb ph dl bt : Int) (sig : List Int), vs = [.ref r, .int ph, .int dl, .int bt, .ref sh, .ref a] ∧ SqT K H r [.int poll, .int pb] ∧ RecOk poll pb ∧ SqT K H sh [] ∧ SqL K H a (sig.map V.int) ∧
  sig.length ≤ 1000 ∧ 0 < bt ∧ bt < 2 ^ 60 ∧ TabG H (zt K) ∧ ∀ H' v, Tabs (zt K) H H' → Q v H'
def spBacklogs (K : PySem.W.Frag) : Sp := fun vs H Q _ => ∃ (r a : Addr) (poll pb ph dl bt : Int) (sig : List Int), vs = [.ref r, .int ph, .int dl, .int bt, .ref a] ∧ SqT K H r [.int poll, .int pb] ∧ RecOk poll pb ∧ SqL K H a (sig.map V.int) ∧
  sig.length ≤ 1000 ∧ 0 < bt ∧ bt < 2 ^ 60 ∧ bt < 1073741824 ∧ ∀ H' v, Same H H' → Q v H'
section
variable {P : Program} {w : World} {K : PySem.W.Frag} {mg : PySem.Str → Option Value} {base : Heap}
theorem ok_shift_at (T : Txt K mg) : Kept P w K mg base CX0 1 (He.ga K "shift_at") ["shifts", "at"] (spShift K) := by
  refine kept0 (T.fn in_shift_at) sc_shift_at b_shift_at (fun vs H Q E h => ?_) (fun cdv A outer s H vs Q E hr h => ?_)
  · obtain ⟨a, i, rfl, _⟩ := h
    rfl
  · obtain ⟨a, i, rfl, hS, hi, k⟩ := h
    refine ⟨_, (pss_one (ps_ret (pe_ifExp (pt_cmpR op_lt (pv 1) (pe_callB call_len_seq (by rfl) (T.fr (x := "len") (by decide +kernel)) PySem.boot_len (pa_cons (pv 0) pa_nil)) (nomark _)) (pe_ix ix_tup (pv 0) (pv 1) (fun _ _ => rfl)) pe_int))), ?_⟩
    refine ⟨_, rfl, _, rfl, a, _, rfl, .inr hS, _, _, rfl, rfl, _, rfl, ite2 (fun c => ?_) (fun _ => k)⟩
    have c2 : i < (0 : Nat) := by simpa using c
    omega
theorem ok_places_of (T : Txt K mg) : Kept P w K mg base CX0 2 (He.ga K "places_of") ["receiver", "polls"] (spPlaces K) := by
  refine kept0 (T.fn in_places_of) sc_places_of b_places_of (fun vs H Q E h => ?_) (fun cdv A outer s H vs Q E hr h => ?_)
  · obtain ⟨r, a, poll, pb, ps, rfl, _⟩ := h
    rfl
  · obtain ⟨r, a, poll, pb, ps, rfl, hR, R, hS, hlen, k⟩ := h
    refine ⟨_, (pss_cons (ps_set (i := 2) sc_places_of.nd rfl (Or.inl rfl) (pe_lst (pa_cons pe_int pa_nil)))
      (pss_cons (ps_for PassesOwn.never rfl (pi_zip (by rfl) (T.fr (x := "zip") (by decide +kernel)) (pa_cons (pv 1) (pa_cons (pe_slice sl_list (pv 1) (po_some pe_int) po_none) pa_nil))) (pg_tup (by rfl) (pgs_cons (pg_name (i := 3) sc_places_of.nd rfl (Or.inl rfl)) (pgs_cons (pg_name (i := 4) sc_places_of.nd rfl (Or.inl rfl)) pgs_nil))) (pss_one (ps_expr (pe_bm PySem.F.plainAttrs_list PySem.F.slot_list_append PySem.F.type_list_append mt_append (pv 2) (pa_cons (pe_op op_add (pe_ix ix_list (pv 2) (pe_un un_neg pe_int) (fun _ _ => rfl)) (pc (ok_gap_bits T) (hr.mono (by decide)) (by rfl) (T.g (x := "gap_bits") (by decide +kernel)) (pa_cons (pv 0) (pa_cons (pe_op op_sub (pv 4) (pv 3)) pa_nil)))) pa_nil)))))
      (pss_one (ps_ret (pv 2))))), ?_⟩
    refine ⟨(by rw [sizeLine_eq]; show 1 ≤ _; decide), fun p np => ?_⟩
    have e1 := same_put (Same.refl H) np (o := .lst [.int 0])
    refine ⟨_, rfl, _, rfl, 1, rfl, a, _, rfl, e1.seq hS, fun q nq => ?_⟩
    have npq : p ≠ q := fun e => by rw [← e, upd_same] at nq; cases nq
    rw [cut_1, ← List.map_drop]
    have e2 := same_put e1 (e1.free nq) (o := .lst ((ps.drop 1).map V.int))
    have hp2 : upd (upd H p (.lst [.int 0])) q (.lst ((ps.drop 1).map V.int)) p = some (.lst [.int 0]) := by rw [upd_ne npq, upd_same]
    have hq2 : upd (upd H p (.lst [.int 0])) q (.lst ((ps.drop 1).map V.int)) q = some (.lst ((ps.drop 1).map V.int)) := upd_same
    generalize upd (upd H p (.lst [.int 0])) q (.lst ((ps.drop 1).map V.int)) = G at e2 hp2 hq2
    have nq0 : H q = none := e1.free nq
    refine ⟨a, q, _, _, rfl, e2.seq hS, SqL.of hq2, for_it (walk_zip rfl) (fun i σ H' => ∃ v3 v4 : Option V, σ = [some (.ref r), some (.ref a), some (.ref p), v3, v4] ∧ Same H H' ∧ H' q = some (.lst ((ps.drop 1).map V.int)) ∧ ∃ (ns : List Int) (l : Int), H' p = some (.lst ((ns ++ [l]).map V.int)) ∧ ns.length = i)
      ⟨none, none, rfl, e2, hq2, [], 0, hp2, rfl⟩ (fun i σ H' _ ⟨_, _, _, e, hq, _⟩ => ⟨e.seq hS, SqL.of hq⟩) ?_ ?_⟩
    · rintro i y σ H' H2 hi ⟨v3, v4, rfl, e, hq, ns, l, hp, hns⟩ ⟨t, vx, vy, rfl, nt, rfl, hx, hy⟩
      obtain ⟨x, hxz, rfl⟩ := int_at hx
      obtain ⟨y, hyz, rfl⟩ := int_at hy
      have hil : i < 1000 := by
        have := (List.getElem?_eq_some_iff.mp hxz).1
        omega
      have e3 := same_put e (e.free nt) (o := .tup [.int x, .int y])
      have npt : p ≠ t := ne_of_none hp nt
      have nqt : q ≠ t := ne_of_none hq nt
      have hp3 : upd H' t (.tup [.int x, .int y]) p = some (.lst ((ns ++ [l]).map V.int)) := by rw [upd_ne npt]; exact hp
      refine ⟨t, _, rfl, SqT.of upd_same, rfl, _, _, rfl, _, _, rfl, rfl, ?_⟩
      have hp4 := hp3
      rw [List.map_append] at hp4
      refine ⟨_, rfl, .inl ⟨rfl, _, SqL.of hp3⟩, _, rfl, 1, rfl, p, _, -1, V.int l, rfl, rfl, SqL.of hp4, atI_last _ _, _, rfl, _, rfl, _, rfl, _, _, rfl, rfl, r, poll, pb, _, rfl, same_sqt e3 hR, R, _, _, rfl, rfl, p, _, _, rfl, rfl, hp3, ?_, ?_⟩
      · rw [List.length_map, List.length_append]
        exact small1000 (by show ns.length + 1 ≤ 1000; omega)
      · refine ⟨_, _, rfl, same_put e3 np, by rw [upd_ne npq.symm, upd_ne nqt]; exact hq, ns ++ [l], l + gapBits pb (y - x), ?_, by rw [List.length_append, hns]; rfl⟩
        rw [upd_same, List.map_append (l₁ := ns ++ [l])]
        rfl
    · rintro σ H' ⟨v3, v4, rfl, e, hq, ns, l, hp, hns⟩
      refine ⟨_, rfl, k H' p (ns ++ [l]) e np hp ?_⟩
      rw [List.length_append, hns, List.length_map, List.length_map]
      show min _ _ + 1 ≤ 2000
      omega
theorem ok_is_late (T : Txt K mg) : Kept P w K mg base CX0 2 (He.ga K "is_late") ["receiver", "phase", "polls", "places", "start", "bit_time"] (spLate K) := by
  refine kept0 (T.fn in_is_late) sc_is_late b_is_late (fun vs H Q E h => ?_) (fun cdv A outer s H vs Q E hr h => ?_)
  · obtain ⟨r, a, b, poll, pb, ph, st, bt, ps, qs, rfl, _⟩ := h
    rfl
  · obtain ⟨r, a, b, poll, pb, ph, st, bt, ps, qs, rfl, hR, R, hS, hS2, hlen, hlen2, bt0, bt1, k⟩ := h
    refine ⟨_, (pss_cons (ps_for PassesOwn.never rfl (pi_zip (by rfl) (T.fr (x := "zip") (by decide +kernel)) (pa_cons (pe_slice sl_list (pv 2) (po_some pe_int) po_none) (pa_cons (pv 3) pa_nil))) (pg_tup (by rfl) (pgs_cons (pg_name (i := 6) sc_is_late.nd rfl (Or.inl rfl)) (pgs_cons (pg_name (i := 7) sc_is_late.nd rfl (Or.inl rfl)) pgs_nil))) (pss_one (ps_if (pt_cmpR op_gt (pc (ok_detection_time T) (hr.mono (by decide)) (by rfl) (T.g (x := "detection_time") (by decide +kernel)) (pa_cons (pv 0) (pa_cons (pv 1) (pa_cons (pv 6) pa_nil)))) (pe_op op_add (pv 4) (pe_op op_mul (pe_op op_add (pv 7) pe_int) (pv 5))) (nomark _)) (pss_one (ps_ret pe_bl)) pss_nil)))
      (pss_one (ps_ret pe_bl))), ?_⟩
    refine ⟨_, rfl, 1, rfl, a, _, rfl, hS, fun q nq => ?_⟩
    rw [cut_1, ← List.map_drop]
    have e2 := same_put (Same.refl H) nq (o := .lst ((ps.drop 1).map V.int))
    have hq2 : upd H q (.lst ((ps.drop 1).map V.int)) q = some (.lst ((ps.drop 1).map V.int)) := upd_same
    generalize upd H q (.lst ((ps.drop 1).map V.int)) = G at e2 hq2
    refine ⟨_, rfl, q, b, _, _, rfl, SqL.of hq2, e2.seq hS2, for_it (walk_zip rfl) (fun i σ H' => ∃ v3 v4 : Option V, σ = [some (.ref r), some (.int ph), some (.ref a), some (.ref b), some (.int st), some (.int bt), v3, v4] ∧ Same G H')
      ⟨none, none, rfl, Same.refl G⟩ (fun i σ H' _ ⟨_, _, _, e⟩ => ⟨SqL.of (e _ _ hq2), (e2.trans e).seq hS2⟩) ?_ ?_⟩
    · rintro i y σ H' H2 hi ⟨v3, v4, rfl, e⟩ ⟨t, vx, vy, rfl, nt, rfl, hx, hy⟩
      obtain ⟨x, hxz, rfl⟩ := int_at hx
      obtain ⟨y, hyz, rfl⟩ := int_at hy
      have e3 := same_put e (e.free nt) (o := .tup [.int x, .int y])
      refine ⟨t, _, rfl, SqT.of upd_same, rfl, _, _, rfl, _, _, rfl, rfl, ?_⟩
      have hcp : CMul x poll := .inr ⟨by have := R.p0; omega, by have := R.p1; omega⟩
      have hcb : CMul (y + 1) bt := .inr ⟨by omega, by omega⟩
      refine ⟨_, rfl, _, rfl, _, rfl, r, poll, pb, ph, x, rfl, same_sqt (e2.trans e3) hR, hcp, _, rfl, _, rfl, _, _, rfl, rfl, _, rfl, _, _, rfl, rfl, hcb, _, _, rfl, rfl, _, _, rfl, rfl, _, rfl, ite2 (fun _ => ?_) (fun _ => ?_)⟩
      · exact k _ _ (e2.trans e3)
      · exact ⟨_, _, rfl, e3⟩
    · rintro σ H' ⟨v3, v4, rfl, e⟩
      exact k H' _ (e2.trans e)
theorem ok_relay_signal (T : Txt K mg) (Z : TabB base mg (zc K) (zt K)) : Kept P w K mg base CX0 3 (He.ga K "relay_signal") ["receiver", "phase", "delay", "bit_time", "shifts", "signal"] (spRelay K) := by
  refine kept0 (T.fn in_relay_signal) sc_relay_signal b_relay_signal (fun vs H Q E h => ?_) (fun cdv A outer s H vs Q E hr h => ?_)
  · obtain ⟨r, sh, a, poll, pb, ph, dl, bt, sig, rfl, _⟩ := h
    rfl
  · obtain ⟨r, sh, a, poll, pb, ph, dl, bt, sig, rfl, hR, R, hSh, hS, hlen, bt0, bt1, hT, k⟩ := h
    refine ⟨_, (pss_cons (ps_set (i := 6) sc_relay_signal.nd rfl (Or.inl rfl) (pc (ok_detection_polls T) (hr.mono (by decide)) (by rfl) (T.g (x := "detection_polls") (by decide +kernel)) (pa_cons (pv 0) (pa_cons (pv 1) (pa_cons (pv 5) pa_nil)))))
      (pss_cons (ps_if (pt_not (pt_truth (pv 6) (by intro _; rfl))) (pss_one (ps_ret (pe_lst pa_nil))) pss_nil)
      (pss_cons (ps_set (i := 7) sc_relay_signal.nd rfl (Or.inl rfl) (pc (ok_places_of T) (hr.mono (by decide)) (by rfl) (T.g (x := "places_of") (by decide +kernel)) (pa_cons (pv 0) (pa_cons (pv 6) pa_nil))))
      (pss_cons (ps_set (i := 8) sc_relay_signal.nd rfl (Or.inr rfl) (pe_op op_add (pc (ok_detection_time T) (hr.mono (by decide)) (by rfl) (T.g (x := "detection_time") (by decide +kernel)) (pa_cons (pv 0) (pa_cons (pv 1) (pa_cons (pe_ix ix_list (pv 6) pe_int (fun _ _ => rfl)) pa_nil)))) (pv 2)))
      (pss_cons (ps_setLc (i := 9) (own := [("number", 10), ("place", 11)]) (g := (gTup K 2 (gCons (gName 10) (gCons (gName 11) gNil)))) (tt := tYes) (te := tOp (rI0 fun i j => .int (i + j)) (tOp (rI0 fun i j => .int (i + j)) (tVar 8) (tOp (rI CMul fun i j => .int (i * j)) (tVar 11) (tVar 3))) (tCall (spShift K) [] E0 (tCons (tVar 4) (tCons (tVar 10) tNil)))) rfl sc_relay_signal.nd rfl rfl (sw_true rfl rfl rfl (by decide +kernel)) (pi_enum (by rfl) (T.fr (x := "enumerate") (by decide +kernel)) (pa_cons (pv 7) pa_nil)) (blkOk_by (own := [("number", 10), ("place", 11)]) (N := ["receiver", "phase", "delay", "bit_time", "shifts", "signal", "polls", "places", "start", "sent", "number", "place"]) (sc := defScope s_relay_signal) (by decide +kernel)) (fun _ _ _ _ _ => (pg_tup (by rfl) (pgs_cons (pg_name (i := 10) sc_relay_signal.nd rfl (Or.inl rfl)) (pgs_cons (pg_name (i := 11) sc_relay_signal.nd rfl (Or.inl rfl)) pgs_nil)))) (fun _ _ _ _ _ => pts_nil) (fun _ _ _ _ _ => (pe_op op_add (pe_op op_add (pv 8) (pe_op op_mul (pv 11) (pv 3))) (pc (ok_shift_at T) (hr.mono (by decide)) (by rfl) (T.g (x := "shift_at") (by decide +kernel)) (pa_cons (pv 4) (pa_cons (pv 10) pa_nil))))))
      (pss_cons (ps_if (PW.pt (pw_or (pt_val (pc (ok_is_late T) (hr.mono (by decide)) (by rfl) (T.g (x := "is_late") (by decide +kernel)) (pa_cons (pv 0) (pa_cons (pv 1) (pa_cons (pv 6) (pa_cons (pv 7) (pa_cons (pv 8) (pa_cons (pv 3) pa_nil)))))))) (pw_or1 (pt_not (pt_val (pc (ok_is_ordered T Z) (hr.mono (by decide)) (by rfl) (T.g (x := "is_ordered") (by decide +kernel)) (pa_cons (pv 9) pa_nil))))))) (pss_one (ps_ret pe_non)) pss_nil)
      (pss_one (ps_ret (pv 9))))))))), ?_⟩
    refine ⟨_, rfl, _, rfl, _, rfl, r, a, poll, pb, ph, sig, rfl, hR, R, hS, hlen, fun H1 p e1 np hp => ?_⟩
    have hl : (polls poll ph sig).length ≤ 1000 := Nat.le_trans (polls_len _ _ _) hlen
    generalize polls poll ph sig = ps at hp hl
    cases ps with
    | nil =>
      refine ⟨_, rfl, false, .inl ⟨_, SqL.of hp, rfl⟩, iteT ?_⟩
      exact ⟨Nat.zero_le _, fun q nq => k _ _ (tabs_same (same_put e1 (e1.free nq)) hT)⟩
    | cons p0 ps =>
      refine ⟨_, rfl, true, .inl ⟨_, SqL.of hp, rfl⟩, iteF ?_⟩
      refine ⟨_, rfl, _, rfl, r, p, poll, pb, _, rfl, same_sqt e1 hR, R, SqL.of hp, hl, fun H2 q qs e2 nq hq hql => ?_⟩
      have hp2 := e2 _ _ hp
      have hcp : CMul p0 poll := .inr ⟨by have := R.p0; omega, by have := R.p1; omega⟩
      refine ⟨_, rfl, _, rfl, _, rfl, p, _, 0, V.int p0, rfl, rfl, SqL.of hp2, at_of (j := 0) (by omega) rfl, r, poll, pb, ph, p0, rfl, same_sqt (e1.trans e2) hR, hcp, _, rfl, _, _, rfl, rfl, ?_⟩
      refine ⟨_, rfl, q, _, rfl, SqL.of hq, fun D nD => ?_⟩
      have e12 := e1.trans e2
      refine lc_it walk_enum (fun i H' => Same H2 H' ∧ ∃ ns : List Int, H' D = some (.lst (ns.map V.int)) ∧ ns.length = i) ⟨same_put (Same.refl H2) nD, [], upd_same, rfl⟩ (fun i H' _ ⟨e, _⟩ => SqL.of (e _ _ hq)) ?_ ?_
      · rintro i y H' H3 hi ⟨e, ns, hD, hns⟩ ⟨t, vx, vy, rfl, nt, rfl, hx, hy⟩
        have hx2 : vx = .int (i : Nat) := (Option.some.inj hx).symm
        subst hx2
        obtain ⟨z, hz, rfl⟩ := int_at hy
        have hi2 : i < qs.length := (List.getElem?_eq_some_iff.mp hz).1
        have nDt : D ≠ t := ne_of_none hD nt
        have e3 := same_put e (e.free nt) (o := .tup [.int (i : Nat), .int z])
        have hcb : CMul z bt := .inr ⟨by omega, by omega⟩
        refine ⟨t, _, rfl, SqT.of upd_same, rfl, _, _, rfl, _, _, rfl, rfl, rfl, ?_⟩
        refine ⟨_, rfl, _, rfl, _, rfl, _, _, rfl, rfl, hcb, _, _, rfl, rfl, _, rfl, _, rfl, sh, _, rfl, same_sqt (e12.trans e3) hSh, by omega, _, _, rfl, rfl, ?_⟩
        refine ⟨_, (by rw [upd_ne nDt]; exact hD), (by rw [List.length_map, hns, sizeLine_eq]; omega), same_put e3 nD, ns ++ [ph + p0 * poll + dl + z * bt + 0], ?_, by rw [List.length_append, hns]; rfl⟩
        rw [upd_same, List.map_append]
        rfl
      · rintro H3 ⟨e, ns, hD, hns⟩
        have e13 := e12.trans e
        refine ⟨_, rfl, _, rfl, _, rfl, _, rfl, _, rfl, _, rfl, r, p, q, poll, pb, ph, _, bt, _, _, rfl, same_sqt e13 hR, R, SqL.of (e _ _ hp2), SqL.of (e _ _ hq), hl, hql, bt0, bt1, fun H4 c e4 => ⟨c, rfl, ?_⟩⟩
        have e14 := e13.trans e4
        have hT4 := tabG_same e14 hT
        cases c with
        | true => exact iteT (iteT (k _ _ (tabs_same e14 hT)))
        | false =>
          refine iteF ⟨_, rfl, D, ns, rfl, SqL.of (e4 _ _ hD), hT4, fun H5 c t5 => ⟨c, rfl, ?_⟩⟩
          have t : Tabs (zt K) H H5 := ⟨t5.1, fun b o eb hb => t5.2 b o (e14 _ _ eb) hb⟩
          cases c with
          | true => exact iteF ⟨_, rfl, k _ _ t⟩
          | false => exact iteT (k _ _ t)
theorem ok_backlogs (T : Txt K mg) : Kept P w K mg base CX0 3 (He.ga K "backlogs") ["receiver", "phase", "delay", "bit_time", "signal"] (spBacklogs K) := by
  refine kept0 (T.fn in_backlogs) sc_backlogs b_backlogs (fun vs H Q E h => ?_) (fun cdv A outer s H vs Q E hr h => ?_)
  · obtain ⟨r, a, poll, pb, ph, dl, bt, sig, rfl, _⟩ := h
    rfl
  · obtain ⟨r, a, poll, pb, ph, dl, bt, sig, rfl, hR, R, hS, hlen, bt0, bt1, bt2, k⟩ := h
    refine ⟨_, (pss_cons (ps_set (i := 5) sc_backlogs.nd rfl (Or.inl rfl) (pc (ok_detection_polls T) (hr.mono (by decide)) (by rfl) (T.g (x := "detection_polls") (by decide +kernel)) (pa_cons (pv 0) (pa_cons (pv 1) (pa_cons (pv 4) pa_nil)))))
      (pss_cons (ps_set (i := 6) sc_backlogs.nd rfl (Or.inl rfl) (pe_ifExp (pt_truth (pv 5) (by intro _; rfl)) (pc (ok_places_of T) (hr.mono (by decide)) (by rfl) (T.g (x := "places_of") (by decide +kernel)) (pa_cons (pv 0) (pa_cons (pv 5) pa_nil))) (pe_lst pa_nil)))
      (pss_cons (ps_set (i := 7) sc_backlogs.nd rfl (Or.inl rfl) (pe_lst pa_nil))
      (pss_cons (ps_for PassesOwn.never rfl (pi_zip (by rfl) (T.fr (x := "zip") (by decide +kernel)) (pa_cons (pv 5) (pa_cons (pv 6) pa_nil))) (pg_tup (by rfl) (pgs_cons (pg_name (i := 8) sc_backlogs.nd rfl (Or.inl rfl)) (pgs_cons (pg_name (i := 9) sc_backlogs.nd rfl (Or.inl rfl)) pgs_nil))) (pss_cons (ps_set (i := 10) sc_backlogs.nd rfl (Or.inl rfl) (pe_op op_mul (pe_op op_sub (pv 8) (pe_ix ix_list (pv 5) pe_int (fun _ _ => rfl))) (pe_ix ix_tup (pv 0) pe_int (fun _ _ => rfl))))
      (pss_one (ps_expr (pe_bm PySem.F.plainAttrs_list PySem.F.slot_list_append PySem.F.type_list_append mt_append (pv 7) (pa_cons (pe_op op_sub (pe_op op_add (pv 9) pe_int) (pe_ifExp (pt_cmpR op_lt (pv 10) (pv 2) (nomark _)) pe_int (pe_op op_add (pe_op op_fdiv (pe_op op_sub (pv 10) (pv 2)) (pv 3)) pe_int))) pa_nil))))))
      (pss_one (ps_ret (pv 7))))))), ?_⟩
    refine ⟨_, rfl, _, rfl, _, rfl, r, a, poll, pb, ph, sig, rfl, hR, R, hS, hlen, fun H1 p e1 np hp => ?_⟩
    have hl : (polls poll ph sig).length ≤ 1000 := Nat.le_trans (polls_len _ _ _) hlen
    generalize polls poll ph sig = ps at hp hl
    cases ps with
    | nil =>
      refine ⟨_, rfl, false, .inl ⟨_, SqL.of hp, rfl⟩, iteF ⟨Nat.zero_le _, fun q nq => ?_⟩⟩
      have e2 := same_put (Same.refl H1) nq (o := .lst [])
      have hq : upd H1 q (.lst []) q = some (.lst (([] : List Int).map V.int)) := upd_same
      generalize upd H1 q (.lst []) = H2 at e2 hq
      refine ⟨Nat.zero_le _, fun f nf => ?_⟩
      have e3 := same_put (Same.refl H2) nf (o := .lst [])
      have hf : upd H2 f (.lst []) f = some (.lst []) := upd_same
      generalize upd H2 f (.lst []) = G at e3 hf
      have sHG := (e1.trans e2).trans e3
      have hpG := e3 _ _ (e2 _ _ hp)
      have hqG := e3 _ _ hq
      refine ⟨_, rfl, _, rfl, p, q, _, _, rfl, SqL.of hpG, SqL.of hqG, for_it (walk_zip rfl) (fun i σ H' => ∃ v8 v9 v10 : Option V, σ = [some (.ref r), some (.int ph), some (.int dl), some (.int bt), some (.ref a), some (.ref p), some (.ref q), some (.ref f), v8, v9, v10] ∧ Same H2 H' ∧ ∃ ns : List Int, H' f = some (.lst (ns.map V.int)) ∧ ns.length = i)
        ⟨none, none, none, rfl, e3, [], hf, rfl⟩ (fun i σ H' _ ⟨_, _, _, _, e, _⟩ => ⟨SqL.of (e _ _ (e2 _ _ hp)), SqL.of (e _ _ hq)⟩) ?_ ?_⟩
      · rintro i y σ H' H3 hi ⟨v8, v9, v10, rfl, e, ns, hf2, hns⟩ ⟨t, vx, vy, rfl, nt, rfl, hx, hy⟩
        obtain ⟨x, hxz, rfl⟩ := int_at hx
        obtain ⟨y, hyz, rfl⟩ := int_at hy
        have hil := (List.getElem?_eq_some_iff.mp hxz).1
        obtain ⟨p0, h0⟩ : ∃ p0, ([] : List Int)[0]? = some p0 := ⟨_, List.getElem?_eq_getElem (by omega)⟩
        have e4 := same_put e (e.free nt) (o := .tup [.int x, .int y])
        have nft : f ≠ t := ne_of_none hf2 nt
        have hf3 : upd H' t (.tup [.int x, .int y]) f = some (.lst (ns.map V.int)) := by rw [upd_ne nft]; exact hf2
        have hcp : CMul (x - p0) poll := .inr ⟨by have := R.p0; omega, by have := R.p1; omega⟩
        refine ⟨t, _, rfl, SqT.of upd_same, rfl, _, _, rfl, _, _, rfl, rfl, ?_⟩
        refine ⟨_, rfl, _, rfl, p, _, 0, V.int p0, rfl, rfl, SqL.of (e4 _ _ (e2 _ _ hp)), at_of (j := 0) (by omega) (by rw [List.getElem?_map, h0]; rfl), _, _, rfl, rfl, _, rfl, r, _, 0, V.int poll, rfl, rfl, same_sqt ((e1.trans e2).trans e4) hR, rfl, _, _, rfl, rfl, hcp, ?_⟩
        refine ⟨_, rfl, .inl ⟨rfl, _, SqL.of hf3⟩, _, rfl, _, _, rfl, rfl, _, rfl, _, rfl, _, _, rfl, rfl, _, rfl, ite2 (fun _ => ?_) (fun _ => ?_)⟩
        · refine ⟨_, _, rfl, rfl, f, _, _, rfl, rfl, hf3, (by rw [List.length_map, hns]; exact small1000 (by omega)), ?_⟩
          refine ⟨_, _, _, rfl, same_put e4 nf, ns ++ [y + 1 - 0], ?_, by rw [List.length_append, hns]; rfl⟩
          rw [upd_same, List.map_append]
          rfl
        · refine ⟨_, rfl, _, rfl, _, _, rfl, rfl, _, rfl, _, _, rfl, rfl, ⟨bt0, bt2⟩, _, _, rfl, rfl, _, _, rfl, rfl, f, _, _, rfl, rfl, hf3, (by rw [List.length_map, hns]; exact small1000 (by omega)), ?_⟩
          refine ⟨_, _, _, rfl, same_put e4 nf, ns ++ [y + 1 - (((x - p0) * poll - dl) / bt + 1)], ?_, by rw [List.length_append, hns]; rfl⟩
          rw [upd_same, List.map_append]
          rfl
      · rintro σ H' ⟨v8, v9, v10, rfl, e, _⟩
        exact ⟨_, rfl, k _ _ ((e1.trans e2).trans e)⟩
    | cons p1 ps =>
      refine ⟨_, rfl, true, .inl ⟨_, SqL.of hp, rfl⟩, iteT ?_⟩
      refine ⟨_, rfl, _, rfl, r, p, poll, pb, _, rfl, same_sqt e1 hR, R, SqL.of hp, hl, fun H2 q qs e2 nq hq hql => ?_⟩
      refine ⟨Nat.zero_le _, fun f nf => ?_⟩
      have e3 := same_put (Same.refl H2) nf (o := .lst [])
      have hf : upd H2 f (.lst []) f = some (.lst []) := upd_same
      generalize upd H2 f (.lst []) = G at e3 hf
      have sHG := (e1.trans e2).trans e3
      have hpG := e3 _ _ (e2 _ _ hp)
      have hqG := e3 _ _ hq
      refine ⟨_, rfl, _, rfl, p, q, _, _, rfl, SqL.of hpG, SqL.of hqG, for_it (walk_zip rfl) (fun i σ H' => ∃ v8 v9 v10 : Option V, σ = [some (.ref r), some (.int ph), some (.int dl), some (.int bt), some (.ref a), some (.ref p), some (.ref q), some (.ref f), v8, v9, v10] ∧ Same H2 H' ∧ ∃ ns : List Int, H' f = some (.lst (ns.map V.int)) ∧ ns.length = i)
        ⟨none, none, none, rfl, e3, [], hf, rfl⟩ (fun i σ H' _ ⟨_, _, _, _, e, _⟩ => ⟨SqL.of (e _ _ (e2 _ _ hp)), SqL.of (e _ _ hq)⟩) ?_ ?_⟩
      · rintro i y σ H' H3 hi ⟨v8, v9, v10, rfl, e, ns, hf2, hns⟩ ⟨t, vx, vy, rfl, nt, rfl, hx, hy⟩
        obtain ⟨x, hxz, rfl⟩ := int_at hx
        obtain ⟨y, hyz, rfl⟩ := int_at hy
        have hil := (List.getElem?_eq_some_iff.mp hxz).1
        obtain ⟨p0, h0⟩ : ∃ p0, (p1 :: ps)[0]? = some p0 := ⟨_, List.getElem?_eq_getElem (by omega)⟩
        have e4 := same_put e (e.free nt) (o := .tup [.int x, .int y])
        have nft : f ≠ t := ne_of_none hf2 nt
        have hf3 : upd H' t (.tup [.int x, .int y]) f = some (.lst (ns.map V.int)) := by rw [upd_ne nft]; exact hf2
        have hcp : CMul (x - p0) poll := .inr ⟨by have := R.p0; omega, by have := R.p1; omega⟩
        refine ⟨t, _, rfl, SqT.of upd_same, rfl, _, _, rfl, _, _, rfl, rfl, ?_⟩
        refine ⟨_, rfl, _, rfl, p, _, 0, V.int p0, rfl, rfl, SqL.of (e4 _ _ (e2 _ _ hp)), at_of (j := 0) (by omega) (by rw [List.getElem?_map, h0]; rfl), _, _, rfl, rfl, _, rfl, r, _, 0, V.int poll, rfl, rfl, same_sqt ((e1.trans e2).trans e4) hR, rfl, _, _, rfl, rfl, hcp, ?_⟩
        refine ⟨_, rfl, .inl ⟨rfl, _, SqL.of hf3⟩, _, rfl, _, _, rfl, rfl, _, rfl, _, rfl, _, _, rfl, rfl, _, rfl, ite2 (fun _ => ?_) (fun _ => ?_)⟩
        · refine ⟨_, _, rfl, rfl, f, _, _, rfl, rfl, hf3, (by rw [List.length_map, hns]; exact small1000 (by omega)), ?_⟩
          refine ⟨_, _, _, rfl, same_put e4 nf, ns ++ [y + 1 - 0], ?_, by rw [List.length_append, hns]; rfl⟩
          rw [upd_same, List.map_append]
          rfl
        · refine ⟨_, rfl, _, rfl, _, _, rfl, rfl, _, rfl, _, _, rfl, rfl, ⟨bt0, bt2⟩, _, _, rfl, rfl, _, _, rfl, rfl, f, _, _, rfl, rfl, hf3, (by rw [List.length_map, hns]; exact small1000 (by omega)), ?_⟩
          refine ⟨_, _, _, rfl, same_put e4 nf, ns ++ [y + 1 - (((x - p0) * poll - dl) / bt + 1)], ?_, by rw [List.length_append, hns]; rfl⟩
          rw [upd_same, List.map_append]
          rfl
      · rintro σ H' ⟨v8, v9, v10, rfl, e, _⟩
        exact ⟨_, rfl, k _ _ ((e1.trans e2).trans e)⟩
end
end Edge
/-! bits. -/
namespace Edge
open L2 PyProof.Rows PySem PySem.Spec
/-! ### texts of 0 and 1 -/
def Bits (z : PySem.Str) : Prop := ∀ c ∈ z.cps.toList, c = 48 ∨ c = 49
theorem app_cps (a b : PySem.Str) : (a ++ b).cps.toList = a.cps.toList ++ b.cps.toList := by
  show (a.cps ++ b.cps).toList = _
  rw [Array.toList_append]
theorem bits_app {a b : PySem.Str} (ha : Bits a) (hb : Bits b) : Bits (a ++ b) := fun c hc => by
  rw [app_cps] at hc
  exact (memA hc).elim (ha c) (hb c)
theorem bits_nil : Bits "" := fun c hc => by cases hc
theorem bits_0 : Bits "0" := fun c hc => by
  have h : c ∈ [48] := hc
  exact .inl (memS h)
theorem bits_1 : Bits "1" := fun c hc => by
  have h : c ∈ [49] := hc
  exact .inr (memS h)
theorem bits_cut {z : PySem.Str} (h : Bits z) (lo hi : Option Int) : Bits (cutS z lo hi) := fun c hc => by
  have h2 : c ∈ (z.cps.toList.drop (HT.sIx z.length 0 lo)).take (HT.sIx z.length z.length hi - HT.sIx z.length 0 lo) := by
    unfold cutS at hc
    simpa using hc
  exact h c (List.mem_of_mem_drop (List.mem_of_mem_take h2))
theorem cutS_len (z : PySem.Str) (lo hi : Option Int) : (cutS z lo hi).length = min (HT.sIx z.length z.length hi - HT.sIx z.length 0 lo) (z.length - HT.sIx z.length 0 lo) := by
  unfold cutS
  show ((z.cps.toList.drop (HT.sIx z.length 0 lo)).take (HT.sIx z.length z.length hi - HT.sIx z.length 0 lo)).toArray.size = _
  rw [List.size_toArray, List.length_take]
  rw [List.length_drop, Array.length_toList]
  rfl
theorem cutS_le (z : PySem.Str) (lo hi : Option Int) : (cutS z lo hi).length ≤ z.length := by
  rw [cutS_len]
  omega
theorem join_bits : ∀ {ys : List PySem.Str}, (∀ y ∈ ys, Bits y) → Bits (PySem.Str.join "" ys)
  | [], _ => bits_nil
  | [x], h => h x (List.mem_singleton.mpr rfl)
  | x :: y :: r, h => bits_app (bits_app (h x List.mem_cons_self) bits_nil) (join_bits fun z hz => h z (List.mem_cons_of_mem _ hz))
theorem join_len1 : ∀ {ys : List PySem.Str}, (∀ y ∈ ys, y.length = 1) → (PySem.Str.join "" ys).length = ys.length
  | [], _ => rfl
  | [x], h => h x (List.mem_singleton.mpr rfl)
  | x :: y :: r, h => by
    show ((x ++ "") ++ PySem.Str.join "" (y :: r)).length = _
    rw [Str.length_append, Str.length_append, h x List.mem_cons_self, join_len1 fun z hz => h z (List.mem_cons_of_mem _ hz)]
    show 1 + 0 + _ = _
    rw [List.length_cons, List.length_cons, List.length_cons]
    omega
theorem sum_le {ys : List PySem.Str} {B : Nat} (h : ∀ y ∈ ys, y.length ≤ B) : (ys.map (·.length)).sum ≤ ys.length * B := by
  induction ys with
  | nil => exact Nat.zero_le _
  | cons y ys ih =>
    have h1 := h y List.mem_cons_self
    have h2 := ih fun z hz => h z (List.mem_cons_of_mem _ hz)
    rw [List.map_cons]; rw [List.sum_cons]
    rw [List.length_cons, Nat.succ_mul]
    omega
theorem mul_bits {z : PySem.Str} {n : Int} (h : Bits z) : Bits (Txt.mul z n) := by
  unfold Txt.mul
  split
  · exact bits_nil
  · split
    · exact h
    · have key : ∀ (m : Nat) (a : Array Nat), (∀ c ∈ a.toList, c = 48 ∨ c = 49) → ∀ c ∈ ((List.replicate m z.cps).foldl (· ++ ·) a).toList, c = 48 ∨ c = 49 := by
        intro m
        induction m with
        | zero => intro a ha; exact ha
        | succ m ih =>
          intro a ha
          rw [List.replicate_succ, List.foldl_cons]
          refine ih _ fun c hc => ?_
          rw [Array.toList_append] at hc
          exact (memA hc).elim (ha c) (h c)
      exact key n.toNat #[] fun c hc => by cases hc
theorem str_bit (n : Int) : ((toString (n % 2) : String) : PySem.Str) = "0" ∨ ((toString (n % 2) : String) : PySem.Str) = "1" := by
  rcases Int.emod_two_eq n with h | h
  · rw [h]; exact .inl (by decide)
  · rw [h]; exact .inr (by decide)
theorem int_bit {c : Nat} (h : c = 48 ∨ c = 49) : ∃ b : Int, PySem.intText? ⟨#[c]⟩ = some b ∧ 0 ≤ b ∧ b ≤ 1 := by
  rcases h with rfl | rfl
  · exact ⟨0, by decide +kernel, by decide, by decide⟩
  · exact ⟨1, by decide +kernel, by decide, by decide⟩
theorem rgc8 {n : Nat} (h : n ≤ 100000) : ∃ m : Nat, RgC 0 (n : Nat) 8 m ∧ m ≤ n := by
  refine ⟨(Builtin.Range.rangeSize 0 (n : Nat) 8).toNat, ⟨by decide, by decide, ?_, PyProof.Rows.rangeSize_toNat _ _ _⟩, ?_⟩
  · unfold Builtin.Range.small Builtin.Range.rangeSize
    rw [if_pos (by decide : (8 : Int) > 0)]
    unfold Builtin.Range.rangeFitsLong
    have hm : 0 ≤ (if 0 < ((n : Nat) : Int) then (((n : Nat) : Int) - 0 - 1) / 8 + 1 else 0) ∧ (if 0 < ((n : Nat) : Int) then (((n : Nat) : Int) - 0 - 1) / 8 + 1 else 0) ≤ 100000 := by
      split <;> omega
    generalize (if 0 < ((n : Nat) : Int) then (((n : Nat) : Int) - 0 - 1) / 8 + 1 else 0) = m at hm
    rw [if_pos (by decide : (8 : Int) > 0)]
    rw [decide_eq_true (show (-2 ^ 63 : Int) ≤ 0 by decide), decide_eq_true (show (0 : Int) < 2 ^ 63 by decide), decide_eq_true (show (-2 ^ 63 : Int) ≤ (n : Nat) by omega), decide_eq_true (show ((n : Nat) : Int) < 2 ^ 63 by omega), decide_eq_true (show (-2 ^ 63 : Int) ≤ 8 by decide), decide_eq_true (show (8 : Int) < 2 ^ 63 by decide),
      decide_eq_true (show (-2 ^ 63 : Int) ≤ m by omega), decide_eq_true (show m < 2 ^ 63 by omega), decide_eq_true (show (-2 ^ 63 : Int) ≤ (n : Nat) + (8 - 1) by omega), decide_eq_true (show ((n : Nat) : Int) + (8 - 1) < 2 ^ 63 by omega)]
    simp
  · have h2 := PyProof.Rows.rangeSize_toNat_le 0 (n : Nat) 8
    omega
/-! ### promises -/
def spByteBits : Sp := fun vs H Q _ => ∃ n : Int, vs = [.int n] ∧ ∀ z : PySem.Str, Bits z → z.length ≤ 8 → Q (.str z) H
def spBitsOf (K : PySem.W.Frag) : Sp := fun vs H Q _ => ∃ (a : Addr) (ns : List Int), vs = [.ref a] ∧ SqL K H a (ns.map V.int) ∧ ns.length ≤ 1000 ∧ ∀ H' z, Same H H' → Bits z → z.length ≤ 8 * ns.length → Q (.str z) H'
def spByteOf : Sp := fun vs H Q _ => ∃ z : PySem.Str, vs = [.str z] ∧ Bits z ∧ z.length ≤ 8 ∧ ∀ n : Int, 0 ≤ n → n < 256 → Q (.int n) H
def Bytes (ns : List Int) : Prop := ∀ n ∈ ns, 0 ≤ n ∧ n < 256
def spBytesOf : Sp := fun vs H Q _ => ∃ z : PySem.Str, vs = [.str z] ∧ Bits z ∧ z.length ≤ 1000 ∧ Q .non H ∧ ∀ H' p ns, Same H H' → H p = none → H' p = some (.lst (ns.map V.int)) → Bytes ns → ns.length ≤ z.length → Q (.ref p) H'
section
variable {P : Program} {w : World} {K : PySem.W.Frag} {mg : PySem.Str → Option Value} {base : Heap}
theorem ok_byte_bits (T : Txt K mg) : Kept P w K mg base CX0 1 (He.ga K "byte_bits") ["number"] spByteBits := by
  refine kept0 (T.fn in_byte_bits) sc_byte_bits b_byte_bits (fun vs H Q E h => ?_) (fun cdv A outer s H vs Q E hr h => ?_)
  · obtain ⟨n, rfl, _⟩ := h
    rfl
  · obtain ⟨n, rfl, k⟩ := h
    refine ⟨_, (pss_cons (ps_set (i := 1) sc_byte_bits.nd rfl (Or.inl rfl) pe_str)
      (pss_cons (ps_for PassesOwn.never rfl (pi_range1 (by rfl) (T.fr (x := "range") (by decide +kernel)) (pa_cons (pgi rfl (T.ci (x := "BYTE_SIZE") (i := 8) (by decide +kernel))) pa_nil)) (pg_name (i := 2) sc_byte_bits.nd rfl (Or.inl rfl)) (pss_cons (ps_set (i := 1) sc_byte_bits.nd rfl (Or.inl rfl) (pe_op op_add_str (pv 1) (pe_callTy call_str_int (by rfl) (T.fr (x := "str") (by decide +kernel)) (by decide +kernel) (pa_cons (pe_op op_mod (pv 0) pe_int) pa_nil))))
      (pss_one (ps_set (i := 0) sc_byte_bits.nd rfl (Or.inl rfl) (pe_op op_fdiv (pv 0) pe_int)))))
      (pss_one (ps_ret (pv 1))))), ?_⟩
    refine ⟨8, rfl, by decide, by decide, for_range (fun i σ H' => ∃ (m : Int) (z : PySem.Str) (v : Option V), σ = [some (.int m), some (.str z), v] ∧ H' = H ∧ Bits z ∧ z.length ≤ i) ⟨n, "", none, rfl, rfl, bits_nil, Nat.zero_le _⟩ ?_ ?_⟩
    · rintro i σ H' hi ⟨m, z, v, rfl, rfl, hz, hl⟩
      have hi2 : i < 8 := hi
      have hlog : (m % 2).natAbs.log2 < 1920 := by
        rcases Int.emod_two_eq m with h | h <;> (rw [h]; decide)
      refine ⟨_, rfl, _, rfl, _, _, rfl, rfl, (by show (0 : Int) < 2; decide), _, rfl, hlog, ?_⟩
      have fin : ∀ y : PySem.Str, Bits y → y.length = 1 → (fun x y H Q => ∃ i j, x = V.str i ∧ y = V.str j ∧ i.length + j.length ≤ sizeLine ∧ Q (V.str (i ++ j)) H) (.str z) (.str y) H' fun u H2 => tAsg (tOp (rI CDiv fun i j => .int (i / j)) (tVar 0) (tC (.int 2))) (gName 0) { nx := fun σ' H'' => ∃ (m : Int) (z : PySem.Str) (v : Option V), σ' = [some (.int m), some (.str z), v] ∧ H'' = H' ∧ Bits z ∧ z.length ≤ i + 1, rt := Q, bk := fun _ _ => False, ct := fun _ _ => False } [some (.int m), some u, some (.int (0 + (i : Nat)))] H2 := by
        intro y hy hyl
        refine ⟨z, y, rfl, rfl, (by rw [sizeLine_eq]; omega), _, rfl, _, _, rfl, rfl, ⟨by decide, by decide⟩, m / 2, z ++ y, some (.int (0 + (i : Nat))), rfl, rfl, bits_app hz hy, by rw [Str.length_append]; omega⟩
      rcases str_bit m with e | e
      · obtain ⟨x1, x2, h1, h2, h3, h4⟩ := fin "0" bits_0 rfl
        rw [e]
        exact ⟨x1, x2, h1, h2, h3, h4⟩
      · obtain ⟨x1, x2, h1, h2, h3, h4⟩ := fin "1" bits_1 rfl
        rw [e]
        exact ⟨x1, x2, h1, h2, h3, h4⟩
    · rintro σ H' ⟨m, z, v, rfl, rfl, hz, hl⟩
      exact ⟨_, rfl, k z hz hl⟩
theorem ok_bits_of (T : Txt K mg) : Kept P w K mg base CX0 2 (He.ga K "bits_of") ["numbers"] (spBitsOf K) := by
  refine kept0 (T.fn in_bits_of) sc_bits_of b_bits_of (fun vs H Q E h => ?_) (fun cdv A outer s H vs Q E hr h => ?_)
  · obtain ⟨a, ns, rfl, _⟩ := h
    rfl
  · obtain ⟨a, ns, rfl, hS, hlen, k⟩ := h
    refine ⟨_, (pss_one (ps_ret (pe_join pe_str (pe_lc (own := [("number", 1)]) (g := (gName 1)) (tt := tYes) (te := tCall spByteBits [] E0 (tCons (tVar 1) tNil)) rfl sc_bits_of.nd (pi_list (pv 0)) (blkOk_by (own := [("number", 1)]) (N := ["numbers", "number"]) (sc := defScope s_bits_of) (by decide +kernel)) (fun _ _ _ _ _ => (pg_name (i := 1) sc_bits_of.nd rfl (Or.inl rfl))) (fun _ _ _ _ _ => pts_nil) (fun _ _ _ _ _ => (pc (ok_byte_bits T) (hr.mono (by decide)) (by rfl) (T.g (x := "byte_bits") (by decide +kernel)) (pa_cons (pv 1) pa_nil))))))), ?_⟩
    refine ⟨⟨_, rfl⟩, _, rfl, a, rfl, ⟨_, hS⟩, fun D nD => ?_⟩
    have e1 := same_put (Same.refl H) nD (o := .lst [])
    refine lc_list (K := K) (a := a) (xs := ns.map V.int) (fun i H' => Same H H' ∧ ∃ ys : List PySem.Str, H' D = some (.lst (ys.map V.str)) ∧ ys.length = i ∧ (∀ y ∈ ys, Bits y ∧ y.length ≤ 8)) ⟨e1, [], upd_same, rfl, fun y hy => by cases hy⟩ (fun i H' _ ⟨e, _⟩ => e.seq hS) ?_ ?_
    · rintro i y H' hi ⟨e, ys, hD, hl, hys⟩
      obtain ⟨z, hz, rfl⟩ := int_at hi
      have hi2 : i < ns.length := (List.getElem?_eq_some_iff.mp hz).1
      refine ⟨rfl, _, rfl, _, rfl, fun y hy hyl => ⟨_, hD, (by rw [List.length_map, hl]; exact small1000 (by omega)), same_put e nD, ys ++ [y], ?_, by rw [List.length_append, hl]; rfl, fun x hx => ?_⟩⟩
      · rw [upd_same, List.map_append]
        rfl
      · rcases memA hx with hx | hx
        · exact hys x hx
        · rw [memS hx]
          exact ⟨hy, hyl⟩
    · rintro H' ⟨e, ys, hD, hl, hys⟩
      rw [List.length_map] at hl
      have hs := sum_le (B := 8) fun y hy => (hys y hy).2
      refine ⟨_, D, ys, rfl, rfl, .inl (SqL.of hD), ?_, ?_⟩
      · have z0 : (("" : PySem.Str)).length = 0 := rfl
        rw [z0]
        omega
      · rw [TL.join_eq]
        refine k H' _ e (join_bits fun y hy => (hys y hy).1) ?_
        have hj := StrLaws.join_length_le "" ys
        have z0 : (("" : PySem.Str)).length = 0 := rfl
        rw [z0] at hj
        omega
end
end Edge
/-! bytes, checks. -/
namespace Edge
open L2 PyProof.Rows PySem PySem.Spec
def spAdded : Sp := fun vs H Q _ => ∃ x y : PySem.Str, vs = [.str x, .str y] ∧ x.length ≤ y.length ∧ y.length ≤ 1000 ∧ ∀ H' z, Same H H' → Bits z → z.length = x.length → Q (.str z) H'
def spRemainder : Sp := fun vs H Q _ => ∃ g z : PySem.Str, vs = [.str g, .str z] ∧ Bits z ∧ 1 ≤ g.length ∧ g.length ≤ 100 ∧ z.length ≤ 2000 ∧ ∀ H' y, Same H H' → Bits y → y.length ≤ z.length → Q (.str y) H'
def spCheck : Sp := fun vs H Q _ => ∃ g z : PySem.Str, vs = [.str g, .str z] ∧ Bits z ∧ 1 ≤ g.length ∧ g.length ≤ 100 ∧ z.length ≤ 1000 ∧ ∀ H' y, Same H H' → Bits y → y.length ≤ z.length + g.length → Q (.str y) H'
def spIntact : Sp := fun vs H Q _ => ∃ g z : PySem.Str, vs = [.str g, .str z] ∧ Bits z ∧ 1 ≤ g.length ∧ g.length ≤ 100 ∧ z.length ≤ 1000 ∧ ∀ H' c, Same H H' → Q (.bl c) H'
def spPack (K : PySem.W.Frag) : Sp := fun vs H Q _ => ∃ (g : PySem.Str) (a : Addr) (ns : List Int), vs = [.str g, .ref a] ∧ SqL K H a (ns.map V.int) ∧ 1 ≤ g.length ∧ g.length ≤ 100 ∧ ns.length ≤ 100 ∧ ∀ H' z, Same H H' → Bits z → z.length ≤ 16 * ns.length + g.length → Q (.str z) H'
def spUnpack : Sp := fun vs H Q _ => ∃ g z : PySem.Str, vs = [.str g, .str z] ∧ Bits z ∧ 1 ≤ g.length ∧ g.length ≤ 100 ∧ z.length ≤ 1000 ∧ (∀ H', Same H H' → Q .non H') ∧ ∀ H' p ns, Same H H' → H p = none → H' p = some (.lst (ns.map V.int)) → Bytes ns → ns.length ≤ z.length → Q (.ref p) H'
section
variable {P : Program} {w : World} {K : PySem.W.Frag} {mg : PySem.Str → Option Value} {base : Heap}
theorem ok_byte_of (T : Txt K mg) : Kept P w K mg base CX0 1 (He.ga K "byte_of") ["bits"] spByteOf := by
  refine kept0 (T.fn in_byte_of) sc_byte_of b_byte_of (fun vs H Q E h => ?_) (fun cdv A outer s H vs Q E hr h => ?_)
  · obtain ⟨z, rfl, _⟩ := h
    rfl
  · obtain ⟨z, rfl, hz, hl, k⟩ := h
    refine ⟨_, (pss_cons (ps_set (i := 1) sc_byte_of.nd rfl (Or.inl rfl) pe_int)
      (pss_cons (ps_for PassesOwn.never rfl (pi_str (pe_revS (pv 0))) (pg_name (i := 2) sc_byte_of.nd rfl (Or.inl rfl)) (pss_one (ps_set (i := 1) sc_byte_of.nd rfl (Or.inl rfl) (pe_op op_add (pe_op op_mul pe_int (pv 1)) (pe_callTy call_int_str (by rfl) (T.fr (x := "int") (by decide +kernel)) (by decide +kernel) (pa_cons (pv 2) pa_nil))))))
      (pss_one (ps_ret (pv 1))))), ?_⟩
    refine ⟨_, rfl, z, rfl, by omega, fun y hy hys => ⟨y, rfl, ?_⟩⟩
    have hyb : Bits y := fun c hc => hz c (hys c hc)
    refine for_it walk_str (fun i σ H' => ∃ (n : Int) (v : Option V), σ = [some (.str z), some (.int n), v] ∧ H' = H ∧ 0 ≤ n ∧ n < 2 ^ i) ⟨0, none, rfl, rfl, by decide, by decide⟩ (fun _ _ _ _ _ => trivial) ?_ ?_
    · rintro i x σ H' H2 hi ⟨n, v, rfl, rfl, n0, n1⟩ ⟨rfl, c, hc, rfl⟩
      have hi2 : i < 8 := by
        have : y.cps.size ≤ z.cps.size := hy
        have h2 : z.cps.size ≤ 8 := hl
        omega
      have hcm : c ∈ y.cps.toList := Array.mem_toList_iff.mpr (Array.mem_of_getElem? hc)
      obtain ⟨b, hb, b0, b1⟩ := int_bit (hyb c hcm)
      refine ⟨_, rfl, _, _, rfl, rfl, .inl ⟨by decide, by decide⟩, _, rfl, _, b, rfl, hb, (by show 1 ≤ 640; decide), _, _, rfl, rfl, 2 * n + b, some (.str ⟨#[c]⟩), rfl, rfl, by omega, ?_⟩
      rw [Int.pow_succ]
      omega
    · rintro σ H' ⟨n, v, rfl, rfl, n0, n1⟩
      refine ⟨_, rfl, k n n0 ?_⟩
      have h1 : y.cps.size ≤ 8 := Nat.le_trans (show y.cps.size ≤ z.cps.size from hy) hl
      have h2 : (2 : Int) ^ y.cps.size ≤ 2 ^ 8 := by
        have h3 : (2 : Nat) ^ y.cps.size ≤ 2 ^ 8 := Nat.pow_le_pow_right (by decide) h1
        exact_mod_cast h3
      have h4 : (2 : Int) ^ 8 = 256 := by decide
      omega
theorem ok_bytes_of (T : Txt K mg) : Kept P w K mg base CX0 2 (He.ga K "bytes_of") ["bits"] spBytesOf := by
  refine kept0 (T.fn in_bytes_of) sc_bytes_of b_bytes_of (fun vs H Q E h => ?_) (fun cdv A outer s H vs Q E hr h => ?_)
  · obtain ⟨z, rfl, _⟩ := h
    rfl
  · obtain ⟨z, rfl, hz, hl, kN, k⟩ := h
    refine ⟨_, (pss_cons (ps_if (pt_cmpR op_ne (pe_op op_mod (pe_callB call_len_str (by rfl) (T.fr (x := "len") (by decide +kernel)) PySem.boot_len (pa_cons (pv 0) pa_nil)) (pgi rfl (T.ci (x := "BYTE_SIZE") (i := 8) (by decide +kernel)))) pe_int (nomark _)) (pss_one (ps_ret pe_non)) pss_nil)
      (pss_one (ps_ret (pe_lc (own := [("at", 1)]) (g := (gName 1)) (tt := tYes) (te := tCall spByteOf [] E0 (tCons (tSl rSlS (tVar 0) (tPart (tVar 1)) (tPart (tOp (rI0 fun i j => .int (i + j)) (tVar 1) (tC (.int 8))))) tNil)) rfl sc_bytes_of.nd (pi_range3 (by rfl) (T.fr (x := "range") (by decide +kernel)) (pa_cons pe_int (pa_cons (pe_callB call_len_str (by rfl) (T.fr (x := "len") (by decide +kernel)) PySem.boot_len (pa_cons (pv 0) pa_nil)) (pa_cons (pgi rfl (T.ci (x := "BYTE_SIZE") (i := 8) (by decide +kernel))) pa_nil)))) (blkOk_by (own := [("at", 1)]) (N := ["bits", "at"]) (sc := defScope s_bytes_of) (by decide +kernel)) (fun _ _ _ _ _ => (pg_name (i := 1) sc_bytes_of.nd rfl (Or.inl rfl))) (fun _ _ _ _ _ => pts_nil) (fun _ _ _ _ _ => (pc (ok_byte_of T) (hr.mono (by decide)) (by rfl) (T.g (x := "byte_of") (by decide +kernel)) (pa_cons (pe_slice sl_str (pv 0) (po_some (pv 1)) (po_some (pe_op op_add (pv 1) (pgi rfl (T.ci (x := "BYTE_SIZE") (i := 8) (by decide +kernel)))))) pa_nil))))))), ?_⟩
    have zs : z.length ≤ sizeLine := by rw [sizeLine_eq]; omega
    refine ⟨_, rfl, z, rfl, zs, _, _, rfl, rfl, (by show (0 : Int) < 8; decide), rfl, _, rfl, ite2 (fun _ => kN) (fun _ => ?_)⟩
    obtain ⟨m, hm, hmz⟩ := rgc8 (n := z.length) (by omega)
    refine ⟨_, rfl, z, rfl, zs, 0, _, 8, m, rfl, hm, fun D nD => ?_⟩
    have e1 := same_put (Same.refl H) nD (o := .lst [])
    refine lc_it walk_rangeC (fun i H' => Same H H' ∧ ∃ ns : List Int, H' D = some (.lst (ns.map V.int)) ∧ ns.length = i ∧ Bytes ns) ⟨e1, [], upd_same, rfl, fun y hy => by cases hy⟩ (fun _ _ _ _ => trivial) ?_ ?_
    · rintro i x H' H2 hi ⟨e, ns, hD, hn, hb⟩ ⟨rfl, rfl⟩
      refine ⟨rfl, _, rfl, _, rfl, _, rfl, _, rfl, _, _, rfl, rfl, _, rfl, z, rfl, zs, _, rfl, bits_cut hz _ _, ?_, fun n n0 n1 => ⟨_, hD, (by rw [List.length_map, hn]; exact small1000 (by omega)), same_put e nD, ns ++ [n], ?_, by rw [List.length_append, hn]; rfl, fun q hq => ?_⟩⟩
      · rw [cutS_len]
        have h1 : (0 : Int) + (i : Nat) * 8 = ((i * 8 : Nat) : Int) := by omega
        have h2 : (0 : Int) + (i : Nat) * 8 + 8 = ((i * 8 + 8 : Nat) : Int) := by omega
        rw [h2, h1, HT.sIx_nat, HT.sIx_nat]
        omega
      · rw [upd_same, List.map_append]
        rfl
      · rcases memA hq with hq | hq
        · exact hb q hq
        · rw [memS hq]
          exact ⟨n0, n1⟩
    · rintro H' ⟨e, ns, hD, hn, hb⟩
      exact k H' D ns e nD hD hb (by omega)
theorem ok_added (T : Txt K mg) : Kept P w K mg base CX0 1 (He.ga K "added") ["one", "two"] spAdded := by
  refine kept0 (T.fn in_added) sc_added b_added (fun vs H Q E h => ?_) (fun cdv A outer s H vs Q E hr h => ?_)
  · obtain ⟨x, y, rfl, _⟩ := h
    rfl
  · obtain ⟨x, y, rfl, hxy, hy, k⟩ := h
    refine ⟨_, (pss_one (ps_ret (pe_join pe_str (pe_lc (own := [("at", 2), ("bit", 3)]) (g := (gTup K 2 (gCons (gName 2) (gCons (gName 3) gNil)))) (tt := tYes) (te := tIf (tTest (tOp rEq (tVar 3) (tOp rIxS (tVar 1) (tVar 2)))) (tC (.str "0")) (tC (.str "1"))) rfl sc_added.nd (pi_enumS (by rfl) (T.fr (x := "enumerate") (by decide +kernel)) (pa_cons (pv 0) pa_nil)) (blkOk_by (own := [("at", 2), ("bit", 3)]) (N := ["one", "two", "at", "bit"]) (sc := defScope s_added) (by decide +kernel)) (fun _ _ _ _ _ => (pg_tup (by rfl) (pgs_cons (pg_name (i := 2) sc_added.nd rfl (Or.inl rfl)) (pgs_cons (pg_name (i := 3) sc_added.nd rfl (Or.inl rfl)) pgs_nil)))) (fun _ _ _ _ _ => pts_nil) (fun _ _ _ _ _ => (pe_ifExp (pt_cmpR op_eq (pv 3) (pe_ix ix_str (pv 1) (pv 2) (fun _ _ => rfl)) (nomark _)) pe_str pe_str)))))), ?_⟩
    refine ⟨⟨_, rfl⟩, _, rfl, x, rfl, fun D nD => ?_⟩
    refine lc_it walk_enumS (fun i H' => Same H H' ∧ ∃ ys : List PySem.Str, H' D = some (.lst (ys.map V.str)) ∧ ys.length = i ∧ (∀ y ∈ ys, Bits y ∧ y.length = 1)) ⟨same_put (Same.refl H) nD, [], upd_same, rfl, fun y hy => by cases hy⟩ (fun _ _ _ _ => trivial) ?_ ?_
    · rintro i u H' H2 hi ⟨e, ys, hD, hl, hys⟩ ⟨t, vx, vy, rfl, nt, rfl, hx, hv⟩
      have hx2 : vx = .int (i : Nat) := (Option.some.inj hx).symm
      subst hx2
      obtain ⟨c, hc, rfl⟩ : ∃ c, x.cps[i]? = some c ∧ vy = .str (sgn c) := by
        have hy2 : Option.map (fun c => V.str ⟨#[c]⟩) (x.cps[i]?) = some vy := hv
        cases q : x.cps[i]? with
        | none =>
          rw [q] at hy2
          cases hy2
        | some c =>
          rw [q] at hy2
          exact ⟨c, rfl, (Option.some.inj hy2).symm⟩
      have hi2 : i < y.cps.toList.length := by
        rw [Array.length_toList]
        have h1 : x.cps.size ≤ y.cps.size := hxy
        omega
      have nDt : D ≠ t := ne_of_none hD nt
      have e2 := same_put e (e.free nt) (o := .tup [.int (i : Nat), .str (sgn c)])
      refine ⟨t, _, rfl, SqT.of upd_same, rfl, _, _, rfl, _, _, rfl, rfl, rfl, ?_⟩
      have hil : i < 1000 := by
        have h1 : x.cps.size ≤ y.cps.size := hxy
        have h2 : y.cps.size ≤ 1000 := hy
        omega
      have fin : ∀ b : PySem.Str, Bits b → b.length = 1 → ∃ acc, upd H' t (.tup [.int (i : Nat), .str (sgn c)]) D = some (.lst acc) ∧ acc.length < sizeLine ∧ Same H (upd (upd H' t (.tup [.int (i : Nat), .str (sgn c)])) D (.lst (acc ++ [.str b]))) ∧ ∃ ys : List PySem.Str, upd (upd H' t (.tup [.int (i : Nat), .str (sgn c)])) D (.lst (acc ++ [.str b])) D = some (.lst (ys.map V.str)) ∧ ys.length = i + 1 ∧ (∀ y ∈ ys, Bits y ∧ y.length = 1) := by
        intro b hb hbl
        refine ⟨_, (by rw [upd_ne nDt]; exact hD), (by rw [List.length_map, hl]; exact small1000 (by omega)), same_put e2 nD, ys ++ [b], ?_, by rw [List.length_append, hl]; rfl, fun q hq => ?_⟩
        · rw [upd_same, List.map_append]
          rfl
        · rcases memA hq with hq | hq
          · exact hys q hq
          · rw [memS hq]
            exact ⟨hb, hbl⟩
      refine ⟨_, rfl, _, rfl, _, rfl, y, _, y.cps.toList[i], rfl, rfl, (by rw [sizeLine_eq]; omega), atI_nat (List.getElem?_eq_getElem hi2), rfl, _, rfl, ite2 (fun _ => ?_) (fun _ => ?_)⟩
      · exact fin "0" bits_0 rfl
      · exact fin "1" bits_1 rfl
    · rintro H' ⟨e, ys, hD, hl, hys⟩
      have hs := sum_le (B := 1) fun y hy => Nat.le_of_eq (hys y hy).2
      have hxl : x.cps.size ≤ 1000 := Nat.le_trans (show x.cps.size ≤ y.cps.size from hxy) hy
      refine ⟨_, D, ys, rfl, rfl, .inl (SqL.of hD), ?_, ?_⟩
      · have z0 : (("" : PySem.Str)).length = 0 := rfl
        rw [z0]
        omega
      · rw [TL.join_eq]
        refine k H' _ e (join_bits fun y hy => (hys y hy).1) ?_
        rw [join_len1 fun y hy => (hys y hy).2]
        exact hl
theorem ok_remainder (T : Txt K mg) : Kept P w K mg base CX0 2 (He.ga K "remainder") ["generator", "bits"] spRemainder := by
  refine kept0 (T.fn in_remainder) sc_remainder b_remainder (fun vs H Q E h => ?_) (fun cdv A outer s H vs Q E hr h => ?_)
  · obtain ⟨g, z, rfl, _⟩ := h
    rfl
  · obtain ⟨g, z, rfl, hz, hg0, hg, hl, k⟩ := h
    refine ⟨_, (pss_cons (ps_set (i := 2) sc_remainder.nd rfl (Or.inl rfl) (pe_callB call_len_str (by rfl) (T.fr (x := "len") (by decide +kernel)) PySem.boot_len (pa_cons (pv 0) pa_nil)))
      (pss_cons (ps_set (i := 3) sc_remainder.nd rfl (Or.inl rfl) (pv 1))
      (pss_cons (ps_for PassesOwn.never rfl (pi_range1 (by rfl) (T.fr (x := "range") (by decide +kernel)) (pa_cons (pe_op op_add (pe_op op_sub (pe_callB call_len_str (by rfl) (T.fr (x := "len") (by decide +kernel)) PySem.boot_len (pa_cons (pv 1) pa_nil)) (pv 2)) pe_int) pa_nil)) (pg_name (i := 4) sc_remainder.nd rfl (Or.inl rfl)) (pss_one (ps_if (pt_cmpR op_eq (pe_ix ix_str (pv 3) (pv 4) (fun _ _ => rfl)) pe_str (nomark _)) (pss_one (ps_set (i := 3) sc_remainder.nd rfl (Or.inl rfl) (pe_op op_add_str (pe_op op_add_str (pe_slice sl_str (pv 3) po_none (po_some (pv 4))) (pc (ok_added T) (hr.mono (by decide)) (by rfl) (T.g (x := "added") (by decide +kernel)) (pa_cons (pe_slice sl_str (pv 3) (po_some (pv 4)) (po_some (pe_op op_add (pv 4) (pv 2)))) (pa_cons (pv 0) pa_nil)))) (pe_slice sl_str (pv 3) (po_some (pe_op op_add (pv 4) (pv 2))) po_none)))) pss_nil)))
      (pss_one (ps_ret (pe_slice sl_str (pv 3) (po_some (pe_op op_add (pe_op op_sub (pe_callB call_len_str (by rfl) (T.fr (x := "len") (by decide +kernel)) PySem.boot_len (pa_cons (pv 3) pa_nil)) (pv 2)) pe_int)) po_none)))))), ?_⟩
    have zs : z.length ≤ sizeLine := by rw [sizeLine_eq]; omega
    refine ⟨_, rfl, g, rfl, (by rw [sizeLine_eq]; omega), _, rfl, _, rfl, z, rfl, zs, _, rfl, _, _, rfl, rfl, _, _, rfl, rfl, _, rfl, (by omega), (by omega), for_range (fun i σ H' => ∃ (y : PySem.Str) (v : Option V), σ = [some (.str g), some (.str z), some (.int (g.length : Nat)), some (.str y), v] ∧ Same H H' ∧ Bits y ∧ y.length = z.length) ⟨z, none, rfl, Same.refl H, hz, rfl⟩ ?_ ?_⟩
    · rintro i σ H' hi ⟨y, v, rfl, e, hy, hyl⟩
      have hi2 : i + g.length ≤ z.length := by omega
      have ys : y.length ≤ sizeLine := by rw [sizeLine_eq]; omega
      have eat : (0 : Int) + (i : Nat) = ((i : Nat) : Int) := by omega
      have eat2 : ((i : Nat) : Int) + (g.length : Nat) = ((i + g.length : Nat) : Int) := by omega
      rw [eat]
      have nx : ∀ (H2 : Hp) (u : PySem.Str), Same H H2 → Bits u → u.length = z.length → ∃ (y : PySem.Str) (v : Option V), [some (V.str g), some (V.str z), some (V.int (g.length : Nat)), some (V.str u), some (V.int (i : Nat))] = [some (.str g), some (.str z), some (.int (g.length : Nat)), some (.str y), v] ∧ Same H H2 ∧ Bits y ∧ y.length = z.length := fun H2 u e2 hu hul => ⟨u, _, rfl, e2, hu, hul⟩
      have body : ∀ Dn : Ends, (∀ (H2 : Hp) (u : PySem.Str), Same H H2 → Bits u → u.length = z.length → Dn.nx [some (V.str g), some (V.str z), some (V.int (g.length : Nat)), some (V.str u), some (V.int (i : Nat))] H2) →
          tAsg (tOp (fun x y H Q => ∃ i j, x = V.str i ∧ y = V.str j ∧ i.length + j.length ≤ sizeLine ∧ Q (V.str (i ++ j)) H) (tOp (fun x y H Q => ∃ i j, x = V.str i ∧ y = V.str j ∧ i.length + j.length ≤ sizeLine ∧ Q (V.str (i ++ j)) H) (tSl rSlS (tVar 3) (fun σ H Q => Q none H) (tPart (tVar 4))) (tCall spAdded [] E0 (tCons (tSl rSlS (tVar 3) (tPart (tVar 4)) (tPart (tOp (rI0 fun i j => .int (i + j)) (tVar 4) (tVar 2)))) (tCons (tVar 0) tNil)))) (tSl rSlS (tVar 3) (tPart (tOp (rI0 fun i j => .int (i + j)) (tVar 4) (tVar 2))) (fun σ H Q => Q none H))) (gName 3) Dn [some (V.str g), some (V.str z), some (V.int (g.length : Nat)), some (V.str y), some (V.int (i : Nat))] H' := by
        intro Dn hD
        have l1 : (cutS y none (some ((i : Nat) : Int))).length = i := by
          rw [cutS_len, HT.sIx_nat]
          show min (min i y.length - 0) (y.length - 0) = i
          omega
        have l2 : (cutS y (some ((i : Nat) : Int)) (some (((i : Nat) : Int) + (g.length : Nat)))).length = g.length := by
          rw [eat2, cutS_len, HT.sIx_nat, HT.sIx_nat]
          omega
        have l3 : (cutS y (some (((i : Nat) : Int) + (g.length : Nat))) none).length = y.length - (i + g.length) := by
          rw [eat2, cutS_len, HT.sIx_nat]
          show min (y.length - min (i + g.length) y.length) (y.length - min (i + g.length) y.length) = _
          omega
        refine ⟨_, rfl, _, rfl, _, rfl, y, rfl, ys, _, rfl, _, rfl, _, rfl, _, rfl, _, rfl, _, _, rfl, rfl, _, rfl, y, rfl, ys, _, rfl, _, _, rfl, by rw [l2]; exact Nat.le_refl _, by omega, fun H2 u e2 hu hul => ?_⟩
        refine ⟨_, _, rfl, rfl, (by rw [l1, hul, l2, sizeLine_eq]; omega), _, rfl, _, rfl, _, rfl, _, _, rfl, rfl, _, rfl, y, rfl, ys, _, _, rfl, rfl, (by rw [Str.length_append, l1, hul, l2, l3, sizeLine_eq]; omega), ?_⟩
        refine hD H2 _ (e.trans e2) (bits_app (bits_app (bits_cut hy _ _) hu) (bits_cut hy _ _)) ?_
        rw [Str.length_append, Str.length_append, l1, hul, l2, l3]
        omega
      by_cases hg0 : i < y.cps.toList.length
      · refine ⟨_, rfl, _, rfl, y, _, y.cps.toList[i], rfl, rfl, ys, atI_nat (List.getElem?_eq_getElem hg0), rfl, _, rfl, ite2 (fun _ => ?_) (fun _ => ?_)⟩
        · exact body _ fun H2 u e2 hu hul => nx H2 u e2 hu hul
        · exact nx H' y e hy hyl
      · exfalso
        rw [Array.length_toList] at hg0
        have h1 : y.cps.size = z.cps.size := hyl
        have h2 : z.length = z.cps.size := rfl
        omega
    · rintro σ H' ⟨y, v, rfl, e, hy, hyl⟩
      refine ⟨_, rfl, _, rfl, y, rfl, (by rw [sizeLine_eq]; omega), _, rfl, _, _, rfl, rfl, _, _, rfl, rfl, _, rfl, y, rfl, (by rw [sizeLine_eq]; omega), k H' _ e (bits_cut hy _ _) (by rw [← hyl]; exact cutS_le _ _ _)⟩
theorem ok_check_bits (T : Txt K mg) : Kept P w K mg base CX0 3 (He.ga K "check_bits") ["generator", "bits"] spCheck := by
  refine kept0 (T.fn in_check_bits) sc_check_bits b_check_bits (fun vs H Q E h => ?_) (fun cdv A outer s H vs Q E hr h => ?_)
  · obtain ⟨g, z, rfl, _⟩ := h
    rfl
  · obtain ⟨g, z, rfl, hz, g0, g1, hl, k⟩ := h
    refine ⟨_, (pss_one (ps_ret (pc (ok_remainder T) (hr.mono (by decide)) (by rfl) (T.g (x := "remainder") (by decide +kernel)) (pa_cons (pv 0) (pa_cons (pe_op op_add_str (pv 1) (pe_op op_repS pe_str (pe_op op_sub (pe_callB call_len_str (by rfl) (T.fr (x := "len") (by decide +kernel)) PySem.boot_len (pa_cons (pv 0) pa_nil)) pe_int))) pa_nil))))), ?_⟩
    have hm : (Txt.mul "0" ((g.length : Nat) - 1 : Int)).length = g.length - 1 := by rw [mul_len rfl (by omega)]; omega
    have hb : Bits (Txt.mul "0" ((g.length : Nat) - 1 : Int)) := mul_bits bits_0
    refine ⟨_, rfl, _, rfl, _, rfl, g, rfl, (by rw [sizeLine_eq]; omega), _, _, rfl, rfl, "0", _, rfl, rfl, Nat.le_refl 1, (by omega), (by omega), z, _, rfl, rfl, (by rw [hm, sizeLine_eq]; omega), ?_⟩
    refine ⟨g, _, rfl, bits_app hz hb, g0, g1, (by rw [Str.length_append, hm]; omega), fun H2 y e2 hy hyl => k H2 y e2 hy ?_⟩
    rw [Str.length_append, hm] at hyl
    omega
theorem ok_is_intact (T : Txt K mg) : Kept P w K mg base CX0 4 (He.ga K "is_intact") ["generator", "bits"] spIntact := by
  refine kept0 (T.fn in_is_intact) sc_is_intact b_is_intact (fun vs H Q E h => ?_) (fun cdv A outer s H vs Q E hr h => ?_)
  · obtain ⟨g, z, rfl, _⟩ := h
    rfl
  · obtain ⟨g, z, rfl, hz, g0, g1, hl, k⟩ := h
    refine ⟨_, (pss_cons (ps_set (i := 2) sc_is_intact.nd rfl (Or.inl rfl) (pe_op op_sub (pe_callB call_len_str (by rfl) (T.fr (x := "len") (by decide +kernel)) PySem.boot_len (pa_cons (pv 0) pa_nil)) pe_int))
      (pss_cons (ps_if (pt_cmpR op_lt (pe_callB call_len_str (by rfl) (T.fr (x := "len") (by decide +kernel)) PySem.boot_len (pa_cons (pv 1) pa_nil)) (pv 2) (nomark _)) (pss_one (ps_ret pe_bl)) pss_nil)
      (pss_cons (ps_set (i := 3) sc_is_intact.nd rfl (Or.inl rfl) (pe_op op_sub (pe_callB call_len_str (by rfl) (T.fr (x := "len") (by decide +kernel)) PySem.boot_len (pa_cons (pv 1) pa_nil)) (pv 2)))
      (pss_one (ps_ret (pe_cmpR op_eq (pc (ok_check_bits T) (hr.mono (by decide)) (by rfl) (T.g (x := "check_bits") (by decide +kernel)) (pa_cons (pv 0) (pa_cons (pe_slice sl_str (pv 1) po_none (po_some (pv 3))) pa_nil))) (pe_slice sl_str (pv 1) (po_some (pv 3)) po_none) (nomark _))))))), ?_⟩
    have gs : g.length ≤ sizeLine := by rw [sizeLine_eq]; omega
    have zs : z.length ≤ sizeLine := by rw [sizeLine_eq]; omega
    refine ⟨_, rfl, g, rfl, gs, _, _, rfl, rfl, _, rfl, z, rfl, zs, _, rfl, _, _, rfl, rfl, _, rfl, ite2 (fun _ => k H _ (Same.refl H)) (fun _ => ?_)⟩
    refine ⟨_, rfl, z, rfl, zs, _, rfl, _, _, rfl, rfl, ?_⟩
    refine ⟨_, rfl, _, rfl, _, rfl, _, rfl, z, rfl, zs, g, _, rfl, bits_cut hz _ _, g0, g1, Nat.le_trans (cutS_le _ _ _) hl, fun H2 y e2 hy hyl => ?_⟩
    exact ⟨_, rfl, _, rfl, _, rfl, z, rfl, zs, rfl, k H2 _ e2⟩
theorem ok_pack (T : Txt K mg) : Kept P w K mg base CX0 4 (He.ga K "pack") ["generator", "numbers"] (spPack K) := by
  refine kept0 (T.fn in_pack) sc_pack b_pack (fun vs H Q E h => ?_) (fun cdv A outer s H vs Q E hr h => ?_)
  · obtain ⟨g, a, ns, rfl, _⟩ := h
    rfl
  · obtain ⟨g, a, ns, rfl, hS, g0, g1, hl, k⟩ := h
    refine ⟨_, (pss_cons (ps_set (i := 2) sc_pack.nd rfl (Or.inl rfl) (pc (ok_bits_of T) (hr.mono (by decide)) (by rfl) (T.g (x := "bits_of") (by decide +kernel)) (pa_cons (pv 1) pa_nil)))
      (pss_one (ps_ret (pe_op op_add_str (pv 2) (pc (ok_check_bits T) (hr.mono (by decide)) (by rfl) (T.g (x := "check_bits") (by decide +kernel)) (pa_cons (pv 0) (pa_cons (pv 2) pa_nil))))))), ?_⟩
    refine ⟨_, rfl, a, ns, rfl, hS, by omega, fun H1 z e1 hz hzl => ?_⟩
    refine ⟨_, rfl, _, rfl, _, rfl, g, z, rfl, hz, g0, g1, by omega, fun H2 y e2 hy hyl => ?_⟩
    refine ⟨_, _, rfl, rfl, (by rw [sizeLine_eq]; omega), k H2 _ (e1.trans e2) (bits_app hz hy) ?_⟩
    rw [Str.length_append]
    omega
theorem ok_unpack (T : Txt K mg) : Kept P w K mg base CX0 5 (He.ga K "unpack") ["generator", "bits"] spUnpack := by
  refine kept0 (T.fn in_unpack) sc_unpack b_unpack (fun vs H Q E h => ?_) (fun cdv A outer s H vs Q E hr h => ?_)
  · obtain ⟨g, z, rfl, _⟩ := h
    rfl
  · obtain ⟨g, z, rfl, hz, g0, g1, hl, kN, k⟩ := h
    refine ⟨_, (pss_cons (ps_if (pt_not (pt_val (pc (ok_is_intact T) (hr.mono (by decide)) (by rfl) (T.g (x := "is_intact") (by decide +kernel)) (pa_cons (pv 0) (pa_cons (pv 1) pa_nil))))) (pss_one (ps_ret pe_non)) pss_nil)
      (pss_one (ps_ret (pc (ok_bytes_of T) (hr.mono (by decide)) (by rfl) (T.g (x := "bytes_of") (by decide +kernel)) (pa_cons (pe_slice sl_str (pv 1) po_none (po_some (pe_op op_add (pe_op op_sub (pe_callB call_len_str (by rfl) (T.fr (x := "len") (by decide +kernel)) PySem.boot_len (pa_cons (pv 1) pa_nil)) (pe_callB call_len_str (by rfl) (T.fr (x := "len") (by decide +kernel)) PySem.boot_len (pa_cons (pv 0) pa_nil))) pe_int))) pa_nil))))), ?_⟩
    have gs : g.length ≤ sizeLine := by rw [sizeLine_eq]; omega
    have zs : z.length ≤ sizeLine := by rw [sizeLine_eq]; omega
    refine ⟨_, rfl, _, rfl, g, z, rfl, hz, g0, g1, hl, fun H1 c e1 => ⟨c, rfl, ?_⟩⟩
    cases c with
    | false => exact iteT (kN H1 e1)
    | true =>
      refine iteF ⟨_, rfl, _, rfl, z, rfl, zs, _, rfl, g, rfl, gs, _, _, rfl, rfl, _, _, rfl, rfl, _, rfl, z, rfl, zs, _, rfl, bits_cut hz _ _, Nat.le_trans (cutS_le _ _ _) hl, kN H1 e1, fun H2 p ns e2 np hp hb hn => ?_⟩
      exact k H2 p ns (e1.trans e2) (e1.free np) hp hb (Nat.le_trans hn (cutS_le _ _ _))
end
end Edge
/-! Sender, Taker. -/
namespace Edge
open L2 PyProof.Rows PySem PySem.Spec
abbrev gnr : PySem.Str := "1011"
theorem gnr_len : gnr.length = 4 := by decide +kernel
def TOk (z : PySem.Str) : Prop := Bits z ∧ z.length ≤ 100
/-! ### a sender, a taker -/
def snF (n : Int) (ls : Addr) (d : Int) : List (PySem.Str × V) := [("window", .int n), ("generator", .str gnr), ("letters", .ref ls), ("done", .int d)]
def tkF (n : Int) (lk : Addr) : List (PySem.Str × V) := [("window", .int n), ("generator", .str gnr), ("letters", .ref lk)]
structure SnAt (K : PySem.W.Frag) (H : Hp) (s ls : Addr) (n d : Int) (us : List V) (ll : List (List Int)) : Prop where
  o : ∃ dx, H s = some (.ins (He.ga K "Sender") dx (snF n ls d))
  l : H ls = some (.lst us)
  t : Tups H us ll
  n0 : 1 ≤ n
  n1 : n ≤ 7
  d0 : 0 ≤ d
  d1 : d ≤ 60
  c : ll.length ≤ 60
  b : ∀ l ∈ ll, l.length ≤ 2
structure TkAt (K : PySem.W.Frag) (H : Hp) (k lk : Addr) (n : Int) (us : List V) (ll : List (List Int)) : Prop where
  o : ∃ dx, H k = some (.ins (He.ga K "Taker") dx (tkF n lk))
  l : H lk = some (.lst us)
  t : Tups H us ll
  n0 : 1 ≤ n
  n1 : n ≤ 7
  b : ∀ l ∈ ll, l.length ≤ 100 ∧ Bytes l
theorem SnAt.ne {K : PySem.W.Frag} {H : Hp} {s ls : Addr} {n d : Int} {us : List V} {ll : List (List Int)} (h : SnAt K H s ls n d us ll) : s ≠ ls := fun e => by
  obtain ⟨dx, ho⟩ := h.o
  rw [e, h.l] at ho
  cases ho
theorem TkAt.ne {K : PySem.W.Frag} {H : Hp} {s ls : Addr} {n : Int} {us : List V} {ll : List (List Int)} (h : TkAt K H s ls n us ll) : s ≠ ls := fun e => by
  obtain ⟨dx, ho⟩ := h.o
  rw [e, h.l] at ho
  cases ho
theorem SnAt.same {K : PySem.W.Frag} {H H' : Hp} {s ls : Addr} {n d : Int} {us : List V} {ll : List (List Int)} (h : SnAt K H s ls n d us ll) (e : Same H H') : SnAt K H' s ls n d us ll :=
  ⟨let ⟨dx, ho⟩ := h.o; ⟨dx, e _ _ ho⟩, e _ _ h.l, h.t.keep (keepT_same e), h.n0, h.n1, h.d0, h.d1, h.c, h.b⟩
theorem TkAt.same {K : PySem.W.Frag} {H H' : Hp} {s ls : Addr} {n : Int} {us : List V} {ll : List (List Int)} (h : TkAt K H s ls n us ll) (e : Same H H') : TkAt K H' s ls n us ll :=
  ⟨let ⟨dx, ho⟩ := h.o; ⟨dx, e _ _ ho⟩, e _ _ h.l, h.t.keep (keepT_same e), h.n0, h.n1, h.b⟩
/-! ### promises -/
def spModulus : Sp := fun vs H Q _ => ∃ n : Int, vs = [.int n] ∧ Q (.int (n + 1)) H
def spSnInit (K : PySem.W.Frag) : Sp := fun vs H Q _ => ∃ (m dx : Addr) (n : Int), vs = [.ref m, .int n, .str gnr] ∧ H m = some (.ins (He.ga K "Sender") dx []) ∧
  ∀ H' ls, H ls = none → H' m = some (.ins (He.ga K "Sender") dx (snF n ls 0)) → H' ls = some (.lst []) → (∀ b o, H b = some o → b ≠ m → H' b = some o) → Q .non H'
def spTkInit (K : PySem.W.Frag) : Sp := fun vs H Q _ => ∃ (m dx : Addr) (n : Int), vs = [.ref m, .int n, .str gnr] ∧ H m = some (.ins (He.ga K "Taker") dx []) ∧
  ∀ H' lk, H lk = none → H' m = some (.ins (He.ga K "Taker") dx (tkF n lk)) → H' lk = some (.lst []) → (∀ b o, H b = some o → b ≠ m → H' b = some o) → Q .non H'
def spSnQueue (K : PySem.W.Frag) : Sp := fun vs H Q E => ∃ (s ls q : Addr) (n d : Int) (us : List V) (ll : List (List Int)) (l : List Int), vs = [.ref s, .ref q] ∧ SnAt K H s ls n d us ll ∧ H q = some (.tup (l.map V.int)) ∧ l.length ≤ 2 ∧
  (60 ≤ ll.length → Refuses K H E "too many letters") ∧ (ll.length < 60 → ∀ H', Oth ls H H' → SnAt K H' s ls n d (us ++ [.ref q]) (ll ++ [l]) → Q .non H')
def opn (d n : Int) (c : Nat) : Int := if (c : Int) < d + n then (c : Int) else d + n
def spOpen (K : PySem.W.Frag) : Sp := fun vs H Q _ => ∃ (s ls : Addr) (n d : Int) (us : List V) (ll : List (List Int)), vs = [.ref s] ∧ SnAt K H s ls n d us ll ∧
  ∀ H' q, Same H H' → H q = none → H' q = some (.lst (rgV d (opn d n ll.length))) → Q (.ref q) H'
def spSnPay (K : PySem.W.Frag) : Sp := fun vs H Q _ => ∃ (s ls : Addr) (n d i : Int) (us : List V) (ll : List (List Int)), vs = [.ref s, .int i] ∧ SnAt K H s ls n d us ll ∧ 0 ≤ i ∧ i < ll.length ∧ ∀ H' z, Same H H' → TOk z → Q (.str z) H'
def spSnPays (K : PySem.W.Frag) : Sp := fun vs H Q _ => ∃ (s ls : Addr) (n d : Int) (us : List V) (ll : List (List Int)), vs = [.ref s] ∧ SnAt K H s ls n d us ll ∧
  ∀ H' q (zs : List PySem.Str), Same H H' → H q = none → H' q = some (.lst (zs.map V.str)) → (∀ z ∈ zs, TOk z) → zs.length ≤ 60 → Q (.ref q) H'
def spSnHear (K : PySem.W.Frag) : Sp := fun vs H Q _ => ∃ (s ls : Addr) (n d : Int) (us : List V) (ll : List (List Int)) (z : PySem.Str), vs = [.ref s, .str z] ∧ SnAt K H s ls n d us ll ∧ TOk z ∧
  ∀ H' d' v, Oth s H H' → SnAt K H' s ls n d' us ll → Q v H'
def spTkAnswer (K : PySem.W.Frag) : Sp := fun vs H Q _ => ∃ (k lk : Addr) (n : Int) (us : List V) (ll : List (List Int)), vs = [.ref k] ∧ TkAt K H k lk n us ll ∧ ll.length ≤ 1000 ∧ ∀ H' z, Same H H' → TOk z → Q (.str z) H'
def spTkHear (K : PySem.W.Frag) : Sp := fun vs H Q _ => ∃ (k lk : Addr) (n : Int) (us : List V) (ll : List (List Int)) (z : PySem.Str), vs = [.ref k, .str z] ∧ TkAt K H k lk n us ll ∧ TOk z ∧ ll.length ≤ 900 ∧
  (∀ H', Same H H' → Q .non H') ∧ ∀ H' us' ll' y, Oth lk H H' → TkAt K H' k lk n us' ll' → ll'.length ≤ ll.length + 1 → TOk y → Q (.str y) H'
section
variable {P : Program} {w : World} {K : PySem.W.Frag} {mg : PySem.Str → Option Value} {base : Heap}
theorem ok_modulus_of (T : Txt K mg) : Kept P w K mg base CX0 1 (He.ga K "modulus_of") ["window"] spModulus := by
  refine kept0 (T.fn in_modulus_of) sc_modulus_of b_modulus_of (fun vs H Q E h => ?_) (fun cdv A outer s H vs Q E hr h => ?_)
  · obtain ⟨n, rfl, _⟩ := h
    rfl
  · obtain ⟨n, rfl, k⟩ := h
    exact ⟨_, (pss_one (ps_ret (pe_op op_add (pv 0) pe_int))), _, rfl, _, _, rfl, rfl, k⟩
theorem ok_Sender_init (T : Txt K mg) : Kept P w K mg base CX0 1 (He.ma K (He.ga K "Sender") "__init__") ["self", "window", "generator"] (spSnInit K) := by
  refine kept0 (T.fn in_Sender_init) sc_Sender_init b_Sender_init (fun vs H Q E h => ?_) (fun cdv A outer s H vs Q E hr h => ?_)
  · obtain ⟨m, dx, n, rfl, _⟩ := h
    rfl
  · obtain ⟨m, dx, n, rfl, hp, k⟩ := h
    have C := T.cl (x := "Sender") (by decide +kernel)
    refine ⟨_, (pss_cons (ps_fld (pv 0) (pv 1) rfl)
      (pss_cons (ps_fld (pv 0) (pv 2) rfl)
      (pss_cons (ps_fld (pv 0) (pe_lst pa_nil) rfl)
      (pss_one (ps_fld (pv 0) pe_int rfl))))), ?_⟩
    refine ⟨_, rfl, _, rfl, m, _, dx, _, rfl, hp, C, T.na (by decide +kernel), (by show 0 < 1000; decide), ?_⟩
    refine ⟨_, rfl, _, rfl, m, _, dx, _, rfl, upd_same, C, T.na (by decide +kernel), (by show 1 < 1000; decide), ?_⟩
    refine ⟨Nat.zero_le _, fun q nq => ?_⟩
    have nq0 : H q = none := by
      by_cases e : q = m
      · rw [e, upd_same] at nq
        cases nq
      · rw [upd_ne e, upd_ne e] at nq
        exact nq
    have npq : m ≠ q := ne_of_none hp nq0
    refine ⟨_, rfl, m, _, dx, _, rfl, (upd_ne npq).trans upd_same, C, T.na (by decide +kernel), (by show 2 < 1000; decide), ?_⟩
    refine ⟨_, rfl, m, _, dx, _, rfl, upd_same, C, T.na (by decide +kernel), (by show 3 < 1000; decide), ?_⟩
    refine k _ q nq0 upd_same ?_ fun b o e hb => ?_
    · rw [upd_ne npq.symm, upd_ne npq.symm, upd_same]
    · rw [upd_ne hb, upd_ne hb, upd_ne (ne_of_none e nq0), upd_ne hb, upd_ne hb]
      exact e
theorem ok_Taker_init (T : Txt K mg) : Kept P w K mg base CX0 1 (He.ma K (He.ga K "Taker") "__init__") ["self", "window", "generator"] (spTkInit K) := by
  refine kept0 (T.fn in_Taker_init) sc_Taker_init b_Taker_init (fun vs H Q E h => ?_) (fun cdv A outer s H vs Q E hr h => ?_)
  · obtain ⟨m, dx, n, rfl, _⟩ := h
    rfl
  · obtain ⟨m, dx, n, rfl, hp, k⟩ := h
    have C := T.cl (x := "Taker") (by decide +kernel)
    refine ⟨_, (pss_cons (ps_fld (pv 0) (pv 1) rfl)
      (pss_cons (ps_fld (pv 0) (pv 2) rfl)
      (pss_one (ps_fld (pv 0) (pe_lst pa_nil) rfl)))), ?_⟩
    refine ⟨_, rfl, _, rfl, m, _, dx, _, rfl, hp, C, T.na (by decide +kernel), (by show 0 < 1000; decide), ?_⟩
    refine ⟨_, rfl, _, rfl, m, _, dx, _, rfl, upd_same, C, T.na (by decide +kernel), (by show 1 < 1000; decide), ?_⟩
    refine ⟨Nat.zero_le _, fun q nq => ?_⟩
    have nq0 : H q = none := by
      by_cases e : q = m
      · rw [e, upd_same] at nq
        cases nq
      · rw [upd_ne e, upd_ne e] at nq
        exact nq
    have npq : m ≠ q := ne_of_none hp nq0
    refine ⟨_, rfl, m, _, dx, _, rfl, (upd_ne npq).trans upd_same, C, T.na (by decide +kernel), (by show 2 < 1000; decide), ?_⟩
    refine k _ q nq0 upd_same ?_ fun b o e hb => ?_
    · rw [upd_ne npq.symm, upd_same]
    · rw [upd_ne hb, upd_ne (ne_of_none e nq0), upd_ne hb, upd_ne hb]
      exact e
theorem ok_Sender_queue (T : Txt K mg) (Y : Ext P K) : Kept P w K mg base (L2.CX P w) 4 (He.ma K (He.ga K "Sender") "queue") ["self", "letter"] (spSnQueue K) := by
  refine keptX (T.fn in_Sender_queue) sc_Sender_queue b_Sender_queue (fun vs H Q E h => ?_) (fun cdv A outer s0 H vs Q E hr h => ?_)
  · obtain ⟨s, ls, q, n, d, us, ll, l, rfl, _⟩ := h
    rfl
  · obtain ⟨s, ls, q, n, d, us, ll, l, rfl, S, hq, hl, kF, kA⟩ := h
    have C := T.cl (x := "Sender") (by decide +kernel)
    obtain ⟨dx, ho⟩ := S.o
    refine ⟨_, (pss_cons (ps_if (pt_cmpR op_ge (pe_callB call_len_seq (by rfl) (T.fr (x := "len") (by decide +kernel)) PySem.boot_len (pa_cons (pe_fld (pv 0) rfl) pa_nil)) (pgi rfl (T.ci (x := "LETTERS_MOST") (i := 60) (by decide +kernel))) (nomark _)) (pss_one (ps_raise rfl (takes_of rfl rfl rfl rfl) (pmk_ref T Y (hr.mono (by decide)) (by rfl) pe_str))) pss_nil)
      (pss_one (ps_expr (pe_bm PySem.F.plainAttrs_list PySem.F.slot_list_append PySem.F.type_list_append mt_append (pe_fld (pv 0) rfl) (pa_cons (pe_callTy call_tupleT (by rfl) (T.fr (x := "tuple") (by decide +kernel)) (by decide +kernel) (pa_cons (pv 1) pa_nil)) pa_nil))))), ?_⟩
    have e1 := S.t.1
    refine ⟨_, rfl, s, _, dx, _, _, rfl, ho, C, T.na (by decide +kernel), rfl, ls, _, rfl, .inl (SqL.of S.l), _, _, rfl, rfl, _, rfl, ?_⟩
    rw [e1]
    refine ite2 (fun c => ?_) (fun c => ?_)
    · have c1 : (60 : Int) ≤ (ll.length : Nat) := by simpa using c
      exact kF (by omega)
    · have c1 : ¬ (60 : Int) ≤ (ll.length : Nat) := by simpa using c
      refine ⟨_, rfl, s, _, dx, _, _, rfl, ho, C, T.na (by decide +kernel), rfl, .inl ⟨rfl, _, SqL.of S.l⟩, _, rfl, q, _, rfl, SqT.of hq, ls, _, _, rfl, rfl, S.l, small1000 (by omega), ?_⟩
      have oth : Oth ls H (upd H ls (.lst (us ++ [.ref q]))) := fun b o e hb => by rw [upd_ne hb]; exact e
      refine kA (by omega) _ oth ⟨⟨dx, oth _ _ ho S.ne⟩, upd_same, ?_, S.n0, S.n1, S.d0, S.d1, by rw [List.length_append]; show _ + 1 ≤ 60; omega, fun x hx => ?_⟩
      · exact (S.t.push hq).keep (keepT_put (fun _ _ x => x) S.l)
      · rcases memA hx with hx | hx
        · exact S.b x hx
        · rw [memS hx]
          exact hl
theorem ok_Sender_open_letters (T : Txt K mg) : Kept P w K mg base CX0 1 (He.ma K (He.ga K "Sender") "open_letters") ["self"] (spOpen K) := by
  refine kept0 (T.fn in_Sender_open_letters) sc_Sender_open_letters b_Sender_open_letters (fun vs H Q E h => ?_) (fun cdv A outer s0 H vs Q E hr h => ?_)
  · obtain ⟨s, ls, n, d, us, ll, rfl, _⟩ := h
    rfl
  · obtain ⟨s, ls, n, d, us, ll, rfl, S, k⟩ := h
    have C := T.cl (x := "Sender") (by decide +kernel)
    obtain ⟨dx, ho⟩ := S.o
    have e1 := S.t.1
    have b1 := S.d0
    have b2 := S.d1
    have b3 := S.n0
    have b4 := S.n1
    have b5 := S.c
    refine ⟨_, (pss_one (ps_ret (pe_listRg rfl (by rfl) (T.fr (x := "list") (by decide +kernel)) (prg_2 (by rfl) (T.fr (x := "range") (by decide +kernel)) (pe_fld (pv 0) rfl) (pe_callB (call_min2 rfl) (by rfl) (T.fr (x := "min") (by decide +kernel)) (by decide +kernel) (pa_cons (pe_op op_add (pe_fld (pv 0) rfl) (pe_fld (pv 0) rfl)) (pa_cons (pe_callB call_len_seq (by rfl) (T.fr (x := "len") (by decide +kernel)) PySem.boot_len (pa_cons (pe_fld (pv 0) rfl) pa_nil)) pa_nil))))))), ?_⟩
    refine ⟨_, rfl, s, _, dx, _, _, rfl, ho, C, T.na (by decide +kernel), rfl, _, rfl, s, _, dx, _, _, rfl, ho, C, T.na (by decide +kernel), rfl, _, rfl, s, _, dx, _, _, rfl, ho, C, T.na (by decide +kernel), rfl, _, _, rfl, rfl, _, rfl, s, _, dx, _, _, rfl, ho, C, T.na (by decide +kernel), rfl, ls, _, rfl, .inl (SqL.of S.l), _, _, rfl, _, _, rfl, rfl, ?_, fun q nq => ?_⟩
    · rw [e1]
      refine RgOk.of_le S.d0 ?_ (by omega) ?_ <;> (split <;> omega)
    · refine k _ q (same_put (Same.refl H) nq) nq ?_
      rw [upd_same, e1]
      rfl
end
end Edge
/-! Sender, Taker, go on. -/
namespace Edge
open L2 PyProof.Rows PySem PySem.Spec
section
variable {P : Program} {w : World} {K : PySem.W.Frag} {mg : PySem.Str → Option Value} {base : Heap}
theorem ok_Sender_payload (T : Txt K mg) : Kept P w K mg base CX0 5 (He.ma K (He.ga K "Sender") "payload") ["self", "at"] (spSnPay K) := by
  refine kept0 (T.fn in_Sender_payload) sc_Sender_payload b_Sender_payload (fun vs H Q E h => ?_) (fun cdv A outer s0 H vs Q E hr h => ?_)
  · obtain ⟨s, ls, n, d, i, us, ll, rfl, _⟩ := h
    rfl
  · obtain ⟨s, ls, n, d, i, us, ll, rfl, S, i0, i1, k⟩ := h
    have C := T.cl (x := "Sender") (by decide +kernel)
    obtain ⟨dx, ho⟩ := S.o
    obtain ⟨j, rfl⟩ : ∃ j : Nat, i = (j : Nat) := ⟨i.toNat, by omega⟩
    have hj : j < ll.length := by omega
    have hlj : ll[j]? = some ll[j] := List.getElem?_eq_getElem hj
    generalize ll[j] = l at hlj
    obtain ⟨q, hu, hq⟩ := S.t.2 j l hlj
    have hl2 : l.length ≤ 2 := S.b l (List.mem_of_getElem? hlj)
    refine ⟨_, (pss_one (ps_ret (pc (ok_pack T) (hr.mono (by decide)) (by rfl) (T.g (x := "pack") (by decide +kernel)) (pa_cons (pe_fld (pv 0) rfl) (pa_cons (pe_op op_cat (pe_lst (pa_cons (pe_op op_mod (pv 1) (pc (ok_modulus_of T) (hr.mono (by decide)) (by rfl) (T.g (x := "modulus_of") (by decide +kernel)) (pa_cons (pe_fld (pv 0) rfl) pa_nil))) pa_nil)) (pe_callTy call_list_of (by rfl) (T.fr (x := "list") (by decide +kernel)) (by decide +kernel) (pa_cons (pe_ix ix_list (pe_fld (pv 0) rfl) (pv 1) (fun _ _ => rfl)) pa_nil))) pa_nil))))), ?_⟩
    refine ⟨_, rfl, s, _, dx, _, _, rfl, ho, C, T.na (by decide +kernel), rfl, _, rfl, _, rfl, s, _, dx, _, _, rfl, ho, C, T.na (by decide +kernel), rfl, n, rfl, _, _, rfl, rfl, (by show (0 : Int) < n + 1; have := S.n0; omega), (by rw [sizeLine_eq]; show 1 ≤ _; decide), fun p np => ?_⟩
    have e1 := same_put (Same.refl H) np (o := .lst [.int ((j : Nat) % (n + 1))])
    have hp1 : upd H p (.lst [.int ((j : Nat) % (n + 1))]) p = some (.lst [.int ((j : Nat) % (n + 1))]) := upd_same
    generalize upd H p (.lst [.int ((j : Nat) % (n + 1))]) = H1 at e1 hp1
    have S1 := S.same e1
    refine ⟨_, rfl, s, _, dx, _, _, rfl, e1 _ _ ho, C, T.na (by decide +kernel), rfl, _, rfl, ls, _, _, V.ref q, rfl, rfl, SqL.of S1.l, atI_nat hu, q, _, rfl, .inr (SqT.of (e1 _ _ hq)), fun y ny => ?_⟩
    have e2 := same_put (Same.refl H1) ny (o := .lst (l.map V.int))
    have hy2 : upd H1 y (.lst (l.map V.int)) y = some (.lst (l.map V.int)) := upd_same
    generalize upd H1 y (.lst (l.map V.int)) = H2 at e2 hy2
    refine ⟨p, y, _, _, rfl, rfl, e2 _ _ hp1, hy2, (by rw [List.length_map, sizeLine_eq]; show 1 + l.length ≤ _; omega), fun r nr => ?_⟩
    have e3 := same_put (Same.refl H2) nr (o := .lst ([.int ((j : Nat) % (n + 1))] ++ l.map V.int))
    refine ⟨gnr, r, ((j : Nat) % (n + 1)) :: l, rfl, SqL.of upd_same, (by rw [gnr_len]; decide), (by rw [gnr_len]; decide), (by rw [List.length_cons]; omega), fun H4 z e4 hz hzl => ?_⟩
    rw [List.length_cons, gnr_len] at hzl
    exact k H4 z (((e1.trans e2).trans e3).trans e4) ⟨hz, by omega⟩
theorem ok_Sender_payloads (T : Txt K mg) : Kept P w K mg base CX0 6 (He.ma K (He.ga K "Sender") "payloads") ["self"] (spSnPays K) := by
  refine kept0 (T.fn in_Sender_payloads) sc_Sender_payloads b_Sender_payloads (fun vs H Q E h => ?_) (fun cdv A outer s0 H vs Q E hr h => ?_)
  · obtain ⟨s, ls, n, d, us, ll, rfl, _⟩ := h
    rfl
  · obtain ⟨s, ls, n, d, us, ll, rfl, S, k⟩ := h
    obtain ⟨dx, ho⟩ := S.o
    refine ⟨_, (pss_one (ps_ret (pe_lc (own := [("at", 1)]) (g := (gName 1)) (tt := tYes) (te := tMeth (He.ga K "Sender") "payload" (spSnPay K) [] E0 (tVar 0) (tCons (tVar 1) tNil)) rfl sc_Sender_payloads.nd (pi_list (pm0 (ok_Sender_open_letters T) (T.cl (x := "Sender") (by decide +kernel)) (T.me (x := "Sender") (m := "open_letters") (by decide +kernel)) (hr.mono (by decide)) (pv 0))) (blkOk_by (own := [("at", 1)]) (N := ["self", "at"]) (sc := defScope s_Sender_payloads) (by decide +kernel)) (fun _ _ _ _ _ => (pg_name (i := 1) sc_Sender_payloads.nd rfl (Or.inl rfl))) (fun _ _ _ _ _ => pts_nil) (fun _ _ _ _ _ => (pm (ok_Sender_payload T) (T.cl (x := "Sender") (by decide +kernel)) (T.me (x := "Sender") (m := "payload") (by decide +kernel)) (hr.mono (by decide)) (pv 0) (pa_cons (pv 1) pa_nil)))))), ?_⟩
    refine ⟨_, rfl, s, dx, _, rfl, ho, rfl, s, ls, n, d, us, ll, rfl, S, fun H1 q e1 nq hq => ⟨q, rfl, ⟨_, SqL.of hq⟩, fun D nD => ?_⟩⟩
    have e2 := same_put (Same.refl H1) nD (o := .lst [])
    have b5 := S.c
    have hopn : opn d n ll.length ≤ ll.length := by unfold opn; split <;> omega
    have hlen : (rgV d (opn d n ll.length)).length ≤ 60 := by rw [rgV_length]; have := S.d0; omega
    refine lc_list (K := K) (a := q) (xs := rgV d (opn d n ll.length)) (fun i H' => Same H1 H' ∧ ∃ zs : List PySem.Str, H' D = some (.lst (zs.map V.str)) ∧ zs.length = i ∧ ∀ z ∈ zs, TOk z) ⟨e2, [], upd_same, rfl, fun z hz => by cases hz⟩ (fun i H' _ ⟨e, _⟩ => SqL.of (e _ _ hq)) ?_ ?_
    · rintro i y H' hi ⟨e, zs, hD, hl, hz⟩
      have hi2 : i < (rgV d (opn d n ll.length)).length := (List.getElem?_eq_some_iff.mp hi).1
      have hy : y = .int (d + (i : Nat)) := by
        unfold rgV at hi
        rw [List.getElem?_map, List.getElem?_range (by rw [rgV_length] at hi2; exact hi2)] at hi
        exact (Option.some.inj hi).symm
      subst hy
      have hi3 : (i : Int) < opn d n ll.length - d := by rw [rgV_length] at hi2; omega
      have S1 := (S.same e1).same e
      obtain ⟨dx1, ho1⟩ := S1.o
      refine ⟨rfl, _, rfl, s, dx1, _, rfl, ho1, rfl, _, rfl, s, ls, n, d, _, us, ll, rfl, S1, by have := S.d0; omega, by omega, fun H2 z e2 hz2 => ?_⟩
      refine ⟨_, e2 _ _ hD, (by rw [List.length_map, hl]; exact small1000 (by omega)), same_put (e.trans e2) nD, zs ++ [z], ?_, by rw [List.length_append, hl]; rfl, fun x hx => ?_⟩
      · rw [upd_same, List.map_append]
        rfl
      · rcases memA hx with hx | hx
        · exact hz x hx
        · rw [memS hx]
          exact hz2
    · rintro H' ⟨e, zs, hD, hl, hz⟩
      exact k H' D zs (e1.trans e) (e1.free nD) hD hz (by omega)
theorem ok_Sender_hear (T : Txt K mg) : Kept P w K mg base CX0 6 (He.ma K (He.ga K "Sender") "hear") ["self", "payload"] (spSnHear K) := by
  refine kept0 (T.fn in_Sender_hear) sc_Sender_hear b_Sender_hear (fun vs H Q E h => ?_) (fun cdv A outer s0 H vs Q E hr h => ?_)
  · obtain ⟨s, ls, n, d, us, ll, z, rfl, _⟩ := h
    rfl
  · obtain ⟨s, ls, n, d, us, ll, z, rfl, S, hz, k⟩ := h
    have C := T.cl (x := "Sender") (by decide +kernel)
    obtain ⟨dx, ho⟩ := S.o
    have b0 := S.d0
    have b1 := S.d1
    have b3 := S.n0
    have b5 := S.c
    have kS : ∀ H' v, Same H H' → Q v H' := fun H' v e => k H' d v (fun b o eb _ => e b o eb) (S.same e)
    refine ⟨_, (pss_cons (ps_set (i := 2) sc_Sender_hear.nd rfl (Or.inl rfl) (pc (ok_unpack T) (hr.mono (by decide)) (by rfl) (T.g (x := "unpack") (by decide +kernel)) (pa_cons (pe_fld (pv 0) rfl) (pa_cons (pv 1) pa_nil))))
      (pss_cons (ps_if (PW.pt (pw_or (pt_cmpR op_isN (pv 2) pe_non (nomark _)) (pw_or (pt_cmpR op_ne (pe_callB call_len_seq (by rfl) (T.fr (x := "len") (by decide +kernel)) PySem.boot_len (pa_cons (pv 2) pa_nil)) pe_int (nomark _)) (pw_or1 (pt_cmpR op_ge (pe_ix ix_list (pv 2) pe_int (fun _ _ => rfl)) (pc (ok_modulus_of T) (hr.mono (by decide)) (by rfl) (T.g (x := "modulus_of") (by decide +kernel)) (pa_cons (pe_fld (pv 0) rfl) pa_nil)) (nomark _)))))) (pss_one (ps_ret pe_int)) pss_nil)
      (pss_cons (ps_set (i := 3) sc_Sender_hear.nd rfl (Or.inl rfl) (pe_op op_mod (pe_op op_sub (pe_ix ix_list (pv 2) pe_int (fun _ _ => rfl)) (pe_fld (pv 0) rfl)) (pc (ok_modulus_of T) (hr.mono (by decide)) (by rfl) (T.g (x := "modulus_of") (by decide +kernel)) (pa_cons (pe_fld (pv 0) rfl) pa_nil))))
      (pss_cons (ps_if (pt_cmpR op_gt (pv 3) (pe_callB call_len_seq (by rfl) (T.fr (x := "len") (by decide +kernel)) PySem.boot_len (pa_cons (pm0 (ok_Sender_open_letters T) (T.cl (x := "Sender") (by decide +kernel)) (T.me (x := "Sender") (m := "open_letters") (by decide +kernel)) (hr.mono (by decide)) (pv 0)) pa_nil)) (nomark _)) (pss_one (ps_ret pe_int)) pss_nil)
      (pss_cons (ps_fld (pv 0) (pe_op op_add (pe_fld (pv 0) rfl) (pv 3)) rfl)
      (pss_one (ps_ret (pv 3)))))))), ?_⟩
    refine ⟨_, rfl, s, _, dx, _, _, rfl, ho, C, T.na (by decide +kernel), rfl, _, rfl, gnr, z, rfl, hz.1, (by rw [gnr_len]; decide), (by rw [gnr_len]; decide), Nat.le_trans hz.2 (by decide), fun H1 e1 => ?_, fun H1 p ns e1 np hp hb hn => ?_⟩
    · exact ⟨_, rfl, rfl, _, rfl, iteT (iteT (kS _ _ e1))⟩
    have ho1 := e1 _ _ ho
    have S1 := S.same e1
    refine ⟨_, rfl, rfl, _, rfl, iteF ⟨_, rfl, p, _, rfl, .inl (SqL.of hp), rfl, _, rfl, ?_⟩⟩
    rw [List.length_map]
    refine ite2 (fun _ => iteT (kS _ _ e1)) (fun c => ?_)
    have hn1 : ns.length = 1 := by
      have c2 : ¬ ((ns.length : Nat) : Int) ≠ 1 := by simpa using c
      omega
    obtain ⟨a, rfl⟩ : ∃ a, ns = [a] := by
      match ns, hn1 with
      | [a], _ => exact ⟨a, rfl⟩
    refine ⟨_, rfl, p, _, 0, V.int a, rfl, rfl, SqL.of hp, atI_nat (j := 0) rfl, _, rfl, s, _, dx, _, _, rfl, ho1, C, T.na (by decide +kernel), rfl, n, rfl, _, _, rfl, rfl, _, rfl, ite2 (fun _ => kS _ _ e1) (fun _ => ?_)⟩
    refine ⟨_, rfl, p, _, 0, V.int a, rfl, rfl, SqL.of hp, atI_nat (j := 0) rfl, _, rfl, s, _, dx, _, _, rfl, ho1, C, T.na (by decide +kernel), rfl, _, _, rfl, rfl, _, rfl, s, _, dx, _, _, rfl, ho1, C, T.na (by decide +kernel), rfl, n, rfl, _, _, rfl, rfl, (by show (0 : Int) < n + 1; omega), ?_⟩
    have st0 : 0 ≤ (a - d) % (n + 1) := Int.emod_nonneg _ (by omega)
    refine ⟨_, rfl, _, rfl, s, dx, _, rfl, ho1, rfl, s, ls, n, d, us, ll, rfl, S1, fun H2 q e2 nq hq => ⟨q, _, rfl, .inl (SqL.of hq), _, _, rfl, rfl, _, rfl, ite2 (fun _ => kS _ _ (e1.trans e2)) (fun c => ?_)⟩⟩
    have ho2 := e2 _ _ ho1
    have c2 : ((a - d) % (n + 1)) ≤ ((rgV d (opn d n ll.length)).length : Nat) := by
      have c3 : ¬ (((rgV d (opn d n ll.length)).length : Nat) : Int) < ((a - d) % (n + 1)) := by simpa using c
      omega
    rw [rgV_length] at c2
    have hopn : opn d n ll.length ≤ ll.length := by unfold opn; split <;> omega
    have oth : Oth s H (upd H2 s (.ins (He.ga K "Sender") dx (putF "done" (.int (d + ((a - d) % (n + 1)))) (snF n ls d)))) := fun b o eb hb => by
      rw [upd_ne hb]
      exact e2 _ _ (e1 _ _ eb)
    refine ⟨_, rfl, s, _, dx, _, _, rfl, ho2, C, T.na (by decide +kernel), rfl, _, rfl, _, _, rfl, rfl, _, rfl, s, _, dx, _, rfl, ho2, C, T.na (by decide +kernel), (by show 4 < 1000; decide), _, rfl, ?_⟩
    refine k _ (d + ((a - d) % (n + 1))) _ oth ⟨⟨dx, upd_same⟩, oth _ _ S.l S.ne.symm, S.t.keep (fun b xs hb => oth b _ hb fun e => by rw [e, ho] at hb; cases hb), S.n0, S.n1, by omega, by omega, S.c, S.b⟩
theorem ok_Taker_answer (T : Txt K mg) : Kept P w K mg base CX0 5 (He.ma K (He.ga K "Taker") "answer") ["self"] (spTkAnswer K) := by
  refine kept0 (T.fn in_Taker_answer) sc_Taker_answer b_Taker_answer (fun vs H Q E h => ?_) (fun cdv A outer s0 H vs Q E hr h => ?_)
  · obtain ⟨s, ls, n, us, ll, rfl, _⟩ := h
    rfl
  · obtain ⟨s, ls, n, us, ll, rfl, S, hl, k⟩ := h
    have C := T.cl (x := "Taker") (by decide +kernel)
    obtain ⟨dx, ho⟩ := S.o
    refine ⟨_, (pss_one (ps_ret (pc (ok_pack T) (hr.mono (by decide)) (by rfl) (T.g (x := "pack") (by decide +kernel)) (pa_cons (pe_fld (pv 0) rfl) (pa_cons (pe_lst (pa_cons (pe_op op_mod (pe_callB call_len_seq (by rfl) (T.fr (x := "len") (by decide +kernel)) PySem.boot_len (pa_cons (pe_fld (pv 0) rfl) pa_nil)) (pc (ok_modulus_of T) (hr.mono (by decide)) (by rfl) (T.g (x := "modulus_of") (by decide +kernel)) (pa_cons (pe_fld (pv 0) rfl) pa_nil))) pa_nil)) pa_nil))))), ?_⟩
    refine ⟨_, rfl, s, _, dx, _, _, rfl, ho, C, T.na (by decide +kernel), rfl, _, rfl, s, _, dx, _, _, rfl, ho, C, T.na (by decide +kernel), rfl, ls, _, rfl, .inl (SqL.of S.l), _, rfl, s, _, dx, _, _, rfl, ho, C, T.na (by decide +kernel), rfl, n, rfl, _, _, rfl, rfl, (by show (0 : Int) < n + 1; have := S.n0; omega), (by rw [sizeLine_eq]; show 1 ≤ _; decide), fun p np => ?_⟩
    have e1 := same_put (Same.refl H) np (o := .lst [.int ((us.length : Nat) % (n + 1))])
    refine ⟨gnr, p, [((us.length : Nat) % (n + 1))], rfl, SqL.of upd_same, (by rw [gnr_len]; decide), (by rw [gnr_len]; decide), (by show 1 ≤ 100; decide), fun H4 z e4 hz hzl => ?_⟩
    rw [gnr_len] at hzl
    exact k H4 z (e1.trans e4) ⟨hz, by have : ([((us.length : Nat) % (n + 1) : Int)] : List Int).length = 1 := rfl; omega⟩
theorem ok_Taker_hear (T : Txt K mg) : Kept P w K mg base CX0 6 (He.ma K (He.ga K "Taker") "hear") ["self", "payload"] (spTkHear K) := by
  refine kept0 (T.fn in_Taker_hear) sc_Taker_hear b_Taker_hear (fun vs H Q E h => ?_) (fun cdv A outer s0 H vs Q E hr h => ?_)
  · obtain ⟨s, ls, n, us, ll, z, rfl, _⟩ := h
    rfl
  · obtain ⟨s, ls, n, us, ll, z, rfl, S, hz, hl, kN, k⟩ := h
    have C := T.cl (x := "Taker") (by decide +kernel)
    obtain ⟨dx, ho⟩ := S.o
    have b3 := S.n0
    refine ⟨_, (pss_cons (ps_set (i := 2) sc_Taker_hear.nd rfl (Or.inl rfl) (pc (ok_unpack T) (hr.mono (by decide)) (by rfl) (T.g (x := "unpack") (by decide +kernel)) (pa_cons (pe_fld (pv 0) rfl) (pa_cons (pv 1) pa_nil))))
      (pss_cons (ps_if (PW.pt (pw_or (pt_cmpR op_isN (pv 2) pe_non (nomark _)) (pw_or (pt_not (pt_truth (pv 2) (by intro _; rfl))) (pw_or1 (pt_cmpR op_ge (pe_ix ix_list (pv 2) pe_int (fun _ _ => rfl)) (pc (ok_modulus_of T) (hr.mono (by decide)) (by rfl) (T.g (x := "modulus_of") (by decide +kernel)) (pa_cons (pe_fld (pv 0) rfl) pa_nil)) (nomark _)))))) (pss_one (ps_ret pe_non)) pss_nil)
      (pss_cons (ps_if (pt_cmpR op_eq (pe_ix ix_list (pv 2) pe_int (fun _ _ => rfl)) (pe_op op_mod (pe_callB call_len_seq (by rfl) (T.fr (x := "len") (by decide +kernel)) PySem.boot_len (pa_cons (pe_fld (pv 0) rfl) pa_nil)) (pc (ok_modulus_of T) (hr.mono (by decide)) (by rfl) (T.g (x := "modulus_of") (by decide +kernel)) (pa_cons (pe_fld (pv 0) rfl) pa_nil))) (nomark _)) (pss_one (ps_expr (pe_bm PySem.F.plainAttrs_list PySem.F.slot_list_append PySem.F.type_list_append mt_append (pe_fld (pv 0) rfl) (pa_cons (pe_callTy call_tuple_of (by rfl) (T.fr (x := "tuple") (by decide +kernel)) (by decide +kernel) (pa_cons (pe_slice sl_list (pv 2) (po_some pe_int) po_none) pa_nil)) pa_nil)))) pss_nil)
      (pss_one (ps_ret (pm0 (ok_Taker_answer T) (T.cl (x := "Taker") (by decide +kernel)) (T.me (x := "Taker") (m := "answer") (by decide +kernel)) (hr.mono (by decide)) (pv 0))))))), ?_⟩
    refine ⟨_, rfl, s, _, dx, _, _, rfl, ho, C, T.na (by decide +kernel), rfl, _, rfl, gnr, z, rfl, hz.1, (by rw [gnr_len]; decide), (by rw [gnr_len]; decide), Nat.le_trans hz.2 (by decide), fun H1 e1 => ?_, fun H1 p ns e1 np hp hb hn => ?_⟩
    · exact ⟨_, rfl, rfl, _, rfl, iteT (iteT (kN _ e1))⟩
    have ho1 := e1 _ _ ho
    have S1 := S.same e1
    refine ⟨_, rfl, rfl, _, rfl, iteF ?_⟩
    cases ns with
    | nil => exact ⟨_, rfl, false, .inl ⟨_, SqL.of hp, rfl⟩, iteT (iteT (kN _ e1))⟩
    | cons a ns =>
      refine ⟨_, rfl, true, .inl ⟨_, SqL.of hp, rfl⟩, iteF ?_⟩
      refine ⟨_, rfl, p, _, 0, V.int a, rfl, rfl, SqL.of hp, atI_nat (j := 0) rfl, _, rfl, s, _, dx, _, _, rfl, ho1, C, T.na (by decide +kernel), rfl, n, rfl, _, _, rfl, rfl, _, rfl, ite2 (fun _ => kN _ e1) (fun _ => ?_)⟩
      refine ⟨_, rfl, p, _, 0, V.int a, rfl, rfl, SqL.of hp, atI_nat (j := 0) rfl, _, rfl, s, _, dx, _, _, rfl, ho1, C, T.na (by decide +kernel), rfl, ls, _, rfl, .inl (SqL.of S1.l), _, rfl, s, _, dx, _, _, rfl, ho1, C, T.na (by decide +kernel), rfl, n, rfl, _, _, rfl, rfl, (by show (0 : Int) < n + 1; omega), rfl, _, rfl, ite2 (fun _ => ?_) (fun _ => ?_)⟩
      · refine ⟨_, rfl, s, _, dx, _, _, rfl, ho1, C, T.na (by decide +kernel), rfl, .inl ⟨rfl, _, SqL.of S1.l⟩, _, rfl, 1, rfl, p, _, rfl, SqL.of hp, fun q nq => ?_⟩
        rw [cut_1, ← List.map_drop]
        have e2 := same_put (Same.refl H1) nq (o := .lst (((a :: ns).drop 1).map V.int))
        have hq2 : upd H1 q (.lst (((a :: ns).drop 1).map V.int)) q = some (.lst (((a :: ns).drop 1).map V.int)) := upd_same
        generalize upd H1 q (.lst (((a :: ns).drop 1).map V.int)) = H2 at e2 hq2
        refine ⟨q, _, rfl, .inl ⟨SqL.of hq2, fun t nt => ?_⟩⟩
        have e3 := same_put (Same.refl H2) nt (o := .tup (((a :: ns).drop 1).map V.int))
        have ht3 : upd H2 t (.tup (((a :: ns).drop 1).map V.int)) t = some (.tup (((a :: ns).drop 1).map V.int)) := upd_same
        generalize upd H2 t (.tup (((a :: ns).drop 1).map V.int)) = H3 at e3 ht3
        have S3 := (S1.same e2).same e3
        have e13 := (e1.trans e2).trans e3
        have hus := S3.t.1
        refine ⟨ls, _, _, rfl, rfl, S3.l, small1000 (by omega), ?_⟩
        have oth : Oth ls H (upd H3 ls (.lst (us ++ [.ref t]))) := fun b o eb hb => by rw [upd_ne hb]; exact e13 _ _ eb
        have S4 : TkAt K (upd H3 ls (.lst (us ++ [.ref t]))) s ls n (us ++ [.ref t]) (ll ++ [(a :: ns).drop 1]) := by
          refine ⟨⟨dx, oth _ _ ho S.ne⟩, upd_same, (S3.t.push ht3).keep (keepT_put (fun _ _ x => x) S3.l), S.n0, S.n1, fun x hx => ?_⟩
          rcases memA hx with hx | hx
          · exact S.b x hx
          · rw [memS hx]
            refine ⟨?_, fun y hy => hb y (List.mem_of_mem_drop hy)⟩
            have h2 := hz.2
            rw [List.length_drop]
            omega
        obtain ⟨dx4, ho4⟩ := S4.o
        refine ⟨_, rfl, s, dx4, _, rfl, ho4, rfl, s, ls, n, _, _, rfl, S4, by rw [List.length_append]; show _ + 1 ≤ 1000; omega, fun H5 y e5 hy => ?_⟩
        exact k H5 _ _ y (fun b o eb hb => e5 _ _ (oth b o eb hb)) (S4.same e5) (by rw [List.length_append]; exact Nat.le_refl _) hy
      · refine ⟨_, rfl, s, dx, _, rfl, ho1, rfl, s, ls, n, _, _, rfl, S1, by omega, fun H5 y e5 hy => ?_⟩
        exact k H5 us ll y (fun b o eb hb => e5 _ _ (e1 _ _ eb)) (S1.same e5) (Nat.le_succ _) hy
end
end Edge
/-! Talk: its state. -/
namespace Edge
open L2 PyProof.Rows PySem PySem.Spec
structure TAd where
  p : Addr
  s : Addr
  k : Addr
  D : Addr
  Lt : Addr
  Lb : Addr
  Ls : Addr
  Lk : Addr
def TAd.own (a : TAd) : List Addr := [a.s, a.Lt, a.Lb, a.Ls, a.Lk]
def tlkF (n : Int) (s k D : Addr) : List (PySem.Str × V) := [("window", .int n), ("generator", .str gnr), ("sender", .ref s), ("taker", .ref k), ("lines", .ref D)]
def linD (Lt Lb : Addr) : List (Key × V) := [(.inr "there", .ref Lt), (.inr "back", .ref Lb)]
structure TalkAt (K : PySem.W.Frag) (H : Hp) (a : TAd) (n d : Int) (ts bs : List PySem.Str) (us : List V) (sl : List (List Int)) (ks : List V) (kl : List (List Int)) : Prop where
  o : ∃ dx, H a.p = some (.ins (He.ga K "Talk") dx (tlkF n a.s a.k a.D))
  dd : H a.D = some (.dK (linD a.Lt a.Lb))
  t : H a.Lt = some (.lst (ts.map V.str))
  b : H a.Lb = some (.lst (bs.map V.str))
  tl : ts.length ≤ 40
  bl : bs.length ≤ 40
  tok : ∀ z ∈ ts, TOk z
  bok : ∀ z ∈ bs, TOk z
  sn : SnAt K H a.s a.Ls n d us sl
  tk : TkAt K H a.k a.Lk n ks kl
  tb : a.Lt ≠ a.Lb
  ts_ : a.Lt ≠ a.Ls
  tk_ : a.Lt ≠ a.Lk
  bs_ : a.Lb ≠ a.Ls
  bk_ : a.Lb ≠ a.Lk
  sk_ : a.Ls ≠ a.Lk
def TalkW (K : PySem.W.Frag) (H : Hp) (a : TAd) (n : Int) (c : Nat) : Prop := ∃ d ts bs us sl ks kl, TalkAt K H a n d ts bs us sl ks kl ∧ kl.length ≤ c
/-- all but the talk's own is as before -/
def Kp (a : TAd) (H H' : Hp) : Prop := ∀ b o, H b = some o → b ∉ a.own → H' b = some o
theorem Kp.trans {a : TAd} {H H1 H2 : Hp} (h : Kp a H H1) (k : Kp a H1 H2) : Kp a H H2 := fun b o e n => k b o (h b o e n) n
theorem kp_same {a : TAd} {H H' : Hp} (e : Same H H') : Kp a H H' := fun b o h _ => e b o h
theorem kp_oth {a : TAd} {x : Addr} {H H' : Hp} (hx : x ∈ a.own) (e : Oth x H H') : Kp a H H' := fun b o h n => e b o h fun z => n (by rw [z]; exact hx)
theorem oth_same {x : Addr} {H H1 H2 : Hp} (e : Oth x H H1) (k : Same H1 H2) : Oth x H H2 := fun b o h n => k b o (e b o h n)
theorem same_oth {x : Addr} {H H1 H2 : Hp} (k : Same H H1) (e : Oth x H1 H2) : Oth x H H2 := fun b o h n => e b o (k b o h) n
theorem SnAt.oth {K : PySem.W.Frag} {H H' : Hp} {s ls x : Addr} {n d : Int} {us xs : List V} {ll : List (List Int)} (h : SnAt K H s ls n d us ll) (hx : H x = some (.lst xs)) (ne : ls ≠ x) (e : Oth x H H') : SnAt K H' s ls n d us ll :=
  ⟨let ⟨dx, ho⟩ := h.o; ⟨dx, e _ _ ho fun z => by rw [z, hx] at ho; cases ho⟩, e _ _ h.l ne, h.t.keep (fun b ys hb => e b _ hb fun z => by rw [z, hx] at hb; cases hb), h.n0, h.n1, h.d0, h.d1, h.c, h.b⟩
theorem TkAt.oth {K : PySem.W.Frag} {H H' : Hp} {s ls x : Addr} {n : Int} {us xs : List V} {ll : List (List Int)} (h : TkAt K H s ls n us ll) (hx : H x = some (.lst xs)) (ne : ls ≠ x) (e : Oth x H H') : TkAt K H' s ls n us ll :=
  ⟨let ⟨dx, ho⟩ := h.o; ⟨dx, e _ _ ho fun z => by rw [z, hx] at ho; cases ho⟩, e _ _ h.l ne, h.t.keep (fun b ys hb => e b _ hb fun z => by rw [z, hx] at hb; cases hb), h.n0, h.n1, h.b⟩
section
variable {K : PySem.W.Frag} {H H' : Hp} {a : TAd} {n d d' : Int} {ts bs : List PySem.Str} {us us' ks ks' : List V} {sl sl' kl kl' : List (List Int)} {c : Nat}
theorem TalkAt.same (T : TalkAt K H a n d ts bs us sl ks kl) (e : Same H H') : TalkAt K H' a n d ts bs us sl ks kl :=
  { T with o := let ⟨dx, ho⟩ := T.o; ⟨dx, e _ _ ho⟩, dd := e _ _ T.dd, t := e _ _ T.t, b := e _ _ T.b, sn := T.sn.same e, tk := T.tk.same e }
theorem TalkAt.pNs (T : TalkAt K H a n d ts bs us sl ks kl) : a.p ≠ a.s := fun z => by
  obtain ⟨dx, ho⟩ := T.o
  obtain ⟨dy, hs⟩ := T.sn.o
  rw [z, hs] at ho
  have h := Option.some.inj ho
  injection h with h1 h2 h3
  cases h3
theorem TalkAt.kNs (T : TalkAt K H a n d ts bs us sl ks kl) : a.k ≠ a.s := fun z => by
  obtain ⟨dx, ho⟩ := T.tk.o
  obtain ⟨dy, hs⟩ := T.sn.o
  rw [z, hs] at ho
  have h := Option.some.inj ho
  injection h with h1 h2 h3
  exact absurd (show (3 : Nat) = 4 from congrArg List.length h3.symm) (by decide)
/-- the sender has heard -/
theorem TalkAt.heard (T : TalkAt K H a n d ts bs us sl ks kl) (e : Oth a.s H H') (S : SnAt K H' a.s a.Ls n d' us sl) : TalkAt K H' a n d' ts bs us sl ks kl := by
  obtain ⟨dy, hs⟩ := T.sn.o
  have ne : ∀ {b : Addr} {xs : List V}, H b = some (.lst xs) → b ≠ a.s := fun h z => by rw [z, hs] at h; cases h
  refine { T with o := let ⟨dx, ho⟩ := T.o; ⟨dx, e _ _ ho T.pNs⟩, dd := e _ _ T.dd fun z => ?_, t := e _ _ T.t (ne T.t), b := e _ _ T.b (ne T.b), sn := S, tk := ⟨let ⟨dx, ho⟩ := T.tk.o; ⟨dx, e _ _ ho T.kNs⟩, e _ _ T.tk.l (ne T.tk.l), T.tk.t.keep fun b ys hb => e b _ hb fun z => ?_, T.tk.n0, T.tk.n1, T.tk.b⟩ }
  · have h := T.dd
    rw [z, hs] at h
    cases h
  · rw [z, hs] at hb
    cases hb
theorem TalkAt.queued (T : TalkAt K H a n d ts bs us sl ks kl) (e : Oth a.Ls H H') (S : SnAt K H' a.s a.Ls n d us' sl') : TalkAt K H' a n d ts bs us' sl' ks kl := by
  have hs := T.sn.l
  refine { T with o := let ⟨dx, ho⟩ := T.o; ⟨dx, e _ _ ho fun z => ?_⟩, dd := e _ _ T.dd fun z => ?_, t := e _ _ T.t T.ts_, b := e _ _ T.b T.bs_, sn := S, tk := T.tk.oth hs T.sk_.symm e }
  · rw [z, hs] at ho
    cases ho
  · have h := T.dd
    rw [z, hs] at h
    cases h
theorem TalkAt.took (T : TalkAt K H a n d ts bs us sl ks kl) (e : Oth a.Lk H H') (S : TkAt K H' a.k a.Lk n ks' kl') : TalkAt K H' a n d ts bs us sl ks' kl' := by
  have hs := T.tk.l
  refine { T with o := let ⟨dx, ho⟩ := T.o; ⟨dx, e _ _ ho fun z => ?_⟩, dd := e _ _ T.dd fun z => ?_, t := e _ _ T.t T.tk_, b := e _ _ T.b T.bk_, sn := T.sn.oth hs T.sk_ e, tk := S }
  · rw [z, hs] at ho
    cases ho
  · have h := T.dd
    rw [z, hs] at h
    cases h
def LineAt (a : TAd) (ts bs : List PySem.Str) (way : PySem.Str) (L : Addr) (zs : List PySem.Str) : Prop := (way = "there" ∧ L = a.Lt ∧ zs = ts) ∨ (way = "back" ∧ L = a.Lb ∧ zs = bs)
theorem LineAt.own {way : PySem.Str} {L : Addr} {zs : List PySem.Str} (w : LineAt a ts bs way L zs) : L ∈ a.own := by
  rcases w with ⟨_, rfl, _⟩ | ⟨_, rfl, _⟩
  · exact List.mem_cons_of_mem _ List.mem_cons_self
  · exact List.mem_cons_of_mem _ (List.mem_cons_of_mem _ List.mem_cons_self)
theorem TalkAt.line (T : TalkAt K H a n d ts bs us sl ks kl) {way : PySem.Str} {L : Addr} {zs zs' : List PySem.Str} (w : LineAt a ts bs way L zs) (e : Oth L H H') (h : H' L = some (.lst (zs'.map V.str))) (hl : zs'.length ≤ 40) (ok : ∀ z ∈ zs', TOk z) :
    ∃ ts' bs', TalkAt K H' a n d ts' bs' us sl ks kl := by
  have hL : ∃ xs, H L = some (.lst xs) := by
    rcases w with ⟨_, rfl, _⟩ | ⟨_, rfl, _⟩
    · exact ⟨_, T.t⟩
    · exact ⟨_, T.b⟩
  obtain ⟨xs, hL⟩ := hL
  have o' : ∃ dx, H' a.p = some (.ins (He.ga K "Talk") dx (tlkF n a.s a.k a.D)) := let ⟨dx, ho⟩ := T.o; ⟨dx, e _ _ ho fun z => by rw [z, hL] at ho; cases ho⟩
  have dd' : H' a.D = some (.dK (linD a.Lt a.Lb)) := e _ _ T.dd fun z => by
    have h := T.dd
    rw [z, hL] at h
    cases h
  rcases w with ⟨_, rfl, _⟩ | ⟨_, rfl, _⟩
  · exact ⟨zs', bs, { T with o := o', dd := dd', t := h, b := e _ _ T.b T.tb.symm, tl := hl, tok := ok, sn := T.sn.oth hL T.ts_.symm e, tk := T.tk.oth hL T.tk_.symm e }⟩
  · exact ⟨ts, zs', { T with o := o', dd := dd', t := e _ _ T.t T.tb, b := h, bl := hl, bok := ok, sn := T.sn.oth hL T.bs_.symm e, tk := T.tk.oth hL T.bk_.symm e }⟩
theorem TalkAt.at_ (T : TalkAt K H a n d ts bs us sl ks kl) {way : PySem.Str} {L : Addr} {zs : List PySem.Str} (w : LineAt a ts bs way L zs) : H L = some (.lst (zs.map V.str)) ∧ zs.length ≤ 40 ∧ (∀ z ∈ zs, TOk z) ∧ DGet H a.D (.str way) (some (.ref L)) := by
  have key : ∀ {k : Key} {r : V}, valV (linD a.Lt a.Lb) k = some r → DGet H a.D (kV k) (some r) := fun {k r} h => by
    rw [← h]
    exact DGet.k T.dd
  rcases w with ⟨rfl, rfl, rfl⟩ | ⟨rfl, rfl, rfl⟩
  · exact ⟨T.t, T.tl, T.tok, key (k := .inr "there") (valV_pos rfl)⟩
  · exact ⟨T.b, T.bl, T.bok, key (k := .inr "back") ((valV_neg fun h => absurd (Sum.inr.inj h) (by decide)).trans (valV_pos rfl))⟩
theorem lineOf (a : TAd) (ts bs : List PySem.Str) {way : PySem.Str} (h : way = "there" ∨ way = "back") : ∃ L zs, LineAt a ts bs way L zs := by
  rcases h with h | h
  · exact ⟨_, _, .inl ⟨h, rfl, rfl⟩⟩
  · exact ⟨_, _, .inr ⟨h, rfl, rfl⟩⟩
end
/-! ### promises -/
def spTalkInit (K : PySem.W.Frag) : Sp := fun vs H Q _ => ∃ (p dx : Addr) (n : Int), vs = [.ref p, .int n, .str gnr] ∧ H p = some (.ins (He.ga K "Talk") dx []) ∧ 1 ≤ n ∧ n ≤ 7 ∧
  ∀ H' (a : TAd), a.p = p → (∀ b ∈ a.own, H b = none) → TalkAt K H' a n 0 [] [] [] [] [] [] → (∀ b o, H b = some o → b ≠ p → H' b = some o) → Q .non H'
def spTalkQueue (K : PySem.W.Frag) : Sp := fun vs H Q E => ∃ (a : TAd) (q : Addr) (n : Int) (c : Nat) (l : List Int), vs = [.ref a.p, .ref q] ∧ TalkW K H a n c ∧ H q = some (.tup (l.map V.int)) ∧ l.length ≤ 2 ∧ Refuses K H E "too many letters" ∧
  ∀ H', Kp a H H' → TalkW K H' a n c → Q .non H'
def spTalkPut (K : PySem.W.Frag) : Sp := fun vs H Q _ => ∃ (a : TAd) (n : Int) (c : Nat) (way z : PySem.Str), vs = [.ref a.p, .str way, .str z] ∧ (way = "there" ∨ way = "back") ∧ TalkW K H a n c ∧ TOk z ∧ ∀ H', Kp a H H' → TalkW K H' a n c → Q .non H'
def spTalkSend (K : PySem.W.Frag) : Sp := fun vs H Q _ => ∃ (a : TAd) (n : Int) (c : Nat), vs = [.ref a.p] ∧ TalkW K H a n c ∧ ∀ H' v, Kp a H H' → TalkW K H' a n c → Q v H'
def spTalkCheck (K : PySem.W.Frag) : Sp := fun vs H Q E => ∃ (a : TAd) (n d : Int) (ts bs : List PySem.Str) (us : List V) (sl : List (List Int)) (ks : List V) (kl : List (List Int)) (way : PySem.Str) (L : Addr) (zs : List PySem.Str), vs = [.ref a.p, .str way, .int 0] ∧ TalkAt K H a n d ts bs us sl ks kl ∧ LineAt a ts bs way L zs ∧
  Refuses K H E "nothing there" ∧ (zs ≠ [] → Q .non H)
def spTalkDeliver (K : PySem.W.Frag) : Sp := fun vs H Q E => ∃ (a : TAd) (n : Int) (c : Nat) (way : PySem.Str), vs = [.ref a.p, .str way] ∧ (way = "there" ∨ way = "back") ∧ TalkW K H a n c ∧ c ≤ 900 ∧ Refuses K H E "nothing there" ∧
  ∀ H' v, Kp a H H' → TalkW K H' a n (c + 1) → Q v H'
def spLine (K : PySem.W.Frag) : Sp := fun vs H Q _ => ∃ (a : TAd) (n d : Int) (ts bs : List PySem.Str) (us : List V) (sl : List (List Int)) (ks : List V) (kl : List (List Int)) (way : PySem.Str) (L : Addr) (zs : List PySem.Str), vs = [.ref a.p, .str way] ∧ TalkAt K H a n d ts bs us sl ks kl ∧ LineAt a ts bs way L zs ∧
  NewTexts H Q zs
def spTaken (K : PySem.W.Frag) : Sp := fun vs H Q _ => ∃ (a : TAd) (n d : Int) (ts bs : List PySem.Str) (us : List V) (sl : List (List Int)) (ks : List V) (kl : List (List Int)), vs = [.ref a.p] ∧ TalkAt K H a n d ts bs us sl ks kl ∧
  ∀ H' q, Same H H' → H q = none → H' q = some (.lst ks) → Q (.ref q) H'
section
variable {P : Program} {w : World} {K : PySem.W.Frag} {mg : PySem.Str → Option Value} {base : Heap}
theorem ok_Talk_put (T : Txt K mg) : Kept P w K mg base CX0 1 (He.ma K (He.ga K "Talk") "put") ["self", "way", "payload"] (spTalkPut K) := by
  refine kept0 (T.fn in_Talk_put) sc_Talk_put b_Talk_put (fun vs H Q E h => ?_) (fun cdv A outer s0 H vs Q E hr h => ?_)
  · obtain ⟨a, n, c, way, z, rfl, _⟩ := h
    rfl
  · obtain ⟨a, n, c, way, z, rfl, hw, ⟨d, ts, bs, us, sl, ks, kl, S, hc⟩, hz, k⟩ := h
    have C := T.cl (x := "Talk") (by decide +kernel)
    obtain ⟨dx, ho⟩ := S.o
    obtain ⟨L, zs, w1⟩ := lineOf a ts bs hw
    obtain ⟨hL, hl, hok, hg⟩ := S.at_ w1
    refine ⟨_, (pss_one (ps_if (pt_cmpR op_lt (pe_callB call_len_seq (by rfl) (T.fr (x := "len") (by decide +kernel)) PySem.boot_len (pa_cons (pe_dget (hu_of hr) (pe_fld (pv 0) rfl) (pv 1) (fun _ _ => rfl)) pa_nil)) (pgi rfl (T.ci (x := "LINE_MOST") (i := 40) (by decide +kernel))) (nomark _)) (pss_one (ps_expr (pe_bm PySem.F.plainAttrs_list PySem.F.slot_list_append PySem.F.type_list_append mt_append (pe_dget (hu_of hr) (pe_fld (pv 0) rfl) (pv 1) (fun _ _ => rfl)) (pa_cons (pv 2) pa_nil)))) pss_nil)), ?_⟩
    refine ⟨_, rfl, a.p, _, dx, _, _, rfl, ho, C, T.na (by decide +kernel), rfl, _, rfl, a.D, _, rfl, hg, L, _, rfl, .inl (SqL.of hL), _, _, rfl, rfl, _, rfl, ite2 (fun cc => ?_) (fun _ => k H (kp_same (Same.refl H)) ⟨d, ts, bs, us, sl, ks, kl, S, hc⟩)⟩
    have c2 : ((zs.map V.str).length : Int) < 40 := by simpa using cc
    rw [List.length_map] at c2
    refine ⟨_, rfl, a.p, _, dx, _, _, rfl, ho, C, T.na (by decide +kernel), rfl, _, rfl, a.D, _, rfl, hg, .inl ⟨rfl, _, SqL.of hL⟩, _, rfl, L, _, _, rfl, rfl, hL, (by rw [List.length_map]; exact small1000 (by omega)), ?_⟩
    have oth : Oth L H (upd H L (.lst (zs.map V.str ++ [.str z]))) := fun b o e hb => by rw [upd_ne hb]; exact e
    obtain ⟨ts', bs', S'⟩ := S.line (zs' := zs ++ [z]) w1 oth (by rw [upd_same, List.map_append]; rfl) (by rw [List.length_append]; show _ + 1 ≤ 40; omega) (fun x hx => by
      rcases memA hx with hx | hx
      · exact hok x hx
      · rw [memS hx]
        exact hz)
    exact k _ (kp_oth w1.own oth) ⟨d, ts', bs', us, sl, ks, kl, S', hc⟩
theorem ok_Talk_line (T : Txt K mg) : Kept P w K mg base CX0 1 (He.ma K (He.ga K "Talk") "line") ["self", "way"] (spLine K) := by
  refine kept0 (T.fn in_Talk_line) sc_Talk_line b_Talk_line (fun vs H Q E h => ?_) (fun cdv A outer s0 H vs Q E hr h => ?_)
  · obtain ⟨a, n, d, ts, bs, us, sl, ks, kl, way, L, zs, rfl, _⟩ := h
    rfl
  · obtain ⟨a, n, d, ts, bs, us, sl, ks, kl, way, L, zs, rfl, S, w1, k⟩ := h
    have C := T.cl (x := "Talk") (by decide +kernel)
    obtain ⟨dx, ho⟩ := S.o
    obtain ⟨hL, hl, hok, hg⟩ := S.at_ w1
    refine ⟨_, (pss_one (ps_ret (pe_callTy call_list_of (by rfl) (T.fr (x := "list") (by decide +kernel)) (by decide +kernel) (pa_cons (pe_dget (hu_of hr) (pe_fld (pv 0) rfl) (pv 1) (fun _ _ => rfl)) pa_nil)))), ?_⟩
    refine ⟨_, rfl, a.p, _, dx, _, _, rfl, ho, C, T.na (by decide +kernel), rfl, _, rfl, a.D, _, rfl, hg, L, _, rfl, .inl (SqL.of hL), fun q nq => ?_⟩
    exact k _ q (same_put (Same.refl H) nq) nq upd_same
theorem ok_Talk_taken (T : Txt K mg) : Kept P w K mg base CX0 1 (He.ma K (He.ga K "Talk") "taken") ["self"] (spTaken K) := by
  refine kept0 (T.fn in_Talk_taken) sc_Talk_taken b_Talk_taken (fun vs H Q E h => ?_) (fun cdv A outer s0 H vs Q E hr h => ?_)
  · obtain ⟨a, n, d, ts, bs, us, sl, ks, kl, rfl, _⟩ := h
    rfl
  · obtain ⟨a, n, d, ts, bs, us, sl, ks, kl, rfl, S, k⟩ := h
    have C := T.cl (x := "Talk") (by decide +kernel)
    have C2 := T.cl (x := "Taker") (by decide +kernel)
    obtain ⟨dx, ho⟩ := S.o
    obtain ⟨dy, hk⟩ := S.tk.o
    refine ⟨_, (pss_one (ps_ret (pe_callTy call_list_of (by rfl) (T.fr (x := "list") (by decide +kernel)) (by decide +kernel) (pa_cons (pe_fld (pe_fld (pv 0) rfl) rfl) pa_nil)))), ?_⟩
    refine ⟨_, rfl, a.p, _, dx, _, _, rfl, ho, C, T.na (by decide +kernel), rfl, a.k, _, dy, _, _, rfl, hk, C2, T.na (by decide +kernel), rfl, a.Lk, _, rfl, .inl (SqL.of S.tk.l), fun q nq => ?_⟩
    exact k _ q (same_put (Same.refl H) nq) nq upd_same
theorem ok_Talk_check_place (T : Txt K mg) (Y : Ext P K) : Kept P w K mg base (L2.CX P w) 4 (He.ma K (He.ga K "Talk") "check_place") ["self", "way", "place"] (spTalkCheck K) := by
  refine keptX (T.fn in_Talk_check_place) sc_Talk_check_place b_Talk_check_place (fun vs H Q E h => ?_) (fun cdv A outer s0 H vs Q E hr h => ?_)
  · obtain ⟨a, n, d, ts, bs, us, sl, ks, kl, way, L, zs, rfl, _⟩ := h
    rfl
  · obtain ⟨a, n, d, ts, bs, us, sl, ks, kl, way, L, zs, rfl, S, w1, kF, k⟩ := h
    have C := T.cl (x := "Talk") (by decide +kernel)
    obtain ⟨dx, ho⟩ := S.o
    obtain ⟨hL, hl, hok, hg⟩ := S.at_ w1
    refine ⟨_, (pss_one (ps_if (pt_cmpR op_ge (pv 2) (pe_callB call_len_seq (by rfl) (T.fr (x := "len") (by decide +kernel)) PySem.boot_len (pa_cons (pe_dget (hu_of hr) (pe_fld (pv 0) rfl) (pv 1) (fun _ _ => rfl)) pa_nil)) (nomark _)) (pss_one (ps_raise rfl (takes_of rfl rfl rfl rfl) (pmk_ref T Y (hr.mono (by decide)) (by rfl) pe_str))) pss_nil)), ?_⟩
    refine ⟨_, rfl, _, rfl, a.p, _, dx, _, _, rfl, ho, C, T.na (by decide +kernel), rfl, _, rfl, a.D, _, rfl, hg, L, _, rfl, .inl (SqL.of hL), _, _, rfl, rfl, _, rfl, ite2 (fun _ => kF) (fun cc => k fun z => ?_)⟩
    rw [z] at cc
    exact cc (by decide)
theorem ok_Talk_queue (T : Txt K mg) (Y : Ext P K) : Kept P w K mg base (L2.CX P w) 5 (He.ma K (He.ga K "Talk") "queue") ["self", "letter"] (spTalkQueue K) := by
  refine keptX (T.fn in_Talk_queue) sc_Talk_queue b_Talk_queue (fun vs H Q E h => ?_) (fun cdv A outer s0 H vs Q E hr h => ?_)
  · obtain ⟨a, q, n, c, l, rfl, _⟩ := h
    rfl
  · obtain ⟨a, q, n, c, l, rfl, ⟨d, ts, bs, us, sl, ks, kl, S, hc⟩, hq, hl, kF, k⟩ := h
    have C := T.cl (x := "Talk") (by decide +kernel)
    obtain ⟨dx, ho⟩ := S.o
    obtain ⟨dy, hs⟩ := S.sn.o
    refine ⟨_, (pss_one (ps_expr (pms (ok_Sender_queue T Y) (T.cl (x := "Sender") (by decide +kernel)) (T.me (x := "Sender") (m := "queue") (by decide +kernel)) (hr.mono (by decide)) (fun σ => passAt (takes_of rfl rfl rfl rfl) σ) (pe_fld (pv 0) rfl) (pa_cons (pv 1) pa_nil)))), ?_⟩
    refine ⟨_, rfl, a.p, _, dx, _, _, rfl, ho, C, T.na (by decide +kernel), rfl, a.s, dy, _, rfl, hs, rfl, _, rfl, a.s, a.Ls, q, n, d, us, sl, l, rfl, S.sn, hq, hl, fun _ => kF, fun _ H' oth S' => ?_⟩
    exact k H' (kp_oth (by simp [TAd.own]) oth) ⟨d, ts, bs, _, _, ks, kl, S.queued oth S', hc⟩
end
end Edge
/-! Talk: send, deliver, init. -/
namespace Edge
open L2 PyProof.Rows PySem PySem.Spec
section
variable {P : Program} {w : World} {K : PySem.W.Frag} {mg : PySem.Str → Option Value} {base : Heap}
theorem ok_Talk_send (T : Txt K mg) : Kept P w K mg base CX0 7 (He.ma K (He.ga K "Talk") "send") ["self"] (spTalkSend K) := by
  refine kept0 (T.fn in_Talk_send) sc_Talk_send b_Talk_send (fun vs H Q E h => ?_) (fun cdv A outer s0 H vs Q E hr h => ?_)
  · obtain ⟨a, n, c, rfl, _⟩ := h
    rfl
  · obtain ⟨a, n, c, rfl, ⟨d, ts, bs, us, sl, ks, kl, S, hc⟩, k⟩ := h
    have C := T.cl (x := "Talk") (by decide +kernel)
    obtain ⟨dx, ho⟩ := S.o
    obtain ⟨dy, hs⟩ := S.sn.o
    refine ⟨_, (pss_cons (ps_set (i := 1) sc_Talk_send.nd rfl (Or.inl rfl) (pm0 (ok_Sender_payloads T) (T.cl (x := "Sender") (by decide +kernel)) (T.me (x := "Sender") (m := "payloads") (by decide +kernel)) (hr.mono (by decide)) (pe_fld (pv 0) rfl)))
      (pss_cons (ps_for PassesOwn.never rfl (pi_list (pv 1)) (pg_name (i := 2) sc_Talk_send.nd rfl (Or.inl rfl)) (pss_one (ps_expr (pm (ok_Talk_put T) (T.cl (x := "Talk") (by decide +kernel)) (T.me (x := "Talk") (m := "put") (by decide +kernel)) (hr.mono (by decide)) (pv 0) (pa_cons pe_str (pa_cons (pv 2) pa_nil))))))
      (pss_one (ps_ret (pe_callB call_len_seq (by rfl) (T.fr (x := "len") (by decide +kernel)) PySem.boot_len (pa_cons (pv 1) pa_nil)))))), ?_⟩
    refine ⟨_, rfl, a.p, _, dx, _, _, rfl, ho, C, T.na (by decide +kernel), rfl, a.s, dy, _, rfl, hs, rfl, a.s, a.Ls, n, d, us, sl, rfl, S.sn, fun H1 q zs e1 nq hq hz hl => ?_⟩
    have S1 := S.same e1
    have nqo : q ∉ a.own := fun hm => by
      simp only [TAd.own, List.mem_cons, List.not_mem_nil, or_false] at hm
      rcases hm with h | h | h | h | h
      · rw [h, hs] at nq; cases nq
      · rw [h, S.t] at nq; cases nq
      · rw [h, S.b] at nq; cases nq
      · rw [h, S.sn.l] at nq; cases nq
      · rw [h, S.tk.l] at nq; cases nq
    refine ⟨_, rfl, q, rfl, ⟨_, SqL.of hq⟩, for_list (K := K) (a := q) (xs := zs.map V.str) (fun i σ H' => ∃ v : Option V, σ = [some (.ref a.p), some (.ref q), v] ∧ Kp a H1 H' ∧ TalkW K H' a n c) ⟨none, rfl, kp_same (Same.refl H1), ⟨d, ts, bs, us, sl, ks, kl, S1, hc⟩⟩ (fun i σ H' _ ⟨_, _, e, _⟩ => SqL.of (e _ _ hq nqo)) ?_ ?_⟩
    · rintro i y σ H' hi ⟨v, rfl, e, W⟩
      obtain ⟨z, hzi, rfl⟩ : ∃ z, zs[i]? = some z ∧ y = V.str z := by
        rw [List.getElem?_map] at hi
        cases hq2 : zs[i]? with
        | none => rw [hq2] at hi; cases hi
        | some z => rw [hq2] at hi; exact ⟨z, rfl, (Option.some.inj hi).symm⟩
      obtain ⟨d', ts', bs', us', sl', ks', kl', S', hc'⟩ := id W
      obtain ⟨dx', ho'⟩ := S'.o
      refine ⟨_, rfl, a.p, dx', _, rfl, ho', rfl, _, rfl, a, n, c, "there", z, rfl, .inl rfl, W, hz z (List.mem_of_getElem? hzi), fun H2 e2 W2 => ⟨_, rfl, e.trans e2, W2⟩⟩
    · rintro σ H' ⟨v, rfl, e, W⟩
      exact ⟨_, rfl, q, _, rfl, .inl (SqL.of (e _ _ hq nqo)), k H' _ ((kp_same e1).trans e) W⟩
theorem ok_Talk_deliver (T : Txt K mg) (Y : Ext P K) : Kept P w K mg base (L2.CX P w) 7 (He.ma K (He.ga K "Talk") "deliver") ["self", "way"] (spTalkDeliver K) := by
  refine keptX (T.fn in_Talk_deliver) sc_Talk_deliver b_Talk_deliver (fun vs H Q E h => ?_) (fun cdv A outer s0 H vs Q E hr h => ?_)
  · obtain ⟨a, n, c, way, rfl, _⟩ := h
    rfl
  · obtain ⟨a, n, c, way, rfl, hw, ⟨d, ts, bs, us, sl, ks, kl, S, hc⟩, hc9, kF, k⟩ := h
    have C := T.cl (x := "Talk") (by decide +kernel)
    obtain ⟨dx, ho⟩ := S.o
    obtain ⟨L, zs, w1⟩ := lineOf a ts bs hw
    obtain ⟨hL, hl, hok, hg⟩ := S.at_ w1
    refine ⟨_, (pss_cons (ps_expr (pms (ok_Talk_check_place T Y) (T.cl (x := "Talk") (by decide +kernel)) (T.me (x := "Talk") (m := "check_place") (by decide +kernel)) (hr.mono (by decide)) (fun σ => passAt (takes_of rfl rfl rfl rfl) σ) (pv 0) (pa_cons (pv 1) (pa_cons pe_int pa_nil))))
      (pss_cons (ps_set (i := 2) sc_Talk_deliver.nd rfl (Or.inl rfl) (pe_bm PySem.F.plainAttrs_list PySem.F.slot_list_pop PySem.F.type_list_pop mt_popAt (pe_dget (hu_of hr) (pe_fld (pv 0) rfl) (pv 1) (fun _ _ => rfl)) (pa_cons pe_int pa_nil)))
      (pss_one (ps_if (pt_cmpR op_eq (pv 1) pe_str (nomark _)) (pss_cons (ps_set (i := 3) sc_Talk_deliver.nd rfl (Or.inl rfl) (pm (ok_Taker_hear T) (T.cl (x := "Taker") (by decide +kernel)) (T.me (x := "Taker") (m := "hear") (by decide +kernel)) (hr.mono (by decide)) (pe_fld (pv 0) rfl) (pa_cons (pv 2) pa_nil)))
      (pss_one (ps_if (pt_cmpR op_notN (pv 3) pe_non (nomark _)) (pss_one (ps_expr (pm (ok_Talk_put T) (T.cl (x := "Talk") (by decide +kernel)) (T.me (x := "Talk") (m := "put") (by decide +kernel)) (hr.mono (by decide)) (pv 0) (pa_cons pe_str (pa_cons (pv 3) pa_nil))))) pss_nil))) (pss_one (ps_expr (pm (ok_Sender_hear T) (T.cl (x := "Sender") (by decide +kernel)) (T.me (x := "Sender") (m := "hear") (by decide +kernel)) (hr.mono (by decide)) (pe_fld (pv 0) rfl) (pa_cons (pv 2) pa_nil)))))))), ?_⟩
    refine ⟨_, rfl, a.p, dx, _, rfl, ho, rfl, _, rfl, a, n, d, ts, bs, us, sl, ks, kl, way, L, zs, rfl, S, w1, kF, fun hne => ?_⟩
    cases zs with
    | nil => exact absurd rfl hne
    | cons z zs =>
      refine ⟨_, rfl, a.p, _, dx, _, _, rfl, ho, C, T.na (by decide +kernel), rfl, _, rfl, a.D, _, rfl, hg, .inl ⟨rfl, _, SqL.of hL⟩, L, _, 0, 0, .str z, rfl, rfl, hL, by decide, by decide, ?_, rfl, ?_⟩
      · unfold seqIndex?
        rw [List.length_map, List.length_cons]
        simp
      have e0 : (((z :: zs).map V.str).eraseIdx 0) = zs.map V.str := rfl
      rw [e0]
      have oth : Oth L H (upd H L (.lst (zs.map V.str))) := fun b o e hb => by rw [upd_ne hb]; exact e
      have hlz : zs.length ≤ 40 := by rw [List.length_cons] at hl; omega
      obtain ⟨ts1, bs1, S1⟩ := S.line (zs' := zs) w1 oth upd_same hlz (fun x hx => hok x (List.mem_cons_of_mem _ hx))
      have hzt := hok z List.mem_cons_self
      have kp1 := kp_oth w1.own oth
      generalize upd H L (.lst (zs.map V.str)) = H1 at S1 kp1
      obtain ⟨dx1, ho1⟩ := S1.o
      obtain ⟨dy1, hk1⟩ := S1.tk.o
      obtain ⟨dz1, hs1⟩ := S1.sn.o
      refine ⟨_, rfl, rfl, _, rfl, ite2 (fun _ => ?_) (fun _ => ?_)⟩
      · refine ⟨_, rfl, a.p, _, dx1, _, _, rfl, ho1, C, T.na (by decide +kernel), rfl, a.k, dy1, _, rfl, hk1, rfl, _, rfl, a.k, a.Lk, n, ks, kl, z, rfl, S1.tk, hzt, by omega, fun H2 e2 => ?_, fun H2 ks2 kl2 y o2 K2 hl2 hy => ?_⟩
        · exact ⟨_, rfl, rfl, _, rfl, iteF (k H2 _ (kp1.trans (kp_same e2)) ⟨d, ts1, bs1, us, sl, ks, kl, S1.same e2, by omega⟩)⟩
        · have S2 := S1.took o2 K2
          obtain ⟨dx2, ho2⟩ := S2.o
          have kp2 := kp1.trans (kp_oth (x := a.Lk) (by simp [TAd.own]) o2)
          refine ⟨_, rfl, rfl, _, rfl, ite2 (fun _ => ?_) (fun cc => absurd rfl cc)⟩
          exact ⟨_, rfl, a.p, dx2, _, rfl, ho2, rfl, _, rfl, a, n, c + 1, "back", y, rfl, .inr rfl, ⟨d, ts1, bs1, us, sl, ks2, kl2, S2, by omega⟩, hy, fun H3 e3 W3 => k H3 _ (kp2.trans e3) W3⟩
      · refine ⟨_, rfl, a.p, _, dx1, _, _, rfl, ho1, C, T.na (by decide +kernel), rfl, a.s, dz1, _, rfl, hs1, rfl, _, rfl, a.s, a.Ls, n, d, us, sl, z, rfl, S1.sn, hzt, fun H2 d2 v o2 K2 => ?_⟩
        exact k H2 _ (kp1.trans (kp_oth (x := a.s) (by simp [TAd.own]) o2)) ⟨d2, ts1, bs1, us, sl, ks, kl, S1.heard o2 K2, by omega⟩
theorem back {p : Addr} {H Hi : Hp} {o : HO} (f : Oth p H Hi) (hp : Hi p = some o) {b : Addr} (n : Hi b = none) : H b = none := by
  cases q : H b with
  | none => rfl
  | some u =>
    by_cases e : b = p
    · rw [e, hp] at n; cases n
    · rw [f b u q e] at n; cases n
theorem own_none {H2 : Hp} {ds s ls C : Addr} (h : upd (upd H2 ds (.own s)) s (.ins C ds []) ls = none) : H2 ls = none ∧ ls ≠ s := by
  have h1 : ls ≠ s := fun e => by rw [e, upd_same] at h; cases h
  rw [upd_ne h1] at h
  have h2 : ls ≠ ds := fun e => by rw [e, upd_same] at h; cases h
  rw [upd_ne h2] at h
  exact ⟨h, h1⟩
theorem merge_lin (Lt Lb : Addr) : mergeK [] (linD Lt Lb) = linD Lt Lb := by rfl
theorem ok_Talk_init (T : Txt K mg) : Kept P w K mg base CX0 3 (He.ma K (He.ga K "Talk") "__init__") ["self", "window", "generator"] (spTalkInit K) := by
  refine kept0 (T.fn in_Talk_init) sc_Talk_init b_Talk_init (fun vs H Q E h => ?_) (fun cdv A outer s0 H vs Q E hr h => ?_)
  · obtain ⟨p, dx, n, rfl, _⟩ := h
    rfl
  · obtain ⟨p, dx, n, rfl, hp, n0, n1, k⟩ := h
    have C := T.cl (x := "Talk") (by decide +kernel)
    refine ⟨_, (pss_cons (ps_fld (pv 0) (pv 1) rfl)
      (pss_cons (ps_fld (pv 0) (pv 2) rfl)
      (pss_cons (ps_fld (pv 0) (pmk (ok_Sender_init T) (T.mkr (x := "Sender") (by decide +kernel)) (hr.mono (by decide)) (by rfl) (T.g (x := "Sender") (by decide +kernel)) (pa_cons (pv 1) (pa_cons (pv 2) pa_nil))) rfl)
      (pss_cons (ps_fld (pv 0) (pmk (ok_Taker_init T) (T.mkr (x := "Taker") (by decide +kernel)) (hr.mono (by decide)) (by rfl) (T.g (x := "Taker") (by decide +kernel)) (pa_cons (pv 1) (pa_cons (pv 2) pa_nil))) rfl)
      (pss_one (ps_fld (pv 0) (pe_disp (pps_cons pe_str (pe_lst pa_nil) (pps_cons pe_str (pe_lst pa_nil) pps_nil)) (by rfl) (by rfl) (fun z => by cases z) (by decide)) rfl)))))), ?_⟩
    refine ⟨_, rfl, _, rfl, p, _, dx, _, rfl, hp, C, T.na (by decide +kernel), (by show 0 < 1000; decide), ?_⟩
    refine ⟨_, rfl, _, rfl, p, _, dx, _, rfl, upd_same, C, T.na (by decide +kernel), (by show 1 < 1000; decide), ?_⟩
    have hp2 : upd (upd H p (.ins (He.ga K "Talk") dx (putF "window" (.int n) []))) p (.ins (He.ga K "Talk") dx (putF "generator" (.str gnr) (putF "window" (.int n) []))) p = some (.ins (He.ga K "Talk") dx [("window", .int n), ("generator", .str gnr)]) := upd_same
    have f2 : ∀ b o, H b = some o → b ≠ p → upd (upd H p (.ins (He.ga K "Talk") dx (putF "window" (.int n) []))) p (.ins (He.ga K "Talk") dx (putF "generator" (.str gnr) (putF "window" (.int n) []))) b = some o := fun b o e hb => by rw [upd_ne hb, upd_ne hb]; exact e
    generalize upd (upd H p (.ins (He.ga K "Talk") dx (putF "window" (.int n) []))) p (.ins (He.ga K "Talk") dx (putF "generator" (.str gnr) (putF "window" (.int n) []))) = H2 at hp2 f2
    refine ⟨_, rfl, _, rfl, fun s ds ns nds ness => ⟨s, ds, n, rfl, upd_same, fun H3 ls nls hs hls f3 => ⟨rfl, ?_⟩⟩⟩
    have e23 : Same H2 H3 := Same.made ns nds f3
    obtain ⟨nls2, lss⟩ := own_none nls
    have hp3 := e23 _ _ hp2
    have ps : p ≠ s := ne_of_none hp2 ns
    have pls : p ≠ ls := ne_of_none hp2 nls2
    have bs := back f2 hp2 ns
    have bls := back f2 hp2 nls2
    refine ⟨_, rfl, p, _, dx, _, rfl, hp3, C, T.na (by decide +kernel), (by show 2 < 1000; decide), ?_⟩
    have hp4 : upd H3 p (.ins (He.ga K "Talk") dx (putF "sender" (.ref s) [("window", .int n), ("generator", .str gnr)])) p = some (.ins (He.ga K "Talk") dx [("window", .int n), ("generator", .str gnr), ("sender", .ref s)]) := upd_same
    have f4 : Oth p H (upd H3 p (.ins (He.ga K "Talk") dx (putF "sender" (.ref s) [("window", .int n), ("generator", .str gnr)]))) := fun b o e hb => by rw [upd_ne hb]; exact e23 _ _ (f2 b o e hb)
    have hs4 : upd H3 p (.ins (He.ga K "Talk") dx (putF "sender" (.ref s) [("window", .int n), ("generator", .str gnr)])) s = _ := (upd_ne ps.symm).trans hs
    have hls4 : upd H3 p (.ins (He.ga K "Talk") dx (putF "sender" (.ref s) [("window", .int n), ("generator", .str gnr)])) ls = _ := (upd_ne pls.symm).trans hls
    generalize upd H3 p (.ins (He.ga K "Talk") dx (putF "sender" (.ref s) [("window", .int n), ("generator", .str gnr)])) = H4 at hp4 f4 hs4 hls4
    refine ⟨_, rfl, _, rfl, fun t dt nt ndt nedt => ⟨t, dt, n, rfl, upd_same, fun H5 lk nlk ht hlk f5 => ⟨rfl, ?_⟩⟩⟩
    have e45 : Same H4 H5 := Same.made nt ndt f5
    obtain ⟨nlk4, lkt⟩ := own_none nlk
    have hp5 := e45 _ _ hp4
    have pt : p ≠ t := ne_of_none hp4 nt
    have plk : p ≠ lk := ne_of_none hp4 nlk4
    have bt := back f4 hp4 nt
    have blk := back f4 hp4 nlk4
    have slk : ls ≠ lk := ne_of_none hls4 nlk4
    refine ⟨_, rfl, p, _, dx, _, rfl, hp5, C, T.na (by decide +kernel), (by show 3 < 1000; decide), ?_⟩
    have hp6 : upd H5 p (.ins (He.ga K "Talk") dx (putF "taker" (.ref t) [("window", .int n), ("generator", .str gnr), ("sender", .ref s)])) p = some (.ins (He.ga K "Talk") dx [("window", .int n), ("generator", .str gnr), ("sender", .ref s), ("taker", .ref t)]) := upd_same
    have f6 : Oth p H (upd H5 p (.ins (He.ga K "Talk") dx (putF "taker" (.ref t) [("window", .int n), ("generator", .str gnr), ("sender", .ref s)]))) := fun b o e hb => by rw [upd_ne hb]; exact e45 _ _ (f4 b o e hb)
    have hs6 : upd H5 p (.ins (He.ga K "Talk") dx (putF "taker" (.ref t) [("window", .int n), ("generator", .str gnr), ("sender", .ref s)])) s = _ := (upd_ne ps.symm).trans (e45 _ _ hs4)
    have hls6 : upd H5 p (.ins (He.ga K "Talk") dx (putF "taker" (.ref t) [("window", .int n), ("generator", .str gnr), ("sender", .ref s)])) ls = _ := (upd_ne pls.symm).trans (e45 _ _ hls4)
    have ht6 : upd H5 p (.ins (He.ga K "Talk") dx (putF "taker" (.ref t) [("window", .int n), ("generator", .str gnr), ("sender", .ref s)])) t = _ := (upd_ne pt.symm).trans ht
    have hlk6 : upd H5 p (.ins (He.ga K "Talk") dx (putF "taker" (.ref t) [("window", .int n), ("generator", .str gnr), ("sender", .ref s)])) lk = _ := (upd_ne plk.symm).trans hlk
    generalize upd H5 p (.ins (He.ga K "Talk") dx (putF "taker" (.ref t) [("window", .int n), ("generator", .str gnr), ("sender", .ref s)])) = H6 at hp6 f6 hs6 hls6 ht6 hlk6
    intro D nD
    refine ⟨Nat.zero_le _, fun Lt nLt => ⟨Nat.zero_le _, fun Lb nLb => ?_⟩⟩
    have e7 := same_put (Same.refl H6) nD (o := .dK [])
    have nLt6 := e7.free nLt
    have LtD : Lt ≠ D := fun e => by rw [e, upd_same] at nLt; cases nLt
    have e8 := same_put e7 nLt6 (o := .lst [])
    have nLb6 := e8.free nLb
    have LbLt : Lb ≠ Lt := fun e => by rw [e, upd_same] at nLb; cases nLb
    have LbD : Lb ≠ D := fun e => by rw [e, upd_ne LtD.symm, upd_same] at nLb; cases nLb
    have e9 := same_put e8 nLb6 (o := .lst [])
    have pD : p ≠ D := ne_of_none hp6 nD
    have pLt : p ≠ Lt := ne_of_none hp6 nLt6
    have pLb : p ≠ Lb := ne_of_none hp6 nLb6
    refine ⟨?_, linD Lt Lb, rfl, (by show 2 ≤ 15; decide), ?_⟩
    · rw [upd_ne LbD.symm, upd_ne LtD.symm, upd_same]
    rw [merge_lin]
    have e10 := same_put e9 nD (o := .dK (linD Lt Lb))
    have hD10 : upd (upd (upd (upd H6 D (.dK [])) Lt (.lst [])) Lb (.lst [])) D (.dK (linD Lt Lb)) D = some (.dK (linD Lt Lb)) := upd_same
    have hLt10 : upd (upd (upd (upd H6 D (.dK [])) Lt (.lst [])) Lb (.lst [])) D (.dK (linD Lt Lb)) Lt = some (.lst []) := by rw [upd_ne LtD, upd_ne LbLt.symm, upd_same]
    have hLb10 : upd (upd (upd (upd H6 D (.dK [])) Lt (.lst [])) Lb (.lst [])) D (.dK (linD Lt Lb)) Lb = some (.lst []) := by rw [upd_ne LbD, upd_same]
    generalize upd (upd (upd (upd H6 D (.dK [])) Lt (.lst [])) Lb (.lst [])) D (.dK (linD Lt Lb)) = H10 at e10 hD10 hLt10 hLb10
    refine ⟨_, rfl, p, _, dx, _, rfl, e10 _ _ hp6, C, T.na (by decide +kernel), (by show 4 < 1000; decide), ?_⟩
    refine k _ ⟨p, s, t, D, Lt, Lb, ls, lk⟩ rfl ?_ ?_ fun b o e hb => by rw [upd_ne hb]; exact e10 _ _ (f6 b o e hb)
    · intro b hb
      simp only [TAd.own, List.mem_cons, List.not_mem_nil, or_false] at hb
      rcases hb with h | h | h | h | h
      · rw [h]; exact bs
      · rw [h]; exact back f6 hp6 nLt6
      · rw [h]; exact back f6 hp6 nLb6
      · rw [h]; exact bls
      · rw [h]; exact blk
    · exact {
        o := ⟨dx, upd_same⟩
        dd := (upd_ne pD.symm).trans hD10
        t := (upd_ne pLt.symm).trans hLt10
        b := (upd_ne pLb.symm).trans hLb10
        tl := Nat.zero_le _
        bl := Nat.zero_le _
        tok := fun z hz => by cases hz
        bok := fun z hz => by cases hz
        sn := ⟨⟨ds, (upd_ne ps.symm).trans (e10 _ _ hs6)⟩, (upd_ne pls.symm).trans (e10 _ _ hls6), Tups.nil, n0, n1, by decide, by decide, Nat.zero_le _, fun l hl => by cases hl⟩
        tk := ⟨⟨dt, (upd_ne pt.symm).trans (e10 _ _ ht6)⟩, (upd_ne plk.symm).trans (e10 _ _ hlk6), Tups.nil, n0, n1, fun l hl => by cases hl⟩
        tb := LbLt.symm
        ts_ := fun e => by
          have h : H6 ls = none := by rw [← show Lt = ls from e]; exact nLt6
          rw [h] at hls6
          cases hls6
        tk_ := fun e => by
          have h : H6 lk = none := by rw [← show Lt = lk from e]; exact nLt6
          rw [h] at hlk6
          cases hlk6
        bs_ := fun e => by
          have h : H6 ls = none := by rw [← show Lb = ls from e]; exact nLb6
          rw [h] at hls6
          cases hls6
        bk_ := fun e => by
          have h : H6 lk = none := by rw [← show Lb = lk from e]; exact nLb6
          rw [h] at hlk6
          cases hlk6
        sk_ := slk }
end
end Edge
/-! the law's words of a talk. -/
namespace Edge
open L2 PyProof.Rows PySem PySem.Spec
def spLawCell (K : PySem.W.Frag) : Sp := fun vs H Q _ => ∃ (a : Addr) (ns : List Int) (k : Int), vs = [.ref a, .int k] ∧ SqL K H a (ns.map V.int) ∧ 0 ≤ k ∧ ∀ c : Int, Q (.int c) H
def Drawn4 (ns : List Int) : Prop := ns.length = 4 ∧ ∀ n ∈ ns, 0 ≤ n ∧ n < 1000003
def spLawDraws : Sp := fun vs H Q _ => ∃ c : Int, vs = [.int c, .int 4] ∧ ∀ H' p ns, Same H H' → H p = none → H' p = some (.lst (ns.map V.int)) → Drawn4 ns → Q (.ref p) H'
def talkD (ts bs : List PySem.Str) (kl : List (List Int)) : PyData := .list [.list (ts.map PyData.str), .list (bs.map PyData.str), .list (kl.map tupD)]
def spOfTalk (K : PySem.W.Frag) : Sp := fun vs H Q _ => ∃ (a : TAd) (n d : Int) (ts bs : List PySem.Str) (us : List V) (sl : List (List Int)) (ks : List V) (kl : List (List Int)), vs = [.ref a.p] ∧ TalkAt K H a n d ts bs us sl ks kl ∧ kl.length ≤ 900 ∧
  NewRows K H Q (talkD ts bs kl)
def spLawTalk (K : PySem.W.Frag) : Sp := fun vs H Q _ => ∃ (a : Addr) (ns : List Int), vs = [.ref a] ∧ SqL K H a (ns.map V.int) ∧ ∀ H' (t : TAd) n, Same H H' → TalkW K H' t n 40 → Q (.ref t.p) H'
theorem same_kp {a : TAd} {H H1 H2 : Hp} (fr : ∀ b ∈ a.own, H b = none) (e : Same H H1) (k : Kp a H1 H2) : Same H H2 := fun b o h => k b o (e b o h) fun hb => by
  rw [fr b hb] at h
  cases h
section
variable {P : Program} {w : World} {K : PySem.W.Frag} {mg : PySem.Str → Option Value} {base : Heap}
theorem ok_law_cell (T : Txt K mg) : Kept P w K mg base CX0 1 (He.ga K "_law_cell") ["_law_script", "_law_k"] (spLawCell K) := by
  refine kept0 (T.fn in_law_cell) sc_law_cell b_law_cell (fun vs H Q E h => ?_) (fun cdv A outer s0 H vs Q E hr h => ?_)
  · obtain ⟨a, ns, k, rfl, _⟩ := h
    rfl
  · obtain ⟨a, ns, i, rfl, hS, hi, k⟩ := h
    refine ⟨_, (pss_cons (ps_if (pt_cmpR op_lt (pv 1) (pe_callB call_len_seq (by rfl) (T.fr (x := "len") (by decide +kernel)) PySem.boot_len (pa_cons (pv 0) pa_nil)) (nomark _)) (pss_one (ps_ret (pe_ix ix_list (pv 0) (pv 1) (fun _ _ => rfl)))) pss_nil)
      (pss_one (ps_ret pe_int))), ?_⟩
    obtain ⟨j, rfl⟩ : ∃ j : Nat, i = (j : Nat) := ⟨i.toNat, by omega⟩
    refine ⟨_, rfl, _, rfl, a, _, rfl, .inl hS, _, _, rfl, rfl, _, rfl, ite2 (fun c => ?_) (fun _ => k 0)⟩
    have c2 : (j : Int) < ((ns.map V.int).length : Nat) := by simpa using c
    rw [List.length_map] at c2
    have hj : j < ns.length := by omega
    exact ⟨_, rfl, _, rfl, a, _, _, V.int ns[j], rfl, rfl, hS, atI_nat (by rw [List.getElem?_map, List.getElem?_eq_getElem hj]; rfl), k _⟩
theorem ok_law_draws (T : Txt K mg) : Kept P w K mg base CX0 1 (He.ga K "_law_draws") ["_law_cell_here", "_law_count"] spLawDraws := by
  refine kept0 (T.fn in_law_draws) sc_law_draws b_law_draws (fun vs H Q E h => ?_) (fun cdv A outer s0 H vs Q E hr h => ?_)
  · obtain ⟨c, rfl, _⟩ := h
    rfl
  · obtain ⟨c, rfl, k⟩ := h
    refine ⟨_, (pss_cons (ps_set (i := 2) sc_law_draws.nd rfl (Or.inl rfl) (pe_lst pa_nil))
      (pss_cons (ps_set (i := 3) sc_law_draws.nd rfl (Or.inl rfl) (pe_cmpR op_ge (pv 0) (pe_op op_pow pe_int pe_int) (nomark _)))
      (pss_cons (ps_for PassesOwn.never rfl (pi_range1 (by rfl) (T.fr (x := "range") (by decide +kernel)) (pa_cons (pv 1) pa_nil)) (pg_name (i := 4) sc_law_draws.nd rfl (Or.inl rfl)) (pss_one (ps_if (pt_val (pv 3)) (pss_cons (ps_expr (pe_bm PySem.F.plainAttrs_list PySem.F.slot_list_append PySem.F.type_list_append mt_append (pv 2) (pa_cons (pe_op op_mod (pv 0) pe_int) pa_nil)))
      (pss_one (ps_set (i := 0) sc_law_draws.nd rfl (Or.inl rfl) (pe_op op_fdiv (pv 0) pe_int)))) (pss_cons (ps_set (i := 5) sc_law_draws.nd rfl (Or.inl rfl) (pe_op op_mod (pe_op op_add (pe_op op_mul (pv 0) pe_int) (pe_op op_mul (pv 4) pe_int)) pe_int))
      (pss_one (ps_expr (pe_bm PySem.F.plainAttrs_list PySem.F.slot_list_append PySem.F.type_list_append mt_append (pv 2) (pa_cons (pe_op op_mod (pe_op op_add (pe_op op_add (pe_op op_mul (pv 5) (pv 5)) (pe_op op_mul (pv 0) pe_int)) (pv 4)) pe_int) pa_nil))))))))
      (pss_one (ps_ret (pv 2)))))), ?_⟩
    refine ⟨Nat.zero_le _, fun p np => ?_⟩
    have e1 := same_put (Same.refl H) np (o := .lst [])
    refine ⟨_, rfl, _, _, rfl, rfl, ⟨by decide, by decide, by decide⟩, _, _, rfl, rfl, ?_⟩
    refine ⟨_, rfl, 4, rfl, by decide, by decide, for_range (fun i σ H' => ∃ (c : Int) (wd : Bool) (v4 v5 : Option V), σ = [some (.int c), some (.int 4), some (.ref p), some (.bl wd), v4, v5] ∧ Same H H' ∧ ∃ ns : List Int, H' p = some (.lst (ns.map V.int)) ∧ ns.length = i ∧ ∀ n ∈ ns, 0 ≤ n ∧ n < 1000003)
      ⟨c, _, none, none, rfl, e1, [], upd_same, rfl, fun n hn => by cases hn⟩ ?_ ?_⟩
    · rintro i σ H' hi ⟨c, wd, v4, v5, rfl, e, ns, hp, hl, hb⟩
      have hi4 : i < 4 := hi
      refine ⟨_, rfl, wd, rfl, ?_⟩
      cases wd with
      | true =>
        refine iteT ⟨_, rfl, .inl ⟨rfl, _, SqL.of hp⟩, _, rfl, _, _, rfl, rfl, (by show (0 : Int) < 1009; decide), p, _, _, rfl, rfl, hp, (by rw [List.length_map]; exact small1000 (by omega)), ?_⟩
        refine ⟨_, rfl, _, _, rfl, rfl, ⟨by decide, by decide⟩, c / 1009, true, _, _, rfl, same_put e np, ns ++ [c % 1009], ?_, by rw [List.length_append, hl]; rfl, fun n hn => ?_⟩
        · rw [upd_same, List.map_append]
          rfl
        · rcases memA hn with hn | hn
          · exact hb n hn
          · rw [memS hn]
            omega
      | false =>
        refine iteF ⟨_, rfl, _, _, rfl, rfl, .inr ⟨by decide, by decide⟩, _, rfl, _, _, rfl, rfl, .inr ⟨by decide, by decide⟩, _, _, rfl, rfl, _, _, rfl, rfl, (by show (0 : Int) < 2147483647; decide), ?_⟩
        have m0 : 0 ≤ (c * 48271 + (0 + (i : Nat)) * 69621) % 2147483647 := Int.emod_nonneg _ (by decide)
        have m1 : (c * 48271 + (0 + (i : Nat)) * 69621) % 2147483647 < 2147483647 := Int.emod_lt_of_pos _ (by decide)
        have hm : CMul ((c * 48271 + (0 + (i : Nat)) * 69621) % 2147483647) ((c * 48271 + (0 + (i : Nat)) * 69621) % 2147483647) := .inl ⟨by omega, by omega⟩
        refine ⟨_, rfl, .inl ⟨rfl, _, SqL.of hp⟩, _, rfl, _, rfl, _, _, rfl, rfl, hm, _, rfl, _, _, rfl, rfl, .inr ⟨by decide, by decide⟩, _, _, rfl, rfl, _, rfl, _, _, rfl, rfl, _, _, rfl, rfl, (by show (0 : Int) < 1000003; decide), p, _, _, rfl, rfl, hp, (by rw [List.length_map]; exact small1000 (by omega)), ?_⟩
        refine ⟨c, false, _, _, rfl, same_put e np, ns ++ [(((c * 48271 + (0 + (i : Nat)) * 69621) % 2147483647) * ((c * 48271 + (0 + (i : Nat)) * 69621) % 2147483647) + c * 31 + (0 + (i : Nat))) % 1000003], ?_, by rw [List.length_append, hl]; rfl, fun n hn => ?_⟩
        · rw [upd_same, List.map_append]
          rfl
        · rcases memA hn with hn | hn
          · exact hb n hn
          · rw [memS hn]
            exact And.intro (Int.emod_nonneg _ (by decide)) (Int.emod_lt_of_pos _ (by decide))
    · rintro σ H' ⟨c, wd, v4, v5, rfl, e, ns, hp, hl, hb⟩
      exact ⟨_, rfl, k H' p ns e np hp ⟨hl, hb⟩⟩
theorem ok_law_of_talk (T : Txt K mg) : Kept P w K mg base CX0 2 (He.ga K "_law_of_talk") ["_law_talk_here"] (spOfTalk K) := by
  refine kept0 (T.fn in_law_of_talk) sc_law_of_talk b_law_of_talk (fun vs H Q E h => ?_) (fun cdv A outer s0 H vs Q E hr h => ?_)
  · obtain ⟨a, n, d, ts, bs, us, sl, ks, kl, rfl, _⟩ := h
    rfl
  · obtain ⟨a, n, d, ts, bs, us, sl, ks, kl, rfl, S, hc, k⟩ := h
    obtain ⟨dx, ho⟩ := S.o
    refine ⟨_, (pss_one (ps_ret (pe_lst (pa_cons (pm (ok_Talk_line T) (T.cl (x := "Talk") (by decide +kernel)) (T.me (x := "Talk") (m := "line") (by decide +kernel)) (hr.mono (by decide)) (pv 0) (pa_cons pe_str pa_nil)) (pa_cons (pm (ok_Talk_line T) (T.cl (x := "Talk") (by decide +kernel)) (T.me (x := "Talk") (m := "line") (by decide +kernel)) (hr.mono (by decide)) (pv 0) (pa_cons pe_str pa_nil)) (pa_cons (pm0 (ok_Talk_taken T) (T.cl (x := "Talk") (by decide +kernel)) (T.me (x := "Talk") (m := "taken") (by decide +kernel)) (hr.mono (by decide)) (pv 0)) pa_nil)))))), ?_⟩
    refine ⟨_, rfl, a.p, dx, _, rfl, ho, rfl, a, n, d, ts, bs, us, sl, ks, kl, "there", a.Lt, ts, rfl, S, .inl ⟨rfl, rfl, rfl⟩, fun H1 e s1 n1 h1 => ?_⟩
    have S1 := S.same s1
    obtain ⟨dx1, ho1⟩ := S1.o
    refine ⟨_, rfl, a.p, dx1, _, rfl, ho1, rfl, a, n, d, ts, bs, us, sl, ks, kl, "back", a.Lb, bs, rfl, S1, .inr ⟨rfl, rfl, rfl⟩, fun H2 g s2 n2 h2 => ?_⟩
    have S2 := S1.same s2
    obtain ⟨dx2, ho2⟩ := S2.o
    refine ⟨_, rfl, a.p, dx2, _, rfl, ho2, rfl, a, n, d, ts, bs, us, sl, ks, kl, rfl, S2, fun H3 y s3 n3 h3 => ?_⟩
    have S3 := S2.same s3
    refine ⟨(by rw [sizeLine_eq]; show 3 ≤ _; decide), fun p np => ?_⟩
    have s4 : Same H3 (upd H3 p (.lst [.ref e, .ref g, .ref y])) := same_put (Same.refl H3) np
    have e4 := s3 _ _ (s2 _ _ h1)
    have g4 := s3 _ _ h2
    have sA : Same H H3 := (s1.trans s2).trans s3
    have htl := S.tl
    have hbl := S.bl
    refine k _ p [e, g, y] (sA.trans s4) (sA.free np) upd_same ?_ (by show 3 ≤ 10; decide) (.lst (SqL.of upd_same) (.cons (.lst (SqL.of (s4 _ _ e4)) (dp_strs _)) (.cons (.lst (SqL.of (s4 _ _ g4)) (dp_strs _)) (.cons (.lst (SqL.of (s4 _ _ h3)) (S3.tk.t.keep (keepT_same s4)).dp) .nil))))
    intro q hq
    have nof : ∀ {b : Addr} {o : HO}, H3 b = some o → b ≠ p := fun h => ne_of_none h np
    rcases memC hq with rfl | hq
    · exact ⟨n1, nof e4, _, s4 _ _ e4, by rw [List.length_map]; omega⟩
    rcases memC hq with rfl | hq
    · exact ⟨s1.free n2, nof g4, _, s4 _ _ g4, by rw [List.length_map]; omega⟩
    rcases memC hq with rfl | hq
    · exact ⟨(s1.trans s2).free n3, nof h3, _, s4 _ _ h3, by rw [S.tk.t.1]; omega⟩
    · cases hq
end
end Edge
/-! the law's talk. -/
namespace Edge
open L2 PyProof.Rows PySem PySem.Spec
/-- tuple(x), its reading by K -/
def rTupOf (K : PySem.W.Frag) : List V → Hp → VK → Prop := fun xs H Q => ∃ p ys, xs = [.ref p] ∧ ((SqL K H p ys ∧ ∀ l, H l = none → Q (.ref l) (upd H l (.tup ys))) ∨ (SqT K H p ys ∧ Q (.ref p) H))
section
variable {P : Program} {w : World} {K : PySem.W.Frag} {mg : PySem.Str → Option Value} {base : Heap}
theorem ok_law_talk (T : Txt K mg) (Y : Ext P K) : Kept P w K mg base CX0 8 (He.ga K "_law_talk") ["_law_script"] (spLawTalk K) := by
  refine kept0 (T.fn in_law_talk) sc_law_talk b_law_talk (fun vs H Q E h => ?_) (fun cdv A outer s0 H vs Q E hr h => ?_)
  · obtain ⟨a, ns, rfl, _⟩ := h
    rfl
  · obtain ⟨a, ns, rfl, hS, k⟩ := h
    refine ⟨_, (pss_cons (ps_set (i := 1) sc_law_talk.nd rfl (Or.inl rfl) (pmk (ok_Talk_init T) (T.mkr (x := "Talk") (by decide +kernel)) (hr.mono (by decide)) (by rfl) (T.g (x := "Talk") (by decide +kernel)) (pa_cons (pe_op op_add pe_int (pe_op op_mod (pc (ok_law_cell T) (hr.mono (by decide)) (by rfl) (T.g (x := "_law_cell") (by decide +kernel)) (pa_cons (pv 0) (pa_cons pe_int pa_nil))) pe_int)) (pa_cons pe_str pa_nil))))
      (pss_cons (ps_for PassesOwn.never rfl (pi_range1 (by rfl) (T.fr (x := "range") (by decide +kernel)) (pa_cons (pe_op op_mod (pc (ok_law_cell T) (hr.mono (by decide)) (by rfl) (T.g (x := "_law_cell") (by decide +kernel)) (pa_cons (pv 0) (pa_cons pe_int pa_nil))) pe_int) pa_nil)) (pg_name (i := 2) sc_law_talk.nd rfl (Or.inl rfl)) (pss_cons (ps_set (i := 3) sc_law_talk.nd rfl (Or.inr rfl) (pc (ok_law_draws T) (hr.mono (by decide)) (by rfl) (T.g (x := "_law_draws") (by decide +kernel)) (pa_cons (pe_op op_add (pc (ok_law_cell T) (hr.mono (by decide)) (by rfl) (T.g (x := "_law_cell") (by decide +kernel)) (pa_cons (pv 0) (pa_cons (pe_op op_add pe_int (pe_op op_mod (pv 2) pe_int)) pa_nil))) (pv 2)) (pa_cons pe_int pa_nil))))
      (pss_one (ps_try_only rfl rfl ⟨by rfl, by decide, .inl (T.g (x := "Refused") (by decide +kernel))⟩ takes_no (fun W pn xe tk pw => (pss_one (ps_if (pt_cmpR op_eq (pe_op op_mod (pe_ix (r := rIxL K) ix_list (pv 3) pe_int (fun _ _ => rfl)) pe_int) pe_int (nomark _)) (pss_one (ps_expr (pms (ok_Talk_queue T Y) (T.cl (x := "Talk") (by decide +kernel)) (T.me (x := "Talk") (m := "queue") (by decide +kernel)) (hr.mono (by decide)) (fun σ => passAt tk σ) (pv 1) (pa_cons (pe_callTy (r := rTupOf K) (T := "tuple") call_tuple_of (by rfl) (T.fr (x := "tuple") (by decide +kernel)) (by decide +kernel) (pa_cons (pe_lc (own := [("_law_j", 4)]) (g := (gName 4)) (tt := tYes) (te := tOp (rI (fun _ j => 0 < j) fun i j => .int (i % j)) (tOp (rIxL K) (tVar 3) (tOp (rI0 fun i j => .int (i + j)) (tC (.int 1)) (tVar 4))) (tC (.int 256))) rfl sc_law_talk.nd (pi_range1 (by rfl) (T.fr (x := "range") (by decide +kernel)) (pa_cons (pe_op op_mod (pe_ix (r := rIxL K) ix_list (pv 3) pe_int (fun _ _ => rfl)) pe_int) pa_nil)) (blkOk_by (own := [("_law_j", 4)]) (N := ["_law_script", "_law_talk_here", "_law_k", "_law_draws_here", "_law_j"]) (sc := defScope s_law_talk) (by decide +kernel)) (fun _ _ _ _ _ => (pg_name (i := 4) sc_law_talk.nd rfl (Or.inl rfl))) (fun _ _ _ _ _ => pts_nil) (fun _ _ _ _ _ => (pe_op op_mod (pe_ix (r := rIxL K) ix_list (pv 3) (pe_op op_add pe_int (pv 4)) (fun _ _ => rfl)) pe_int))) pa_nil)) pa_nil)))) (pss_one (ps_if (pt_cmpR op_eq (pe_op op_mod (pe_ix (r := rIxL K) ix_list (pv 3) pe_int (fun _ _ => rfl)) pe_int) pe_int (nomark _)) (pss_one (ps_expr (pm0 (ok_Talk_send T) (T.cl (x := "Talk") (by decide +kernel)) (T.me (x := "Talk") (m := "send") (by decide +kernel)) (hr.mono (by decide)) (pv 1)))) (pss_one (ps_expr (pms (ok_Talk_deliver T Y) (T.cl (x := "Talk") (by decide +kernel)) (T.me (x := "Talk") (m := "deliver") (by decide +kernel)) (hr.mono (by decide)) (fun σ => passAt tk σ) (pv 1) (pa_cons (pe_ix (r := rIxL K) ix_list (pe_lst (pa_cons pe_str (pa_cons pe_str pa_nil))) (pe_op op_mod (pe_ix (r := rIxL K) ix_list (pv 3) pe_int (fun _ _ => rfl)) pe_int) (fun _ _ => rfl)) pa_nil))))))))) (fun a oe cls d pn hz hf => (pss_one ps_continue))))))
      (pss_one (ps_ret (pv 1))))), ?_⟩
    refine ⟨_, rfl, a, ns, 30, rfl, hS, by decide, fun c30 => ⟨_, _, rfl, rfl, (by show (0 : Int) < 7; decide), _, _, rfl, rfl, ?_⟩⟩
    intro x dx nx ndx nex
    refine ⟨x, dx, 1 + c30 % 7, rfl, upd_same, by omega, by omega, fun H1 t ex fr S0 f1 => ⟨rfl, ?_⟩⟩
    have e1 : Same H H1 := Same.made nx ndx f1
    have fr0 : ∀ b ∈ t.own, H b = none := fun b hb => (own_none (fr b hb)).1
    generalize 1 + c30 % 7 = n at S0
    subst ex
    refine ⟨_, rfl, a, ns, 31, rfl, e1.seq hS, by decide, fun c31 => ⟨_, _, rfl, rfl, (by show (0 : Int) < 31; decide), _, rfl, by omega, by omega, ?_⟩⟩
    have hc : (c31 % 31).toNat ≤ 31 := by omega
    generalize (c31 % 31).toNat = m at hc
    refine for_range (fun i σ H' => ∃ v2 v3 : Option V, σ = [some (.ref a), some (.ref t.p), v2, v3, none] ∧ Same H H' ∧ TalkW K H' t n i) ⟨none, none, rfl, e1, ⟨0, [], [], [], [], [], [], S0, Nat.le_refl _⟩⟩ ?_ ?_
    · rintro i σ H' hi ⟨v2, v3, rfl, e, W⟩
      refine ⟨_, rfl, _, rfl, _, _, rfl, rfl, (by show (0 : Int) < 25; decide), _, _, rfl, rfl, a, ns, _, rfl, e.seq hS, by omega, fun c => ⟨_, rfl, _, _, rfl, rfl, _, rfl, fun H2 q ds e2 nq hq hd => ?_⟩⟩
      obtain ⟨hd4, hdb⟩ := hd
      have hH2 : Same H H2 := e.trans e2
      obtain ⟨d0, d1, d2, d3, rfl⟩ : ∃ d0 d1 d2 d3, ds = [d0, d1, d2, d3] := by
        match ds, hd4 with
        | [a, b, c, d], _ => exact ⟨a, b, c, d, rfl⟩
      have W2 : TalkW K H2 t n i := by
        obtain ⟨d, ts, bs, us, sl, ks, kl, S, hcl⟩ := W
        exact ⟨d, ts, bs, us, sl, ks, kl, S.same e2, hcl⟩
      have SW := W2
      obtain ⟨d, ts, bs, us, sl, ks, kl, S, hcl⟩ := SW
      obtain ⟨dy, ho⟩ := S.o
      have nxt : ∀ H3 : Hp, Kp t H2 H3 → TalkW K H3 t n i → ∃ v2' v3' : Option V, [some (V.ref a), some (V.ref t.p), some (V.int (0 + (i : Nat))), some (V.ref q), none] = [some (V.ref a), some (V.ref t.p), v2', v3', none] ∧ Same H H3 ∧ TalkW K H3 t n (i + 1) := fun H3 kp W3 =>
        ⟨_, _, rfl, same_kp fr0 hH2 kp, let ⟨d, ts, bs, us, sl, ks, kl, S, hc⟩ := W3; ⟨d, ts, bs, us, sl, ks, kl, S, Nat.le_succ_of_le hc⟩⟩
      have nxt1 : ∀ H3 : Hp, Kp t H2 H3 → TalkW K H3 t n (i + 1) → ∃ v2' v3' : Option V, [some (V.ref a), some (V.ref t.p), some (V.int (0 + (i : Nat))), some (V.ref q), none] = [some (V.ref a), some (V.ref t.p), v2', v3', none] ∧ Same H H3 ∧ TalkW K H3 t n (i + 1) := fun H3 kp W3 =>
        ⟨_, _, rfl, same_kp fr0 hH2 kp, W3⟩
      have wsame : ∀ {HA HB : Hp} {c : Nat}, TalkW K HA t n c → Same HA HB → TalkW K HB t n c := fun W e => let ⟨d, ts, bs, us, sl, ks, kl, S, hc⟩ := W; ⟨d, ts, bs, us, sl, ks, kl, S.same e, hc⟩
      refine ⟨_, rfl, q, _, 0, V.int d0, rfl, rfl, SqL.of hq, atI_nat (j := 0) rfl, _, _, rfl, rfl, (by show (0 : Int) < 4; decide), rfl, _, rfl, ite2 (fun _ => ?_) (fun _ => ?_)⟩
      · -- queue
        refine ⟨_, rfl, t.p, dy, _, rfl, ho, rfl, ?_⟩
        refine ⟨_, rfl, q, _, 1, V.int d1, rfl, rfl, SqL.of hq, atI_nat (j := 1) rfl, _, _, rfl, rfl, (by show (0 : Int) < 3; decide), _, rfl, by omega, by omega, fun D nD => ?_⟩
        have e3 := same_put (Same.refl H2) nD (o := .lst [])
        refine lc_range (fun j H' => Same H2 H' ∧ ∃ l : List Int, H' D = some (.lst (l.map V.int)) ∧ l.length = j) ⟨e3, [], upd_same, rfl⟩ ?_ ?_
        · rintro j H4 hj ⟨e4, l, hD, hl⟩
          have hj3 : j < 3 := by omega
          have hix : atI ([d0, d1, d2, d3].map V.int) (1 + (0 + (j : Nat))) = some (V.int ([d0, d1, d2, d3].getD (1 + j) 0)) := by
            rw [show (1 : Int) + (0 + (j : Nat)) = ((1 + j : Nat) : Int) by omega]
            refine atI_nat ?_
            match j, hj3 with
            | 0, _ => rfl
            | 1, _ => rfl
            | 2, _ => rfl
          generalize [d0, d1, d2, d3].getD (1 + j) 0 = dj at hix
          refine ⟨rfl, _, rfl, _, rfl, _, _, rfl, rfl, q, _, _, V.int dj, rfl, rfl, SqL.of (e4 _ _ hq), hix, _, _, rfl, rfl, (by show (0 : Int) < 256; decide), _, hD, (by rw [List.length_map, hl]; exact small1000 (by omega)), same_put e4 nD, l ++ [dj % 256], ?_, by rw [List.length_append, hl]; rfl⟩
          rw [upd_same, List.map_append]
          rfl
        · rintro H4 ⟨e4, l, hD, hl⟩
          have hl2 : l.length ≤ 2 := by omega
          refine ⟨D, _, rfl, .inl ⟨SqL.of hD, fun q2 nq2 => ?_⟩⟩
          have e5 := same_put e4 (e4.free nq2) (o := .tup (l.map V.int))
          refine ⟨t, q2, n, i, l, rfl, wsame W2 e5, upd_same, hl2, fun d nd => ⟨true, Y.exm, fun _ a2 ha2 => ?_, fun h => by cases h⟩, fun H6 kp W6 => nxt H6 ((kp_same e5).trans kp) W6⟩
          exact nxt _ (kp_same (same_put e5 (e5.free nd))) (wsame W2 (same_put e5 (e5.free nd)))
      · refine ⟨_, rfl, q, _, 0, V.int d0, rfl, rfl, SqL.of hq, atI_nat (j := 0) rfl, _, _, rfl, rfl, (by show (0 : Int) < 4; decide), rfl, _, rfl, ite2 (fun _ => ?_) (fun _ => ?_)⟩
        · -- send
          exact ⟨_, rfl, t.p, dy, _, rfl, ho, rfl, t, n, i, rfl, W2, fun H3 v kp W3 => nxt H3 kp W3⟩
        · -- deliver
          refine ⟨_, rfl, t.p, dy, _, rfl, ho, rfl, (by rw [sizeLine_eq]; show 2 ≤ _; decide), fun r nr => ?_⟩
          have e3 := same_put (Same.refl H2) nr (o := .lst [.str "there", .str "back"])
          have hr3 : upd H2 r (.lst [.str "there", .str "back"]) r = some (.lst [.str "there", .str "back"]) := upd_same
          generalize upd H2 r (.lst [.str "there", .str "back"]) = H3 at e3 hr3
          refine ⟨_, rfl, q, _, 1, V.int d1, rfl, rfl, SqL.of (e3 _ _ hq), atI_nat (j := 1) rfl, _, _, rfl, rfl, (by show (0 : Int) < 2; decide), ?_⟩
          have W3 := wsame W2 e3
          have fin : ∀ way : PySem.Str, (way = "there" ∨ way = "back") → atI [V.str "there", V.str "back"] (d1 % 2) = some (.str way) → ∃ (p : Addr) (xs : List V) (i' : Int) (v : V), V.ref r = .ref p ∧ V.int (d1 % 2) = .int i' ∧ SqL K H3 p xs ∧ atI xs i' = some v ∧ v = .str way := fun way hw ha => ⟨r, _, _, _, rfl, rfl, SqL.of hr3, ha, rfl⟩
          have hway : ∃ way : PySem.Str, (way = "there" ∨ way = "back") ∧ atI [V.str "there", V.str "back"] (d1 % 2) = some (.str way) := by
            rcases Int.emod_two_eq d1 with h | h
            · rw [h]; exact ⟨"there", .inl rfl, atI_nat (j := 0) rfl⟩
            · rw [h]; exact ⟨"back", .inr rfl, atI_nat (j := 1) rfl⟩
          obtain ⟨way, hw, ha⟩ := hway
          refine ⟨r, _, _, .str way, rfl, rfl, SqL.of hr3, ha, t, n, i, way, rfl, hw, W3, by omega, fun d nd => ⟨true, Y.exm, fun _ a2 ha2 => ?_, fun h => by cases h⟩, fun H6 v kp W6 => nxt1 H6 ((kp_same e3).trans kp) W6⟩
          exact nxt _ (kp_same (same_put e3 (e3.free nd))) (wsame W3 (same_put (Same.refl H3) nd))
    · rintro σ H' ⟨v2, v3, rfl, e, W⟩
      refine ⟨_, rfl, k H' t n e ?_⟩
      obtain ⟨d, ts, bs, us, sl, ks, kl, S, hcl⟩ := W
      exact ⟨d, ts, bs, us, sl, ks, kl, S, by omega⟩
end
end Edge
/-! the data that the law shows: they fit. -/
namespace Edge
open L2 PyProof.Rows PySem PySem.Spec
structure Fin_ (d : PyData) (w k : Nat) : Prop where
  s : d.showable = true
  n : d.hasDict = false
  l : d.leavesShort 13 = true
  w : d.weight ≤ w
  k : d.depth ≤ k
theorem fin_up {d : PyData} {w k w' k' : Nat} (h : Fin_ d w k) (hw : w ≤ w') (hk : k ≤ k') : Fin_ d w' k' := ⟨h.s, h.n, h.l, Nat.le_trans h.w hw, Nat.le_trans h.k hk⟩
theorem fin_int {i : Int} (h1 : -999999999 ≤ i) (h2 : i ≤ 999999999) : Fin_ (.int i) 40 0 := by
  have hl : i.natAbs.log2 < 40 := by
    by_cases h0 : i.natAbs = 0
    · rw [h0]; decide
    · rw [Nat.log2_lt h0]
      have h3 : i.natAbs ≤ 999999999 := by omega
      exact Nat.lt_of_le_of_lt h3 (by decide)
  refine ⟨?_, rfl, ?_, ?_, Nat.le_of_eq (by simp [PyData.depth])⟩
  · unfold PyData.showable
    exact decide_eq_true (show _ < _ by omega)
  · unfold PyData.leavesShort
    exact decide_eq_true (PyData.shown_int_le2 (by omega) (by omega))
  · unfold PyData.weight
    split <;> omega
theorem fin_str {z : PySem.Str} (h : Bits z) : Fin_ (.str z) z.length 0 := by
  refine ⟨rfl, rfl, ?_, ?_, Nat.le_of_eq (by simp [PyData.depth])⟩
  · unfold PyData.leavesShort
    rw [List.all_eq_true]
    intro c hc
    rcases h c hc with e | e <;> (rw [e]; decide)
  · unfold PyData.weight
    exact Nat.le_refl _
theorem fin_all {w k : Nat} : ∀ {ds : List PyData}, (∀ d ∈ ds, Fin_ d w k) → PyData.showableAll ds = true ∧ PyData.hasDictAll ds = false ∧ PyData.leavesShortAll 13 ds = true ∧ PyData.weightAll ds ≤ ds.length * (w + 1) ∧ PyData.depthAll ds ≤ k
  | [], _ => ⟨rfl, rfl, rfl, Nat.zero_le _, Nat.zero_le _⟩
  | d :: ds, h => by
    have h1 := h d List.mem_cons_self
    obtain ⟨a, b, c, e, f⟩ := fin_all (ds := ds) fun x hx => h x (List.mem_cons_of_mem _ hx)
    refine ⟨?_, ?_, ?_, ?_, ?_⟩
    · unfold PyData.showableAll; rw [h1.s, a]; rfl
    · unfold PyData.hasDictAll; rw [h1.n, b]; rfl
    · unfold PyData.leavesShortAll; rw [h1.l, c]; rfl
    · unfold PyData.weightAll
      rw [List.length_cons, Nat.succ_mul]
      have := h1.w
      omega
    · unfold PyData.depthAll
      exact Nat.max_le.mpr ⟨h1.k, f⟩
theorem fin_list {w k : Nat} {ds : List PyData} (h : ∀ d ∈ ds, Fin_ d w k) : Fin_ (.list ds) (ds.length * (w + 1)) (k + 1) := by
  obtain ⟨a, b, c, e, f⟩ := fin_all h
  refine ⟨?_, ?_, ?_, ?_, ?_⟩
  · unfold PyData.showable; exact a
  · unfold PyData.hasDict; exact b
  · unfold PyData.leavesShort; exact c
  · unfold PyData.weight; exact e
  · unfold PyData.depth; omega
theorem fin_tup {w k : Nat} {ds : List PyData} (h : ∀ d ∈ ds, Fin_ d w k) : Fin_ (.tuple ds) (ds.length * (w + 1)) (k + 1) := by
  obtain ⟨a, b, c, e, f⟩ := fin_all h
  refine ⟨?_, ?_, ?_, ?_, ?_⟩
  · unfold PyData.showable; exact a
  · unfold PyData.hasDict; exact b
  · unfold PyData.leavesShort; exact c
  · unfold PyData.weight; exact e
  · unfold PyData.depth; omega
theorem Fin_.len {d : PyData} {w k : Nat} (h : Fin_ d w k) (hw : w ≤ 1000000) : d.shown.length ≤ sizeLine := by
  have h1 := PyData.shown_le 13 (by decide) d h.l
  have h2 := h.w
  rw [sizeLine_eq]
  omega
def IntB (B : Int) (ns : List Int) : Prop := ∀ n ∈ ns, -B ≤ n ∧ n ≤ B
theorem fin_ints {ns : List Int} {B : Int} (h : IntB B ns) (hB : B ≤ 999999999) : Fin_ (.list (ns.map PyData.int)) (ns.length * 41) 1 := by
  have h2 := fin_list (w := 40) (k := 0) (ds := ns.map PyData.int) fun d hd => by
    obtain ⟨n, hn, rfl⟩ := List.mem_map.mp hd
    obtain ⟨a, b⟩ := h n hn
    exact fin_int (by omega) (by omega)
  rw [List.length_map] at h2
  exact h2
theorem fin_tupD {l : List Int} {B : Int} (h : IntB B l) (hB : B ≤ 999999999) : Fin_ (tupD l) (l.length * 41) 1 := by
  have h2 := fin_tup (w := 40) (k := 0) (ds := l.map PyData.int) fun d hd => by
    obtain ⟨n, hn, rfl⟩ := List.mem_map.mp hd
    obtain ⟨a, b⟩ := h n hn
    exact fin_int (by omega) (by omega)
  rw [List.length_map] at h2
  exact h2
theorem fin_strs {zs : List PySem.Str} {w : Nat} (h : ∀ z ∈ zs, Bits z ∧ z.length ≤ w) : Fin_ (.list (zs.map PyData.str)) (zs.length * (w + 1)) 1 := by
  have h2 := fin_list (w := w) (k := 0) (ds := zs.map PyData.str) fun d hd => by
    obtain ⟨z, hz, rfl⟩ := List.mem_map.mp hd
    exact fin_up (fin_str (h z hz).1) (h z hz).2 (Nat.le_refl _)
  rw [List.length_map] at h2
  exact h2
theorem fin_tups {ls : List (List Int)} {B : Int} {m : Nat} (h : ∀ l ∈ ls, l.length ≤ m ∧ IntB B l) (hB : B ≤ 999999999) : Fin_ (.list (ls.map tupD)) (ls.length * (m * 41 + 1)) 2 := by
  have h2 := fin_list (w := m * 41) (k := 1) (ds := ls.map tupD) fun d hd => by
    obtain ⟨l, hl, rfl⟩ := List.mem_map.mp hd
    exact fin_up (fin_tupD (h l hl).2 hB) (Nat.mul_le_mul_right _ (h l hl).1) (Nat.le_refl _)
  rw [List.length_map] at h2
  exact h2
/-! ### bounds of the mirrors -/
theorem polls_of {poll ph y : Int} : ∀ {sig found : List Int}, y ∈ sig.foldl (pollStep poll ph) found → y ∈ found ∨ ∃ t ∈ sig, y = pollOf poll ph t
  | [], found, h => .inl h
  | t :: sig, found, h => by
    rcases polls_of (sig := sig) (found := pollStep poll ph found t) h with h | ⟨u, hu, e⟩
    · unfold pollStep at h
      split at h
      · split at h
        · exact .inl (List.dropLast_subset _ h)
        · rcases memA h with h | h
          · exact .inl h
          · exact .inr ⟨t, List.mem_cons_self, memS h⟩
      · rcases memA h with h | h
        · exact .inl h
        · exact .inr ⟨t, List.mem_cons_self, memS h⟩
    · exact .inr ⟨u, List.mem_cons_of_mem _ hu, e⟩
theorem imax_le {i j B : Int} (h1 : i ≤ B) (h2 : j ≤ B) : imax i j ≤ B := by
  unfold imax
  split <;> omega
theorem le_imax {i j : Int} : i ≤ imax i j := by
  unfold imax
  split <;> omega
theorem pollOf_b {poll ph t : Int} (h0 : 0 < poll) (hp : 0 ≤ ph) (ht : t ≤ 10000) : 0 ≤ pollOf poll ph t ∧ pollOf poll ph t ≤ 10000 := by
  unfold pollOf
  refine ⟨le_imax, imax_le (by decide) ?_⟩
  have h1 : -10000 ≤ (ph - t) / poll := (Int.le_ediv_iff_mul_le h0).mpr (by omega)
  omega
theorem gapBits_b {pb d : Int} (h0 : 0 < pb) (hd : d ≤ 10000) : 0 ≤ gapBits pb d ∧ gapBits pb d ≤ 20000 := by
  unfold gapBits
  refine ⟨le_imax, imax_le (by decide) ?_⟩
  have h1 : -20000 ≤ (pb - 2 * d) / (2 * pb) := (Int.le_ediv_iff_mul_le (by omega)).mpr (by omega)
  omega
theorem rgaps_b {poll pb ph : Int} {ts : List Int} (R : RecOk poll pb) (hp : 0 ≤ ph) (ht : ∀ t ∈ ts, t ≤ 10000) : IntB 20000 (rgaps poll pb ph ts) := fun g hg => by
  unfold rgaps gapsOf at hg
  obtain ⟨q, hq, rfl⟩ := List.mem_map.mp hg
  have h1 := List.of_mem_zip hq
  have key : ∀ y ∈ polls poll ph ts, 0 ≤ y ∧ y ≤ 10000 := fun y hy => by
    rcases polls_of hy with h | ⟨t, hm, rfl⟩
    · cases h
    · exact pollOf_b R.p0 hp (ht t hm)
  have k1 := key q.1 h1.1
  have k2 := key q.2 (List.mem_of_mem_drop h1.2)
  have := gapBits_b (pb := pb) (d := q.2 - q.1) R.b0 (by omega)
  omega
theorem rd_bits (l : Int) : ∀ (gs : List Int) (r : RS), ((∀ b, r.bits = some b → Bits b) ∧ ∀ z ∈ r.pays, Bits z) → (∀ z ∈ (gs.foldl (rdStep l) r).pays, Bits z)
  | [], r, h => h.2
  | g :: gs, r, h => by
    refine rd_bits l gs (rdStep l r g) ?_
    obtain ⟨bits, closed, pays⟩ := r
    obtain ⟨h1, h2⟩ := h
    unfold rdStep
    split
    · refine ⟨fun b hb => ?_, fun z hz => ?_⟩
      · obtain rfl := Option.some.inj hb
        exact bits_nil
      · have hz2 : z ∈ rdDone ⟨bits, closed, pays⟩ := hz
        unfold rdDone at hz2
        cases bits with
        | none => exact h2 z hz2
        | some b =>
          dsimp only at hz2
          split at hz2
          · rcases memA hz2 with hz3 | hz3
            · exact h2 z hz3
            · rw [memS hz3]
              exact bits_cut (h1 b rfl) _ _
          · exact h2 z hz2
    · split
      · exact ⟨(fun b hb => by cases hb), h2⟩
      · refine ⟨fun b hb => ?_, h2⟩
        cases bits with
        | none => cases hb
        | some b0 =>
          obtain rfl := Option.some.inj hb
          unfold rdGrow
          refine bits_app (bits_app (h1 b0 rfl) (mul_bits bits_1)) ?_
          split
          · exact bits_0
          · exact bits_nil
theorem readG_bits (l : Int) (gs : List Int) : ∀ z ∈ readG l gs, Bits z := rd_bits l gs rd0 ⟨(fun b hb => by cases hb), (fun z hz => by cases hz)⟩
theorem readG_lens {l : Int} (l0 : 0 ≤ l) (gs : List Int) : ∀ z ∈ readG l gs, (z.length : Int) ≤ gs.length * (l + 1) := by
  have h := (rdLe_run l l0 gs gs.length (Nat.le_refl _)).2.1
  rw [List.take_length] at h
  exact h
end Edge
/-! the data that the law shows. -/
namespace Edge
open L2 PyProof.Rows PySem PySem.Spec
/-- the law's times -/
structure Tm (ts : List Int) (c : Nat) : Prop where
  n : ts.length ≤ c
  b : ∀ t ∈ ts, 1 ≤ t ∧ t ≤ 300 * ts.length
  l : ∀ t ∈ ts, ¬ Later ts t
  u : ∀ j t, ts[j]? = some t → Later (ts.take j) t
theorem Tm.nil : Tm [] 0 := ⟨Nat.le_refl _, (fun t ht => by cases ht), (fun t ht => by cases ht), fun j t h => by cases h⟩
theorem Tm.last {ts : List Int} {c : Nat} (h : Tm ts c) {t y : Int} (ht : t ∈ ts) (hy : ts.getLast? = some y) : t ≤ y := by
  by_cases e : t ≤ y
  · exact e
  · exact absurd (fun z hz => by rw [hy] at hz; obtain rfl := Option.some.inj hz; omega) (h.l t ht)
theorem Tm.push {ts : List Int} {c : Nat} {t : Int} (h : Tm ts c) (hl : Later ts t) (h1 : 1 ≤ t) (h2 : t ≤ 300 * (ts.length + 1)) : Tm (ts ++ [t]) (c + 1) := by
  have hn := h.n
  refine ⟨by rw [List.length_append]; show _ + 1 ≤ _; omega, fun x hx => ?_, fun x hx hL => ?_, fun j x hj => ?_⟩
  · have el : ((ts ++ [t]).length : Int) = ts.length + 1 := by rw [List.length_append]; rfl
    rw [el]
    rcases memA hx with hx | hx
    · have := h.b x hx
      omega
    · rw [memS hx]
      exact ⟨h1, h2⟩
  · have hx2 := hL t (by simp)
    rcases memA hx with hx | hx
    · rcases snoc_cases ts with e | ⟨xs, y, e⟩
      · rw [e] at hx
        cases hx
      · have hy : ts.getLast? = some y := by rw [e]; simp
        have h3 := h.last hx hy
        have h4 := hl y hy
        omega
    · rw [memS hx] at hx2
      omega
  · by_cases hj2 : j < ts.length
    · rw [List.getElem?_append_left hj2] at hj
      rw [List.take_append_of_le_length (Nat.le_of_lt hj2)]
      exact h.u j x hj
    · rw [List.getElem?_append_right (by omega)] at hj
      have e0 : j - ts.length = 0 := by
        cases q : j - ts.length with
        | zero => rfl
        | succ m => rw [q] at hj; cases hj
      rw [e0] at hj
      obtain rfl : t = x := Option.some.inj hj
      have ej : j = ts.length := by omega
      rw [ej, List.take_left']
      · exact hl
      · rfl
theorem fin_mon {l poll pb ph : Int} {ts : List Int} (R : RecOk poll pb) (hp : 0 ≤ ph) (l0 : 0 ≤ l) (l1 : l ≤ 10) (T : Tm ts 20) : Fin_ (monD l poll pb ph ts) 20000 3 := by
  have hn := T.n
  have hb : ∀ t ∈ ts, 1 ≤ t ∧ t ≤ 6000 := fun t ht => by
    have := T.b t ht
    omega
  have hg := rgaps_b R hp (ts := ts) fun t ht => by have := hb t ht; omega
  have hgl := rgaps_len poll pb ph ts
  have hr := readG_len l0 (rgaps poll pb ph ts)
  have h1 := fin_up (w' := 4500) (k' := 2) (fin_ints (ns := ts) (B := 20000) (fun t ht => by have := hb t ht; omega) (by decide)) (by omega) (by decide)
  have h2 := fin_up (w' := 4500) (k' := 2) (fin_ints hg (by decide)) (by omega) (by decide)
  have h3 := fin_up (w' := 4500) (k' := 2) (fin_strs (zs := readG l (rgaps poll pb ph ts)) (w := 220) fun z hz => ⟨readG_bits l _ z hz, by
    have h4 := readG_lens l0 _ z hz
    have h5 : ((rgaps poll pb ph ts).length : Int) * (l + 1) ≤ 20 * 11 := by
      have a1 : ((rgaps poll pb ph ts).length : Int) * (l + 1) ≤ 20 * (l + 1) := Int.mul_le_mul_of_nonneg_right (by omega) (by omega)
      omega
    omega⟩) (by
      have : (readG l (rgaps poll pb ph ts)).length * (220 + 1) ≤ 20 * (220 + 1) := Nat.mul_le_mul_right _ (by omega)
      omega) (by decide)
  have h4 := fin_up (w' := 4500) (k' := 2) (fin_tups (ls := histL l poll pb ph ts) (B := 20000) (m := 2) (fun x hx => by
    unfold histL at hx
    obtain ⟨i, hi, rfl⟩ := List.mem_map.mp hx
    refine ⟨Nat.le_refl 2, fun n hn2 => ?_⟩
    have hi2 := List.mem_range.mp hi
    rcases memC hn2 with rfl | hn2
    · rw [List.getD_eq_getElem?_getD, List.getElem?_eq_getElem hi2]
      have := hb _ (List.getElem_mem hi2)
      show -20000 ≤ ts[i] ∧ ts[i] ≤ 20000
      omega
    · rw [memS hn2]
      have a1 := readG_len l0 (rgaps poll pb ph (ts.take (i + 1)))
      have a2 := rgaps_len poll pb ph (ts.take (i + 1))
      have a3 : (ts.take (i + 1)).length ≤ ts.length := by rw [List.length_take]; exact Nat.min_le_right _ _
      omega) (by decide)) (by
      rw [histL_len]
      omega) (by decide)
  have h5 := fin_list (w := 4500) (k := 2) (ds := [.list (ts.map PyData.int), .list ((rgaps poll pb ph ts).map PyData.int), .list ((readG l (rgaps poll pb ph ts)).map PyData.str), .list ((histL l poll pb ph ts).map tupD)]) fun d hd => by
    rcases memC hd with rfl | hd
    · exact h1
    rcases memC hd with rfl | hd
    · exact h2
    rcases memC hd with rfl | hd
    · exact h3
    rcases memC hd with rfl | hd
    · exact h4
    · cases hd
  exact fin_up h5 (by show 4 * (4500 + 1) ≤ 20000; decide) (Nat.le_refl _)
theorem fin_talk {K : PySem.W.Frag} {H : Hp} {a : TAd} {n d : Int} {ts bs : List PySem.Str} {us : List V} {sl : List (List Int)} {ks : List V} {kl : List (List Int)} (S : TalkAt K H a n d ts bs us sl ks kl) (hc : kl.length ≤ 40) : Fin_ (talkD ts bs kl) 600000 3 := by
  have h1 := fin_up (w' := 170000) (k' := 2) (fin_strs (zs := ts) (w := 100) fun z hz => S.tok z hz) (by have := S.tl; omega) (by decide)
  have h2 := fin_up (w' := 170000) (k' := 2) (fin_strs (zs := bs) (w := 100) fun z hz => S.bok z hz) (by have := S.bl; omega) (by decide)
  have h3 := fin_up (w' := 170000) (k' := 2) (fin_tups (ls := kl) (B := 20000) (m := 100) (fun l hl => ⟨(S.tk.b l hl).1, fun n hn => by have := (S.tk.b l hl).2 n hn; omega⟩) (by decide)) (by omega) (by decide)
  have h5 := fin_list (w := 170000) (k := 2) (ds := [.list (ts.map PyData.str), .list (bs.map PyData.str), .list (kl.map tupD)]) fun d hd => by
    rcases memC hd with rfl | hd
    · exact h1
    rcases memC hd with rfl | hd
    · exact h2
    rcases memC hd with rfl | hd
    · exact h3
    · cases hd
  exact fin_up h5 (by show 3 * (170000 + 1) ≤ 600000; decide) (Nat.le_refl _)
def endD (poll pb : Int) (ts : List Int) : PyData := .list [.list ((frameGaps 3 "0110").map PyData.int), .list ((rgaps poll pb 0 ts).map PyData.int)]
theorem fg_b : IntB 1000 (frameGaps 3 "0110") ∧ (frameGaps 3 "0110").length ≤ 100 := by
  have h : (frameGaps 3 "0110").all (fun n => decide (-1000 ≤ n) && decide (n ≤ 1000)) = true ∧ (frameGaps 3 "0110").length ≤ 100 := by decide +kernel
  refine ⟨fun n hn => ?_, h.2⟩
  have h2 := List.all_eq_true.mp h.1 n hn
  simpa using h2
theorem fin_end {poll pb : Int} {ts : List Int} (R : RecOk poll pb) (T : Tm ts 20) : Fin_ (endD poll pb ts) 20000 2 := by
  have hn := T.n
  have hb : ∀ t ∈ ts, 1 ≤ t ∧ t ≤ 6000 := fun t ht => by
    have := T.b t ht
    omega
  have hg := rgaps_b R (Int.le_refl 0) (ts := ts) fun t ht => by have := hb t ht; omega
  have hgl := rgaps_len poll pb 0 ts
  have h1 := fin_up (w' := 4500) (k' := 1) (fin_ints fg_b.1 (by decide)) (by have := fg_b.2; omega) (Nat.le_refl _)
  have h2 := fin_up (w' := 4500) (k' := 1) (fin_ints hg (by decide)) (by omega) (Nat.le_refl _)
  have h5 := fin_list (w := 4500) (k := 1) (ds := [.list ((frameGaps 3 "0110").map PyData.int), .list ((rgaps poll pb 0 ts).map PyData.int)]) fun d hd => by
    rcases memC hd with rfl | hd
    · exact h1
    rcases memC hd with rfl | hd
    · exact h2
    · cases hd
  exact fin_up h5 (by show 2 * (4500 + 1) ≤ 20000; decide) (Nat.le_refl _)
end Edge
/-! the law itself. -/
namespace Edge
open GxR L2 PyProof.Rows PySem PySem.Spec
theorem same_rows {H H1 H2 : Hp} {rows : List Addr} (e : Same H H1) (fr : ∀ r ∈ rows, H r = none) (f : ∀ b o, H1 b = some o → b ∉ rows → H2 b = some o) : Same H H2 := fun b o h => f b o (e b o h) fun hb => by
  rw [fr b hb] at h
  cases h
theorem tabs_get {P b : Addr} {H H' : Hp} {o : HO} (t : Tabs P H H') (hT : TabG H P) (h : H b = some o) (ne : ∀ ps, o ≠ .tbl ps) : H' b = some o := t.2 b o h fun e => by
  obtain ⟨ps, hp, _⟩ := hT
  rw [e, hp] at h
  exact ne ps (Option.some.inj h).symm
theorem repr_of {K : PySem.W.Frag} {H : Hp} {p : Addr} {d : PyData} {w k : Nat} {Q : VK} (hD : Dp K H (.ref p) d) (f : Fin_ d w k) (hw : w ≤ 1000000) (hk : k ≤ 10) (q : Q (.str d.shown) H) : rRepr K [.ref p] H Q :=
  ⟨p, d, rfl, hD, f.s, f.n, Nat.le_trans f.k hk, f.len hw, q⟩
theorem ne_self {z : PySem.Str} {A B : Prop} (h : B) : if (!decide (V.str z = V.str z)) = true then A else B := by
  rw [decide_eq_true rfl]
  exact h
section
variable {P : Program} {w : World} {K : PySem.W.Frag} {mg : PySem.Str → Option Value} {base : Heap}
theorem law_walk (T : Txt K mg) (Y : Ext P K) (Z : TabB base mg (zc K) (zt K)) {cdv : Value} {A : Around} {outer : List Env} {s0 : Shared} {H : Hp} {Q : VK} {E : XK} {a : Addr} {ns : List Int}
    (hgd : A.guards = some []) (hr : Room 8 (A.deeper (envOfC d_law.qual d_law.scope s0.heap.objs.size (He.ga K "law") cdv))) (hS : SqL K H a (ns.map V.int)) (hT : TabG H (zt K)) (k : ∀ H', Q (.bl true) H') :
    ∃ t, PSs (cxOf CX0 P w K mg base ["_law_script", "_law_draws_here", "_law_receiver", "_law_times", "_law_k", "_law_monitor", "_law_passed", "_law_lists", "_law_before", "_law_state", "_law_talk_here", "_law_signal", "_law_gaps"] d_law.qual d_law.scope (He.ga K "law") cdv A outer s0 H E).nox d_law.body t ∧
      t { nx := fun _ H' => Q .non H', rt := Q } (start ["_law_script", "_law_draws_here", "_law_receiver", "_law_times", "_law_k", "_law_monitor", "_law_passed", "_law_lists", "_law_before", "_law_state", "_law_talk_here", "_law_signal", "_law_gaps"] [.ref a]) H := by
  refine ⟨_, (pss_cons (ps_set (i := 1) sc_law.nd rfl (Or.inl rfl) (pc (ok_law_draws T) (hr.mono (by decide)) (by rfl) (T.g (x := "_law_draws") (by decide +kernel)) (pa_cons (pc (ok_law_cell T) (hr.mono (by decide)) (by rfl) (T.g (x := "_law_cell") (by decide +kernel)) (pa_cons (pv 0) (pa_cons pe_int pa_nil))) (pa_cons pe_int pa_nil))))
      (pss_cons (ps_set (i := 2) sc_law.nd rfl (Or.inl rfl) (pe_tup (pa_cons (pe_op op_add pe_int (pe_op op_mod (pe_ix ix_list (pv 1) pe_int (fun _ _ => rfl)) pe_int)) (pa_cons (pe_op op_add pe_int (pe_op op_mod (pe_ix ix_list (pv 1) pe_int (fun _ _ => rfl)) pe_int)) pa_nil))))
      (pss_cons (ps_set (i := 3) sc_law.nd rfl (Or.inl rfl) (pe_lst pa_nil))
      (pss_cons (ps_for PassesOwn.never rfl (pi_range1 (by rfl) (T.fr (x := "range") (by decide +kernel)) (pa_cons (pe_op op_mod (pc (ok_law_cell T) (hr.mono (by decide)) (by rfl) (T.g (x := "_law_cell") (by decide +kernel)) (pa_cons (pv 0) (pa_cons pe_int pa_nil))) pe_int) pa_nil)) (pg_name (i := 4) sc_law.nd rfl (Or.inl rfl)) (pss_one (ps_expr (pe_bm PySem.F.plainAttrs_list PySem.F.slot_list_append PySem.F.type_list_append mt_append (pv 3) (pa_cons (pe_op op_add (pe_op op_add (pe_ifExp (pt_truth (pv 3) (by intro _; rfl)) (pe_ix ix_list (pv 3) (pe_un un_neg pe_int) (fun _ _ => rfl)) pe_int) pe_int) (pe_op op_mod (pc (ok_law_cell T) (hr.mono (by decide)) (by rfl) (T.g (x := "_law_cell") (by decide +kernel)) (pa_cons (pv 0) (pa_cons (pe_op op_add pe_int (pv 4)) pa_nil))) pe_int)) pa_nil)))))
      (pss_cons (ps_set (i := 5) sc_law.nd rfl (Or.inl rfl) (pmk (ok_Monitor_init T) (T.mkr (x := "Monitor") (by decide +kernel)) (hr.mono (by decide)) (by rfl) (T.g (x := "Monitor") (by decide +kernel)) (pa_cons (pe_op op_add pe_int (pe_op op_mod (pe_ix ix_list (pv 1) pe_int (fun _ _ => rfl)) pe_int)) (pa_cons (pv 2) (pa_cons (pe_op op_mod (pe_ix ix_list (pv 1) pe_int (fun _ _ => rfl)) (pe_ix ix_tup (pv 2) pe_int (fun _ _ => rfl))) pa_nil)))))
      (pss_cons (ps_set (i := 6) sc_law.nd rfl (Or.inl rfl) (pe_callTy call_list_of (by rfl) (T.fr (x := "list") (by decide +kernel)) (by decide +kernel) (pa_cons (pv 3) pa_nil)))
      (pss_cons (ps_if (PW.pt (pw_or (pt_cmpR op_ne (pm (ok_Monitor_feed T Y) (T.cl (x := "Monitor") (by decide +kernel)) (T.me (x := "Monitor") (m := "feed") (by decide +kernel)) (hr.mono (by decide)) (pv 5) (pa_cons (pv 6) pa_nil)) (pe_callB call_len_seq (by rfl) (T.fr (x := "len") (by decide +kernel)) PySem.boot_len (pa_cons (pv 3) pa_nil)) (nomark _)) (pw_or1 (pt_cmpR (op_neD hr.units) (pv 6) (pv 3) (nomark _))))) (pss_one (ps_ret pe_bl)) pss_nil)
      (pss_cons (ps_expr (pe_bm PySem.F.plainAttrs_list PySem.F.slot_list_append PySem.F.type_list_append mt_append (pv 6) (pa_cons (pe_op op_pow pe_int pe_int) pa_nil)))
      (pss_cons (ps_if (PW.pt (pw_or (pt_cmpR (op_neD hr.units) (pm0 (ok_Monitor_edges T) (T.cl (x := "Monitor") (by decide +kernel)) (T.me (x := "Monitor") (m := "edges") (by decide +kernel)) (hr.mono (by decide)) (pv 5)) (pv 3) (nomark _)) (pw_or1 (pt_not (pt_val (pc (ok_law_edges_are_refused T Y) (hr.mono (by decide)) (by rfl) (T.g (x := "_law_edges_are_refused") (by decide +kernel)) (pa_cons (pv 5) (pa_cons (pv 3) pa_nil)))))))) (pss_one (ps_ret pe_bl)) pss_nil)
      (pss_cons (ps_set (i := 7) sc_law.nd rfl (Or.inl rfl) (pc (ok_law_of_monitor T) (hr.mono (by decide)) (by rfl) (T.g (x := "_law_of_monitor") (by decide +kernel)) (pa_cons (pv 5) pa_nil)))
      (pss_cons (ps_set (i := 8) sc_law.nd rfl (Or.inl rfl) (pe_callB (call_reprD hgd hr) (by rfl) (T.fr (x := "repr") (by decide +kernel)) (by decide +kernel) (pa_cons (pv 7) pa_nil)))
      (pss_cons (ps_set (i := 9) sc_law.nd rfl (Or.inl rfl) (pm0 (ok_Monitor_state T) (T.cl (x := "Monitor") (by decide +kernel)) (T.me (x := "Monitor") (m := "state") (by decide +kernel)) (hr.mono (by decide)) (pv 5)))
      (pss_cons (ps_expr (pc (ok_law_changed T) (hr.mono (by decide)) (by rfl) (T.g (x := "_law_changed") (by decide +kernel)) (pa_cons (pv 7) pa_nil)))
      (pss_cons (ps_if (PW.pt (pw_or (pt_cmpR op_ne (pe_callB (call_reprD hgd hr) (by rfl) (T.fr (x := "repr") (by decide +kernel)) (by decide +kernel) (pa_cons (pc (ok_law_of_monitor T) (hr.mono (by decide)) (by rfl) (T.g (x := "_law_of_monitor") (by decide +kernel)) (pa_cons (pv 5) pa_nil)) pa_nil)) (pv 8) (nomark _)) (pw_or1 (pt_cmpR op_ne (pe_callB (call_reprD hgd hr) (by rfl) (T.fr (x := "repr") (by decide +kernel)) (by decide +kernel) (pa_cons (pc (ok_law_of_monitor T) (hr.mono (by decide)) (by rfl) (T.g (x := "_law_of_monitor") (by decide +kernel)) (pa_cons (pc (ok_opened T) (hr.mono (by decide)) (by rfl) (T.g (x := "opened") (by decide +kernel)) (pa_cons (pv 9) pa_nil)) pa_nil)) pa_nil)) (pv 8) (nomark _))))) (pss_one (ps_ret pe_bl)) pss_nil)
      (pss_cons (ps_set (i := 10) sc_law.nd rfl (Or.inl rfl) (pc (ok_law_talk T Y) (hr.mono (by decide)) (by rfl) (T.g (x := "_law_talk") (by decide +kernel)) (pa_cons (pv 0) pa_nil)))
      (pss_cons (ps_set (i := 7) sc_law.nd rfl (Or.inl rfl) (pc (ok_law_of_talk T) (hr.mono (by decide)) (by rfl) (T.g (x := "_law_of_talk") (by decide +kernel)) (pa_cons (pv 10) pa_nil)))
      (pss_cons (ps_set (i := 8) sc_law.nd rfl (Or.inl rfl) (pe_callB (call_reprD hgd hr) (by rfl) (T.fr (x := "repr") (by decide +kernel)) (by decide +kernel) (pa_cons (pv 7) pa_nil)))
      (pss_cons (ps_expr (pc (ok_law_changed T) (hr.mono (by decide)) (by rfl) (T.g (x := "_law_changed") (by decide +kernel)) (pa_cons (pv 7) pa_nil)))
      (pss_cons (ps_if (pt_cmpR op_ne (pe_callB (call_reprD hgd hr) (by rfl) (T.fr (x := "repr") (by decide +kernel)) (by decide +kernel) (pa_cons (pc (ok_law_of_talk T) (hr.mono (by decide)) (by rfl) (T.g (x := "_law_of_talk") (by decide +kernel)) (pa_cons (pv 10) pa_nil)) pa_nil)) (pv 8) (nomark _)) (pss_one (ps_ret pe_bl)) pss_nil)
      (pss_cons (ps_set (i := 11) sc_law.nd rfl (Or.inl rfl) (pe_callTy call_list_of (by rfl) (T.fr (x := "list") (by decide +kernel)) (by decide +kernel) (pa_cons (pv 3) pa_nil)))
      (pss_cons (ps_set (i := 12) sc_law.nd rfl (Or.inl rfl) (pc (ok_received_gaps T) (hr.mono (by decide)) (by rfl) (T.g (x := "received_gaps") (by decide +kernel)) (pa_cons (pv 2) (pa_cons pe_int (pa_cons (pv 11) pa_nil)))))
      (pss_cons (ps_set (i := 6) sc_law.nd rfl (Or.inl rfl) (pe_callTy call_list_of (by rfl) (T.fr (x := "list") (by decide +kernel)) (by decide +kernel) (pa_cons (pv 12) pa_nil)))
      (pss_cons (ps_expr (pc (ok_read_gaps T) (hr.mono (by decide)) (by rfl) (T.g (x := "read_gaps") (by decide +kernel)) (pa_cons pe_int (pa_cons (pv 6) pa_nil))))
      (pss_cons (ps_if (pt_cmpR (op_neD hr.units) (pv 6) (pv 12) (nomark _)) (pss_one (ps_ret pe_bl)) pss_nil)
      (pss_cons (ps_expr (pc (ok_receive T) (hr.mono (by decide)) (by rfl) (T.g (x := "receive") (by decide +kernel)) (pa_cons pe_int (pa_cons (pv 2) (pa_cons pe_int (pa_cons (pv 11) pa_nil))))))
      (pss_cons (ps_expr (pc (ok_detection_polls T) (hr.mono (by decide)) (by rfl) (T.g (x := "detection_polls") (by decide +kernel)) (pa_cons (pv 2) (pa_cons pe_int (pa_cons (pv 11) pa_nil)))))
      (pss_cons (ps_expr (pc (ok_relay_signal T Z) (hr.mono (by decide)) (by rfl) (T.g (x := "relay_signal") (by decide +kernel)) (pa_cons (pv 2) (pa_cons pe_int (pa_cons pe_int (pa_cons pe_int (pa_cons (pe_tup pa_nil) (pa_cons (pv 11) pa_nil))))))))
      (pss_cons (ps_expr (pc (ok_backlogs T) (hr.mono (by decide)) (by rfl) (T.g (x := "backlogs") (by decide +kernel)) (pa_cons (pv 2) (pa_cons pe_int (pa_cons pe_int (pa_cons pe_int (pa_cons (pv 11) pa_nil)))))))
      (pss_cons (ps_set (i := 7) sc_law.nd rfl (Or.inl rfl) (pe_lst (pa_cons (pc (ok_frame_gaps T) (hr.mono (by decide)) (by rfl) (T.g (x := "frame_gaps") (by decide +kernel)) (pa_cons pe_int (pa_cons pe_str pa_nil))) (pa_cons (pv 12) pa_nil))))
      (pss_cons (ps_set (i := 8) sc_law.nd rfl (Or.inl rfl) (pe_callB (call_reprD hgd hr) (by rfl) (T.fr (x := "repr") (by decide +kernel)) (by decide +kernel) (pa_cons (pe_lst (pa_cons (pc (ok_frame_gaps T) (hr.mono (by decide)) (by rfl) (T.g (x := "frame_gaps") (by decide +kernel)) (pa_cons pe_int (pa_cons pe_str pa_nil))) (pa_cons (pc (ok_received_gaps T) (hr.mono (by decide)) (by rfl) (T.g (x := "received_gaps") (by decide +kernel)) (pa_cons (pv 2) (pa_cons pe_int (pa_cons (pv 11) pa_nil)))) pa_nil))) pa_nil)))
      (pss_cons (ps_expr (pc (ok_law_changed T) (hr.mono (by decide)) (by rfl) (T.g (x := "_law_changed") (by decide +kernel)) (pa_cons (pv 7) pa_nil)))
      (pss_one (ps_ret (pe_and (pe_cmpR (op_eqD hr.units) (pv 11) (pv 3) (nomark _)) (pe_one (pe_cmpR op_eq (pe_callB (call_reprD hgd hr) (by rfl) (T.fr (x := "repr") (by decide +kernel)) (by decide +kernel) (pa_cons (pe_lst (pa_cons (pc (ok_frame_gaps T) (hr.mono (by decide)) (by rfl) (T.g (x := "frame_gaps") (by decide +kernel)) (pa_cons pe_int (pa_cons pe_str pa_nil))) (pa_cons (pc (ok_received_gaps T) (hr.mono (by decide)) (by rfl) (T.g (x := "received_gaps") (by decide +kernel)) (pa_cons (pv 2) (pa_cons pe_int (pa_cons (pv 11) pa_nil)))) pa_nil))) pa_nil)) (pv 8) (nomark _))))))))))))))))))))))))))))))))))))), ?_⟩
  -- draws
  refine ⟨_, rfl, a, ns, 0, rfl, hS, by decide, fun c0 => ⟨c0, rfl, fun H1 q ds e1 nq hq hd => ?_⟩⟩
  obtain ⟨hd4, hdb⟩ := hd
  obtain ⟨d0, d1, d2, d3, rfl⟩ : ∃ d0 d1 d2 d3, ds = [d0, d1, d2, d3] := by
    match ds, hd4 with
    | [a, b, c, d], _ => exact ⟨a, b, c, d, rfl⟩
  -- receiver
  refine ⟨_, rfl, q, _, 0, V.int d0, rfl, rfl, SqL.of hq, atI_nat (j := 0) rfl, _, _, rfl, rfl, (by show (0 : Int) < 10; decide), _, _, rfl, rfl, _, rfl, q, _, 1, V.int d1, rfl, rfl, SqL.of hq, atI_nat (j := 1) rfl, _, _, rfl, rfl, (by show (0 : Int) < 10; decide), _, _, rfl, rfl, (by rw [sizeLine_eq]; show 2 ≤ _; decide), fun r nr => ?_⟩
  have p1 : 1 ≤ 1 + d0 % 10 ∧ 1 + d0 % 10 ≤ 10 := by omega
  have b1 : 3 ≤ 3 + d1 % 10 ∧ 3 + d1 % 10 ≤ 12 := by omega
  have e2 := same_put (Same.refl H1) nr (o := .tup [.int (1 + d0 % 10), .int (3 + d1 % 10)])
  have hr2 : upd H1 r (.tup [.int (1 + d0 % 10), .int (3 + d1 % 10)]) r = some (.tup [.int (1 + d0 % 10), .int (3 + d1 % 10)]) := upd_same
  show tSeq _ _ _ _ (upd H1 r (.tup [.int (1 + d0 % 10), .int (3 + d1 % 10)]))
  generalize upd H1 r (.tup [.int (1 + d0 % 10), .int (3 + d1 % 10)]) = H2 at e2 hr2
  generalize 1 + d0 % 10 = poll at p1 hr2
  generalize 3 + d1 % 10 = pb at b1 hr2
  have R : RecOk poll pb := ⟨by omega, by omega, by omega, by omega⟩
  have s2 := e1.trans e2
  have hq2 := e2 _ _ hq
  -- times
  refine ⟨Nat.zero_le _, fun p np => ?_⟩
  have s3 := same_put (Same.refl H2) np (o := .lst [])
  refine ⟨_, rfl, a, ns, 1, rfl, (s2.trans s3).seq hS, by decide, fun c1 => ⟨_, _, rfl, rfl, (by show (0 : Int) < 21; decide), _, rfl, by omega, by omega, ?_⟩⟩
  have hc1 : (c1 % 21).toNat ≤ 20 := by omega
  generalize (c1 % 21).toNat = m1 at hc1
  refine for_range (fun i σ H' => ∃ v4 : Option V, σ = [some (.ref a), some (.ref q), some (.ref r), some (.ref p), v4, none, none, none, none, none, none, none, none] ∧ Same H2 H' ∧ ∃ ts : List Int, H' p = some (.lst (ts.map V.int)) ∧ Tm ts i) ⟨none, rfl, s3, [], upd_same, Tm.nil⟩ ?_ ?_
  · rintro i σ H' hi ⟨v4, rfl, e, ts, hp, tm⟩
    have htl := tm.n
    have fin : ∀ l0 : Int, (∀ y, ts.getLast? = some y → y = l0) → 0 ≤ l0 → l0 ≤ 300 * ts.length → ∀ c : Int, ∃ (v4 : Option V), [some (V.ref a), some (V.ref q), some (V.ref r), some (V.ref p), some (V.int (0 + (i : Nat))), none, none, none, none, none, none, none, none] = [some (V.ref a), some (V.ref q), some (V.ref r), some (V.ref p), v4, none, none, none, none, none, none, none, none] ∧ Same H2 (upd H' p (.lst (ts.map V.int ++ [V.int (l0 + 1 + c % 300)]))) ∧
        ∃ ts' : List Int, upd H' p (.lst (ts.map V.int ++ [V.int (l0 + 1 + c % 300)])) p = some (.lst (ts'.map V.int)) ∧ Tm ts' (i + 1) := by
      intro l0 h1 h2 h3 c
      refine ⟨_, rfl, same_put e np, ts ++ [l0 + 1 + c % 300], ?_, tm.push (fun y hy => by rw [h1 y hy]; omega) (by omega) (by omega)⟩
      rw [upd_same, List.map_append]
      rfl
    refine ⟨_, rfl, .inl ⟨rfl, _, SqL.of hp⟩, ?_⟩
    rcases snoc_cases ts with e0 | ⟨xs, y, e0⟩
    · refine ⟨_, rfl, false, .inl ⟨_, SqL.of hp, by rw [e0]; rfl⟩, iteF ⟨_, _, rfl, rfl, _, rfl, _, rfl, _, _, rfl, rfl, a, ns, _, rfl, (s2.trans e).seq hS, by omega, fun c => ⟨_, _, rfl, rfl, (by show (0 : Int) < 300; decide), _, _, rfl, rfl, p, _, _, rfl, rfl, hp, (by rw [List.length_map]; exact small1000 (by omega)), ?_⟩⟩⟩
      exact fin 0 (fun y hy => by rw [e0] at hy; cases hy) (by decide) (by omega) c
    · have hy : ts.getLast? = some y := by rw [e0]; simp
      have hyb := tm.b y (by rw [e0]; simp)
      have ha : atI (ts.map V.int) (-1) = some (V.int y) := by rw [e0, List.map_append]; exact atI_last _ _
      refine ⟨_, rfl, true, .inl ⟨_, SqL.of hp, by rw [e0]; simp⟩, iteT ⟨_, rfl, 1, rfl, p, _, -1, V.int y, rfl, rfl, SqL.of hp, ha, _, _, rfl, rfl, _, rfl, _, rfl, _, _, rfl, rfl, a, ns, _, rfl, (s2.trans e).seq hS, by omega, fun c => ⟨_, _, rfl, rfl, (by show (0 : Int) < 300; decide), _, _, rfl, rfl, p, _, _, rfl, rfl, hp, (by rw [List.length_map]; exact small1000 (by omega)), ?_⟩⟩⟩
      exact fin y (fun z hz => by rw [hy] at hz; exact (Option.some.inj hz).symm) (by omega) hyb.2 c
  · rintro σ H4 ⟨v4, rfl, e4, ts, hp4, tm0⟩
    have tm : Tm ts 20 := ⟨Nat.le_trans tm0.n hc1, tm0.b, tm0.l, tm0.u⟩
    have htl := tm.n
    have s4 := s2.trans e4
    have hq4 := e4 _ _ hq2
    have hr4 := e4 _ _ hr2
    -- the monitor
    refine ⟨_, rfl, q, _, 2, V.int d2, rfl, rfl, SqL.of hq4, atI_nat (j := 2) rfl, _, _, rfl, rfl, (by show (0 : Int) < 6; decide), _, _, rfl, rfl, _, rfl, _, rfl, q, _, 3, V.int d3, rfl, rfl, SqL.of hq4, atI_nat (j := 3) rfl, _, rfl, r, _, 0, V.int poll, rfl, rfl, SqT.of hr4, atI_nat (j := 0) rfl, _, _, rfl, rfl, (by show (0 : Int) < poll; omega), ?_⟩
    have l1 : 2 ≤ 2 + d2 % 6 ∧ 2 + d2 % 6 ≤ 7 := by omega
    have ph0 : 0 ≤ d3 % poll := Int.emod_nonneg _ (by omega)
    refine fun m dx nm ndm nedm => ⟨m, dx, r, 2 + d2 % 6, d3 % poll, rfl, upd_same, fun H5 sg nsg hm hsg f5 => ⟨rfl, ?_⟩⟩
    generalize 2 + d2 % 6 = l at l1 hm
    generalize d3 % poll = ph at ph0 hm
    have e5 : Same H4 H5 := Same.made nm ndm f5
    have nsg4 := (own_none nsg).1
    have s5 := s4.trans e5
    have hp5 := e5 _ _ hp4
    have hr5 := e5 _ _ hr4
    have mp : MonP l poll pb := ⟨R, by omega, by omega⟩
    have M5 : MonAt K H5 m r sg l poll pb ph [] := ⟨⟨dx, hm⟩, hsg, SqT.of hr5, mp⟩
    -- passed
    refine ⟨_, rfl, p, _, rfl, .inl (SqL.of hp5), fun u nu => ?_⟩
    have e6 := same_put (Same.refl H5) nu (o := .lst (ts.map V.int))
    have hu6 : upd H5 u (.lst (ts.map V.int)) u = some (.lst (ts.map V.int)) := upd_same
    show tSeq _ _ _ _ (upd H5 u (.lst (ts.map V.int)))
    generalize upd H5 u (.lst (ts.map V.int)) = H6 at e6 hu6
    have usg : u ≠ sg := fun z => by rw [z, hsg] at nu; cases nu
    have psg : p ≠ sg := fun z => by rw [z, nsg4] at hp4; cases hp4
    have rsg : r ≠ sg := fun z => by rw [z, nsg4] at hr4; cases hr4
    have M6 := M5.same e6
    obtain ⟨dx6, ho6⟩ := M6.o
    -- fed
    refine ⟨_, rfl, m, dx6, _, rfl, ho6, rfl, _, rfl, m, r, sg, u, l, poll, pb, ph, [], ts, rfl, M6, by decide, hu6, usg, fun H7 n hn hacc hstop hsg7 o7 => ?_⟩
    have hnl : n = ts.length := by
      rcases Nat.lt_or_ge n ts.length with h | h
      · have hh := hstop ts[n] (List.getElem?_eq_getElem h)
        refine absurd ⟨?_, ?_⟩ hh
        · rw [List.nil_append, List.length_take]; omega
        · rw [List.nil_append]; exact tm.u n _ (List.getElem?_eq_getElem h)
      · omega
    subst hnl
    rw [List.nil_append, List.take_length] at hsg7
    have M7 : MonAt K H7 m r sg l poll pb ph ts := M6.oth o7 hsg7
    have s7 : Same H H7 := fun b o h => o7 b o (e6 _ _ (s5 _ _ h)) fun z => by
      have h2 := s4 _ _ h
      rw [z, nsg4] at h2
      cases h2
    have hp7 := o7 _ _ (e6 _ _ hp5) psg
    have hu7 := o7 _ _ hu6 usg
    refine ⟨_, rfl, p, _, rfl, .inl (SqL.of hp7), rfl, _, rfl, ite2 (fun c => absurd c (by simp)) (fun _ => ?_)⟩
    refine ⟨_, rfl, _, rfl, _, _, dpl (SqL.of hu7), dpl (SqL.of hp7), shp_ints _, shp_ints _, _, rfl, ?_⟩
    rw [eqv_ints]
    refine iteF ?_
    -- passed is lengthened
    refine ⟨_, rfl, .inl ⟨rfl, _, SqL.of hu7⟩, _, _, rfl, rfl, ⟨by decide, by decide, by decide⟩, u, _, _, rfl, rfl, hu7, (by rw [List.length_map]; exact small1000 (by omega)), ?_⟩
    have hup : u ≠ p := fun z => by rw [z, hp5] at nu; cases nu
    have o8 : Oth u H7 (upd H7 u (.lst (ts.map V.int ++ [.int (10 ^ (6 : Int).toNat)]))) := fun b o h hb => by rw [upd_ne hb]; exact h
    show tSeq _ _ _ _ (upd H7 u (.lst (ts.map V.int ++ [.int (10 ^ (6 : Int).toNat)])))
    generalize upd H7 u (.lst (ts.map V.int ++ [.int (10 ^ (6 : Int).toNat)])) = H8 at o8
    have nu5 : H5 u = none := nu
    have s8 : Same H H8 := fun b o h => o8 b o (s7 _ _ h) fun z => by
      have h2 := s5 _ _ h
      rw [z, nu5] at h2
      cases h2
    have hp8 := o8 _ _ hp7 hup.symm
    have M8 : MonAt K H8 m r sg l poll pb ph ts := by
      obtain ⟨dx7, ho7⟩ := M7.o
      refine ⟨⟨dx7, o8 _ _ ho7 fun z => ?_⟩, o8 _ _ hsg7 usg.symm, oth_sqt o8 hu7 M7.t, mp⟩
      rw [z, hu7] at ho7
      cases ho7
    obtain ⟨dx8, ho8⟩ := M8.o
    refine ⟨_, rfl, m, dx8, _, rfl, ho8, rfl, m, r, sg, l, poll, pb, ph, ts, rfl, M8, fun H9 e9 t9 n9 h9 => ?_⟩
    have M9 := M8.same t9
    have hp9 := t9 _ _ hp8
    refine ⟨_, rfl, _, _, dpl (SqL.of h9), dpl (SqL.of hp9), shp_ints _, shp_ints _, _, rfl, ?_⟩
    rw [eqv_ints]
    refine iteF ⟨_, rfl, _, rfl, m, r, sg, p, l, poll, pb, ph, ts, rfl, M9, hp9, by omega, tm.l, fun H10 t10 => ⟨true, rfl, iteF ?_⟩⟩
    have s10 := (s8.trans t9).trans t10
    have M10 := M9.same t10
    have hp10 := t10 _ _ hp9
    have fm := fin_mon (l := l) (ph := ph) R ph0 (by omega) (by omega) tm
    -- the lists, as they are told before
    refine ⟨_, rfl, m, r, sg, l, poll, pb, ph, ts, rfl, M10, by omega, fun H11 x rows e11 nx hx hrows hlen hD11 => ?_⟩
    refine ⟨_, rfl, x, _, rfl, hD11, fm.s, fm.n, Nat.le_trans fm.k (by decide), fm.len (by decide), ?_⟩
    have M11 := M10.same e11
    obtain ⟨dx11, ho11⟩ := M11.o
    refine ⟨_, rfl, m, dx11, _, rfl, ho11, rfl, m, r, sg, l, poll, pb, ph, ts, rfl, M11, fun H12 st sq e12 hst hsq => ?_⟩
    have hx12 := e12 _ _ hx
    have rows12 : ∀ b ∈ rows, b ≠ x ∧ ∃ xs, H12 b = some (.lst xs) ∧ xs.length ≤ 10000 := fun b hb => by
      obtain ⟨_, h2, xs, h3, h4⟩ := hrows b hb
      exact ⟨h2, xs, e12 _ _ h3, h4⟩
    refine ⟨_, rfl, x, rows, rfl, hx12, rows12, hlen, fun H13 f13 => ?_⟩
    have t13 : Same H10 H13 := same_rows (e11.trans e12) (fun b hb => (hrows b hb).1) f13
    have notrow : ∀ {b : Addr} {o : HO}, H12 b = some o → (∀ xs, o ≠ .lst xs) → b ∉ rows := fun {b o} h ne hb => by
      obtain ⟨_, xs, h3, _⟩ := rows12 b hb
      rw [h3] at h
      exact ne xs (Option.some.inj h).symm
    have hst13 := f13 _ _ hst (notrow hst (fun xs z => by cases z))
    have hsq13 := f13 _ _ hsq (notrow hsq (fun xs z => by cases z))
    have M13 := M10.same t13
    -- told again
    refine ⟨_, rfl, m, r, sg, l, poll, pb, ph, ts, rfl, M13, by omega, fun H14 x2 rows2 e14 nx2 hx2 hrows2 hlen2 hD14 => ?_⟩
    refine ⟨x2, _, rfl, hD14, fm.s, fm.n, Nat.le_trans fm.k (by decide), fm.len (by decide), _, rfl, rfl, _, rfl, ne_self ?_⟩
    have M14 := M13.same e14
    refine ⟨_, rfl, st, sq, r, l, poll, pb, ph, ts, rfl, e14 _ _ hst13, e14 _ _ hsq13, M14.t, mp, fun H15 m2 sg2 e15 M15 => ?_⟩
    refine ⟨m2, r, sg2, l, poll, pb, ph, ts, rfl, M15, by omega, fun H16 x3 rows3 e16 nx3 hx3 hrows3 hlen3 hD16 => ?_⟩
    refine ⟨x3, _, rfl, hD16, fm.s, fm.n, Nat.le_trans fm.k (by decide), fm.len (by decide), _, rfl, rfl, _, rfl, ne_self ?_⟩
    have t16 : Same H10 H16 := ((t13.trans e14).trans e15).trans e16
    have s16 := s10.trans t16
    have hp16 := t16 _ _ hp10
    have M16 := M10.same t16
    -- the talk
    refine ⟨_, rfl, a, ns, rfl, s16.seq hS, fun H17 t tn e17 W17 => ?_⟩
    obtain ⟨td, tts, tbs, tus, tsl, tks, tkl, S17, htc⟩ := W17
    have ft := fin_talk S17 htc
    refine ⟨_, rfl, t, tn, td, tts, tbs, tus, tsl, tks, tkl, rfl, S17, by omega, fun H18 x4 rows4 e18 nx4 hx4 hrows4 hlen4 hD18 => ?_⟩
    refine ⟨_, rfl, x4, _, rfl, hD18, ft.s, ft.n, Nat.le_trans ft.k (by decide), ft.len (by decide), ?_⟩
    refine ⟨_, rfl, x4, rows4, rfl, hx4, fun b hb => ⟨(hrows4 b hb).2.1, (hrows4 b hb).2.2⟩, hlen4, fun H19 f19 => ?_⟩
    have t19 : Same H17 H19 := same_rows e18 (fun b hb => (hrows4 b hb).1) f19
    have S19 := S17.same t19
    refine ⟨_, rfl, t, tn, td, tts, tbs, tus, tsl, tks, tkl, rfl, S19, by omega, fun H20 x5 rows5 e20 nx5 hx5 hrows5 hlen5 hD20 => ?_⟩
    refine ⟨x5, _, rfl, hD20, ft.s, ft.n, Nat.le_trans ft.k (by decide), ft.len (by decide), _, rfl, rfl, _, rfl, ne_self ?_⟩
    have t20 : Same H16 H20 := (e17.trans t19).trans e20
    have s20 := s16.trans t20
    have hp20 := t20 _ _ hp16
    have hr20 : SqT K H20 r [.int poll, .int pb] := same_sqt t20 M16.t
    have ht20 : TabG H20 (zt K) := tabG_same s20 hT
    -- the signal, its gaps
    refine ⟨_, rfl, p, _, rfl, .inl (SqL.of hp20), fun sn nsn => ?_⟩
    have e21 := same_put (Same.refl H20) nsn (o := .lst (ts.map V.int))
    have hs21 : upd H20 sn (.lst (ts.map V.int)) sn = some (.lst (ts.map V.int)) := upd_same
    show tSeq _ _ _ _ (upd H20 sn (.lst (ts.map V.int)))
    generalize upd H20 sn (.lst (ts.map V.int)) = H21 at e21 hs21
    have hr21 := same_sqt e21 hr20
    have hp21 := e21 _ _ hp20
    refine ⟨_, rfl, _, rfl, r, sn, poll, pb, 0, ts, rfl, hr21, R, SqL.of hs21, by omega, fun H22 gp e22 ngp hgp => ?_⟩
    have gl := rgaps_len poll pb 0 ts
    refine ⟨_, rfl, gp, _, rfl, .inl (SqL.of hgp), fun pa npa => ?_⟩
    have e23 := same_put (Same.refl H22) npa (o := .lst ((rgaps poll pb 0 ts).map V.int))
    have hpa23 : upd H22 pa (.lst ((rgaps poll pb 0 ts).map V.int)) pa = some (.lst ((rgaps poll pb 0 ts).map V.int)) := upd_same
    show tSeq _ _ _ _ (upd H22 pa (.lst ((rgaps poll pb 0 ts).map V.int)))
    generalize upd H22 pa (.lst ((rgaps poll pb 0 ts).map V.int)) = H23 at e23 hpa23
    refine ⟨_, rfl, pa, 3, _, rfl, SqL.of hpa23, by omega, by decide, by decide, fun H24 y24 e24 n24 h24 => ?_⟩
    have t24 := (e22.trans e23).trans e24
    refine ⟨_, rfl, _, rfl, _, _, dpl (SqL.of (e24 _ _ hpa23)), dpl (SqL.of (e24 _ _ (e23 _ _ hgp))), shp_ints _, shp_ints _, _, rfl, ?_⟩
    rw [eqv_ints]
    refine iteF ?_
    -- receive, detection_polls, relay_signal, backlogs
    refine ⟨_, rfl, _, rfl, r, sn, 3, poll, pb, 0, ts, rfl, same_sqt t24 hr21, ⟨R, by decide, by decide⟩, SqL.of (t24 _ _ hs21), by omega, fun H25 y25 e25 n25 h25 => ?_⟩
    have t25 := t24.trans e25
    refine ⟨_, rfl, _, rfl, r, sn, poll, pb, 0, ts, rfl, same_sqt t25 hr21, R, SqL.of (t25 _ _ hs21), by omega, fun H26 y26 e26 n26 h26 => ?_⟩
    have t26 := t25.trans e26
    refine ⟨_, rfl, Nat.zero_le _, fun sh nsh => ?_⟩
    have e27 := same_put (Same.refl H26) nsh (o := .tup [])
    have hsh27 : upd H26 sh (.tup []) sh = some (.tup []) := upd_same
    generalize upd H26 sh (.tup []) = H27 at e27 hsh27
    have t27 := t26.trans e27
    have ht27 := tabG_same (e21.trans t27) ht20
    refine ⟨_, rfl, r, sh, sn, poll, pb, 0, 500, 60, ts, rfl, same_sqt t27 hr21, R, SqT.of hsh27, SqL.of (t27 _ _ hs21), by omega, by decide, by decide, ht27, fun H28 v28 tb => ?_⟩
    have hs28 := tabs_get tb ht27 (t27 _ _ hs21) (fun ps z => by cases z)
    have hp28 := tabs_get tb ht27 (t27 _ _ hp21) (fun ps z => by cases z)
    have hg28 := tabs_get tb ht27 (e27 _ _ (e26 _ _ (e25 _ _ (e24 _ _ (e23 _ _ hgp))))) (fun ps z => by cases z)
    have hr28 : SqT K H28 r [.int poll, .int pb] := by
      rcases same_sqt t27 hr21 with (h | ⟨o, h⟩) | h
      · exact .inl (.inl (tabs_get tb ht27 h (fun ps z => by cases z)))
      · exact .inl (.inr ⟨o, tabs_get tb ht27 h (fun ps z => by cases z)⟩)
      · exact .inr h
    refine ⟨_, rfl, _, rfl, r, sn, poll, pb, 0, 500, 60, ts, rfl, hr28, R, SqL.of hs28, by omega, by decide, by decide, by decide, fun H29 v29 e29 => ?_⟩
    -- the last lists
    refine ⟨3, "0110", rfl, by decide, by decide, (by show (4 : Nat) ≤ 10000; decide), fun H30 f30 e30 n30 h30 => ?_⟩
    have hg30 := e30 _ _ (e29 _ _ hg28)
    refine ⟨_, rfl, (by rw [sizeLine_eq]; show 2 ≤ _; decide), fun x6 nx6 => ?_⟩
    have e31 := same_put (Same.refl H30) nx6 (o := .lst [.ref f30, .ref gp])
    have hx31 : upd H30 x6 (.lst [.ref f30, .ref gp]) x6 = some (.lst ([f30, gp].map V.ref)) := upd_same
    show tSeq _ _ _ _ (upd H30 x6 (.lst [.ref f30, .ref gp]))
    have hf31 := e31 _ _ h30
    have hg31 := e31 _ _ hg30
    have nf6 : f30 ≠ x6 := ne_of_none h30 nx6
    have ng6 : gp ≠ x6 := ne_of_none hg30 nx6
    generalize upd H30 x6 (.lst [.ref f30, .ref gp]) = H31 at e31 hx31 hf31 hg31
    have t31 := (e29.trans e30).trans e31
    have fe := fin_end (poll := poll) (pb := pb) R tm
    -- before
    refine ⟨3, "0110", rfl, by decide, by decide, (by show (4 : Nat) ≤ 10000; decide), fun H32 f32 e32 n32 h32 => ?_⟩
    have t32 := t31.trans e32
    refine ⟨_, rfl, _, rfl, r, sn, poll, pb, 0, ts, rfl, same_sqt t32 hr28, R, SqL.of (t32 _ _ hs28), by omega, fun H33 g33 e33 n33 h33 => ?_⟩
    refine ⟨(by rw [sizeLine_eq]; show 2 ≤ _; decide), fun x7 nx7 => ?_⟩
    have e34 := same_put (Same.refl H33) nx7 (o := .lst [.ref f32, .ref g33])
    have hD34 : Dp K (upd H33 x7 (.lst [.ref f32, .ref g33])) (.ref x7) (endD poll pb ts) := .lst (SqL.of upd_same) (.cons (.lst (SqL.of (e34 _ _ (e33 _ _ h32))) (dp_ints _)) (.cons (.lst (SqL.of (e34 _ _ h33)) (dp_ints _)) .nil))
    refine ⟨x7, _, rfl, hD34, fe.s, fe.n, Nat.le_trans fe.k (by decide), fe.len (by decide), ?_⟩
    have t34 := (e32.trans e33).trans e34
    show tSeq _ _ _ _ (upd H33 x7 (.lst [.ref f32, .ref g33]))
    generalize upd H33 x7 (.lst [.ref f32, .ref g33]) = H34 at e34 t34
    -- changed
    refine ⟨_, rfl, x6, [f30, gp], rfl, t34 _ _ hx31, fun b hb => ?_, (by show 2 ≤ 10; decide), fun H35 f35 => ?_⟩
    · rcases memC hb with rfl | hb
      · exact ⟨nf6, _, t34 _ _ hf31, by rw [List.length_map]; have := fg_b.2; omega⟩
      rcases memC hb with rfl | hb
      · exact ⟨ng6, _, t34 _ _ hg31, by rw [List.length_map]; omega⟩
      · cases hb
    have t28_34 := t31.trans t34
    have off : ∀ {b : Addr} {o : HO}, H34 b = some o → b ≠ f30 → b ≠ gp → H35 b = some o := fun {b o} h n1 n2 => f35 b o h fun hb => by
      rcases memC hb with z | hb
      · exact n1 z
      · exact n2 (memS hb)
    have s29 := e29 _ _ hs28
    have q29 := e29 _ _ hp28
    have sn1 : sn ≠ f30 := ne_of_none s29 n30
    have sn2 : sn ≠ gp := ne_of_none hs21 ngp
    have pn1 : p ≠ f30 := ne_of_none q29 n30
    have pn2 : p ≠ gp := ne_of_none hp21 ngp
    have hs35 := off (t28_34 _ _ hs28) sn1 sn2
    have hp35 := off (t28_34 _ _ hp28) pn1 pn2
    have hf34 := t34 _ _ hf31
    have hg34 := t34 _ _ hg31
    have hr35 : SqT K H35 r [.int poll, .int pb] := by
      have nl : ∀ {o : HO}, H34 r = some o → (∀ xs, o ≠ .lst xs) → H35 r = some o := fun {o} h ne => off h (fun z => by rw [z, hf34] at h; exact ne _ (Option.some.inj h).symm) (fun z => by rw [z, hg34] at h; exact ne _ (Option.some.inj h).symm)
      rcases same_sqt t28_34 hr28 with (h | ⟨o, h⟩) | h
      · exact .inl (.inl (nl h (fun xs z => by cases z)))
      · exact .inl (.inr ⟨o, nl h (fun xs z => by cases z)⟩)
      · exact .inr h
    refine ⟨_, rfl, _, rfl, _, _, dpl (SqL.of hs35), dpl (SqL.of hp35), shp_ints _, shp_ints _, _, rfl, ?_⟩
    rw [eqv_ints]
    refine iteT ⟨3, "0110", rfl, by decide, by decide, (by show (4 : Nat) ≤ 10000; decide), fun H36 f36 e36 n36 h36 => ?_⟩
    refine ⟨_, rfl, _, rfl, r, sn, poll, pb, 0, ts, rfl, same_sqt e36 hr35, R, SqL.of (e36 _ _ hs35), by omega, fun H37 g37 e37 n37 h37 => ?_⟩
    refine ⟨(by rw [sizeLine_eq]; show 2 ≤ _; decide), fun x8 nx8 => ?_⟩
    have e38 := same_put (Same.refl H37) nx8 (o := .lst [.ref f36, .ref g37])
    have hD38 : Dp K (upd H37 x8 (.lst [.ref f36, .ref g37])) (.ref x8) (endD poll pb ts) := .lst (SqL.of upd_same) (.cons (.lst (SqL.of (e38 _ _ (e37 _ _ h36))) (dp_ints _)) (.cons (.lst (SqL.of (e38 _ _ h37)) (dp_ints _)) .nil))
    refine ⟨x8, _, rfl, hD38, fe.s, fe.n, Nat.le_trans fe.k (by decide), fe.len (by decide), _, rfl, rfl, ?_⟩
    rw [decide_eq_true rfl]
    exact k _
end
end Edge
/-! what the head looks at: the kit's facts, the further ones of Refused, is_ordered's table. -/
namespace Edge
open L2 PyProof.Rows PySem PySem.Spec
abbrev R : PySem.W.OpenRow := PySem.W.OpenLaw.row PySem.Challenge.rw_edgelink_k37_lists_are_not_shared
abbrev pw : Program := PySem.Challenge.pw_edgelink_k37_lists_are_not_shared
/-- the addresses that are looked at -/
def asR (g : Addr → Option Obj) : List Addr := He.asD g 5 ++ [PySem.cStatics]
def frR (g : Addr → Option Obj) : PySem.W.Frag := He.frT g (asR g)
def ordP : List He.Defn := [("is_ordered", none)]
/-- the class at C: over ValueError, through classes of the program -/
def exoB (K : PySem.W.Frag) (C : Addr) : Bool := match K.lookup C with
  | some ⟨oc, _, .cls cd, sl⟩ => (match cd.mro, sl.toList with
    | .ref c :: bm, [_, _, _, _, some (.builtin n), _] => decide (oc = .type "type") && (decide (c = C) && (decide (n = "ValueError.__new__") && (!cd.hasDel && (cd.hasDict && PySem.HandSPX.refsVE bm))))
    | _, _ => false)
  | _ => false
theorem exoB_ok {K : PySem.W.Frag} {C : Addr} (h : exoB K C = true) : ∃ nm q N bs bm sn sub ab col dd k0 k1 k2 k3 k5, K.lookup C = some (excClassObj nm q C N bs bm true sn sub ab col dd k0 k1 k2 k3 k5 "ValueError.__new__") ∧ PySem.HandSPX.refsVE bm = true := by
  unfold exoB at h
  cases hk : K.lookup C with
  | none => (rw [hk] at h; cases h)
  | some o =>
    obtain ⟨oc, od, dt, sl⟩ := o
    rw [hk] at h
    cases dt with
    | cls cd =>
      dsimp only at h
      split at h
      · rename_i c bm k0 k1 k2 k3 n k5 e1 e2
        obtain ⟨h1, h⟩ := He.ba h
        obtain ⟨h2, h⟩ := He.ba h
        obtain ⟨h3, h⟩ := He.ba h
        obtain ⟨h4, h⟩ := He.ba h
        obtain ⟨h5, h6⟩ := He.ba h
        obtain ⟨nm, bs, mro, ns, qn, hd, sn, sub, ab, col, dl⟩ := cd
        obtain ⟨l⟩ := sl
        have e3 : oc = .type "type" := of_decide_eq_true h1
        have e4 : c = C := of_decide_eq_true h2
        have e5 : n = "ValueError.__new__" := of_decide_eq_true h3
        have e6 : dl = false := by cases dl <;> first | rfl | cases h4
        have e7 : hd = true := h5
        have e8 : mro = .ref c :: bm := e1
        have e9 : l = [k0, k1, k2, k3, some (.builtin n), k5] := e2
        rw [e8, e9, e3, e4, e5, e6, e7]
        exact ⟨_, _, _, _, _, _, _, _, _, _, _, _, _, _, _, rfl, h6⟩
      · cases h
    | _ => cases h
/-- the further facts -/
def exB (K : PySem.W.Frag) : Bool :=
  exoB K (rfA K) && (decide (PySem.W.findIn K (.ref (rfA K)) "__setattr__" = some (some (.builtin "object.__setattr__"))) && (decide (PySem.W.subIn K (.ref (rfA K)) (.type "BaseException") = some true) &&
  (decide (PySem.W.typeIn K (.ref (rfA K)) = some (.type "type")) && (PySem.W.keepIn K (.ref (rfA K)) && (PySem.W.keepIn K (.ref (rfI K)) && (decide (PySem.W.findIn K (.ref (rfA K)) "__init__" = some (some (.ref (rfI K)))) &&
  (decide (PySem.W.typeIn K (.ref (rfI K)) = some (.type "function")) && (decide (PySem.W.ks_superIn K (rfA K) (rfA K) "__init__" = some (some (.builtin "ValueError.__init__"))) && (decide (PySem.W.nsIn K PySem.cStatics "thirdparty.any" = some none) &&
  (decide (PySem.W.subIn K (.ref (rfA K)) (.type "ValueError") = some true) && (decide (PySem.W.mroIn K (rfA K) (.ref (rfA K)) = some true) && (decide (PySem.W.findIn K (.ref (rfA K)) "what" = some none) && (xfB K (rfA K) &&
  decide (PySem.W.exmOne K (.ref (rfA K)) (.ref (rfA K)) = some true))))))))))))))
abbrev RfV : Type := Option (PySem.Str × PySem.Str × Arguments × FuncBody × Scope × Addr × Value × Addr × Option PySem.Str × Bool)
def fileOf (K : PySem.W.Frag) (c : Value) : Option PySem.Str := match c with
  | .ref ca => (match K.lookup ca with
    | some ⟨_, _, .fields vs, _⟩ => (match (vs[2]? : Option Value) with
      | some (.str f _) => some f
      | _ => none)
    | _ => none)
  | _ => none
def cellB (K : PySem.W.Frag) (q : PySem.Str) (fd : FuncData) : Bool := match fd.closure with
  | [(n, cc)] => (match K.lookup cc with
    | some ⟨_, _, .cell (some (.ref D)), _⟩ => decide (n = "__class__") && (decide (D = rfA K) && PySem.W.codeIn K fd.code q)
    | _ => false)
  | _ => false
def rfO (K : PySem.W.Frag) : RfV := match K.lookup (rfI K) with
  | some ⟨_, _, .func fd, _⟩ => some (fd.name, fd.qualname, fd.params, fd.body, fd.scope, fd.globals, fd.defaults, fd.builtins, fileOf K fd.code, cellB K fd.qualname fd)
  | _ => none
def rfV : RfV := some ("__init__", "Refused.__init__", defArgs s_Refused_init, .stmts (defBody s_Refused_init), defScope s_Refused_init, mainGlobals, .none, builtinsNs, some pw.main.file, true)
theorem refK_of {K : PySem.W.Frag} (h : exB K = true) (e : rfO K = rfV) (ht : (pw.main.scope.names.lookup ("super" : PySem.Str)).isSome = false) : Ext pw K := by
  obtain ⟨h1, h⟩ := He.ba h
  obtain ⟨h2, h⟩ := He.ba h
  obtain ⟨h3, h⟩ := He.ba h
  obtain ⟨h4, h⟩ := He.ba h
  obtain ⟨h5, h⟩ := He.ba h
  obtain ⟨h6, h⟩ := He.ba h
  obtain ⟨h7, h⟩ := He.ba h
  obtain ⟨h8, h⟩ := He.ba h
  obtain ⟨h9, h⟩ := He.ba h
  obtain ⟨h10, h⟩ := He.ba h
  obtain ⟨h11, h⟩ := He.ba h
  obtain ⟨h12, h⟩ := He.ba h
  obtain ⟨h13, h⟩ := He.ba h
  obtain ⟨h14, h15⟩ := He.ba h
  have oex : OexC K (rfA K) := ⟨exoB_ok h1, of_decide_eq_true h2, of_decide_eq_true h3, of_decide_eq_true h4, h5⟩
  refine ⟨⟨?_, oex, h6, of_decide_eq_true h7, of_decide_eq_true h8, of_decide_eq_true h9, of_decide_eq_true h10, of_decide_eq_true h11, of_decide_eq_true h12, of_decide_eq_true h13, xfB_ok h14, ht⟩, of_decide_eq_true h15⟩
  unfold rfO at e
  cases hk : K.lookup (rfI K) with
  | none => rw [hk] at e; cases e
  | some o =>
    obtain ⟨oc, od, dt, sl⟩ := o
    rw [hk] at e
    cases dt with
    | func fd =>
      obtain ⟨x1, x2, x3, x4, x5, x6, x7, x8, x9, x10, x11, x12, x13, x14, x15⟩ := fd
      have e2 : (some (x1, x2, x3, x4, x5, x6, x8, x15, fileOf K x13, cellB K x2 ⟨x1, x2, x3, x4, x5, x6, x7, x8, x9, x10, x11, x12, x13, x14, x15⟩) : RfV) = rfV := e
      unfold rfV at e2
      simp only [Prod.mk.injEq, Option.some.injEq] at e2
      obtain ⟨q1, q2, q3, q4, q5, q6, q7, q8, q9, q10⟩ := e2
      subst q1 q2 q3 q4 q5 q6 q7 q8
      unfold cellB at q10
      dsimp only at q10
      cases x7 with
      | nil => cases q10
      | cons p rr =>
        cases rr with
        | cons _ _ => cases q10
        | nil =>
          obtain ⟨n, cc⟩ := p
          dsimp only at q10
          cases hcc : K.lookup cc with
          | none => rw [hcc] at q10; cases q10
          | some oo =>
            obtain ⟨a1, a2, a3, a4⟩ := oo
            rw [hcc] at q10
            cases a3 with
            | cell v =>
              cases v with
              | none => cases q10
              | some u =>
                cases u with
                | ref D =>
                  obtain ⟨r1, r2⟩ := He.ba q10
                  obtain ⟨r3, r4⟩ := He.ba r2
                  have en : n = "__class__" := of_decide_eq_true r1
                  have eD : D = rfA K := of_decide_eq_true r3
                  subst en eD
                  unfold fileOf at q9
                  cases x13 with
                  | ref cda =>
                    dsimp only at q9
                    cases hcode : K.lookup cda with
                    | none => rw [hcode] at q9; cases q9
                    | some od2 =>
                      obtain ⟨b1, b2, b3, b4⟩ := od2
                      rw [hcode] at q9
                      cases b3 with
                      | fields vs =>
                        dsimp only at q9
                        cases hvs : (vs[2]? : Option Value) with
                        | none => rw [hvs] at q9; cases q9
                        | some y =>
                          rw [hvs] at q9
                          cases y with
                          | str f tf =>
                            have ef : f = pw.main.file := Option.some.inj q9
                            exact ⟨oc, od, x9, x10, x11, x14, x12, sl, cda, cc, b1, a1, b2, a2, vs, b4, a4, f, tf, rfl, r4, hcode, hvs, by rw [ef]; exact beq_self_eq_true _, hcc⟩
                          | _ => cases q9
                      | _ => cases q9
                  | _ => cases q9
                | _ => cases q10
            | _ => cases q10
    | _ => cases e
end Edge
/-! the Hook. -/
namespace Edge
open L2 PyProof.Rows PySem PySem.Spec
abbrev AlR : Type := He.AlX × RfV
def obsRG (fa : List He.Fa) (fn : List He.DefD) (rv : RfV) (g : Addr → Option Obj) : AlR := ((He.obsT fa fn [] (frR g), exB (frR g) && He.tabsB g ordP (frR g)), rfO (frR g))
def valR (fn : List He.DefD) (rv : RfV) (w : World) : AlR := (He.valX fn [] w, rv)
structure SaysR (fa : List He.Fa) (fn : List He.DefD) (rv : RfV) (h : Heap) (K : PySem.W.Frag) : Prop where
  d : He.SaysD fa fn K
  ex : exB K = true
  rf : rfO K = rv
  hd : PySem.W.codeHdIn K (zc K) (zt K) = true
  out : K.lookup (zt K) = none
  empty : h.get? (zt K) = some { cls := .none, data := .fields #[] }
theorem frR_none (g : Addr → Option Obj) (a : Addr) (o : Obj) (q : g a = some o) (z : He.emptyTab o = true) : (frR g).lookup a = none := He.frT_none q z
theorem saysR_of {fa : List He.Fa} {fn : List He.DefD} {rv : RfV} {w : World} {h : Heap} (e : obsRG fa fn rv h.get? = valR fn rv w) : SaysR fa fn rv h (frR h.get?) := by
  have key := frR_none h.get?
  unfold obsRG valR He.valX at e
  obtain ⟨e12, e3⟩ := Prod.mk.inj e
  obtain ⟨e1, e2⟩ := Prod.mk.inj e12
  clear e e12
  generalize frR h.get? = K at key e1 e2 e3
  obtain ⟨h1, h2⟩ := He.ba e2
  have h3 := List.all_eq_true.mp h2 ("is_ordered", none) (List.mem_singleton.mpr rfl)
  obtain ⟨h4, h5⟩ := He.ba h3
  have e4 : He.SaysD fa fn K := congrArg (fun z : He.AlT => z.1) e1
  have e5 : (He.cT K ("is_ordered", none)).2 = zt K := rfl
  rw [e5] at h5
  cases q : h.get? (zt K) with
  | none =>
    rw [q] at h5
    cases h5
  | some o =>
    rw [q] at h5
    have h6 : He.emptyTab o = true := h5
    exact ⟨e4, h1, e3, h4, key _ _ q h6, by rw [q, He.emptyTab_eq h6]⟩
def hkRG (fa : List He.Fa) (fn : List He.DefD) (rv : RfV) : PySem.W.Hook where
  α := AlR
  obs := fun s => obsRG fa fn rv s.heap.get?
  val := fun w => valR fn rv w
  says := fun _ h => ∃ K : PySem.W.Frag, K.In h ∧ SaysR fa fn rv h K
  of := fun _ _ e => ⟨_, He.frT_in, saysR_of e⟩
  keeps := fun _ _ _ ⟨K, hK, c⟩ k => ⟨K, PySem.W.Frag.In.keeps hK k, ⟨c.d, c.ex, c.rf, c.hd, c.out, k _ _ c.empty⟩⟩
def obRG (fa : List He.Fa) (fn : List He.DefD) (rv : RfV) (s : PySem.W.SharedT) : AlR := obsRG fa fn rv (HandSHeadRun.getT s)
theorem obRG_eq {fa : List He.Fa} {fn : List He.DefD} {rv : RfV} (s : PySem.W.SharedT) : obRG fa fn rv s = (hkRG fa fn rv).obs s.abs := by
  have e : HandSHeadRun.getT s = s.abs.heap.get? := funext (HandSHeadRun.getT_eq s)
  show obsRG fa fn rv (HandSHeadRun.getT s) = obsRG fa fn rv s.abs.heap.get?
  rw [e]
abbrev hkR : PySem.W.Hook := hkRG fas fns rfV
def obR (s : PySem.W.SharedT) : AlR := obsRG fas fns rfV (HandSHeadRun.getT s)
theorem obR_eq (s : PySem.W.SharedT) : obR s = hkR.obs s.abs := obRG_eq s
def names1 : List PySem.Str := ["_wall", "__name__", "LinkError", "Refused", "stuff", "flag_of", "frame_bits", "zeros_of", "gaps_of", "Reader", "read_gaps", "frame_gaps", "gap_bits", "poll_of", "detection_polls", "received_gaps", "receive", "detection_time", "EDGES_MOST", "Monitor", "opened", "shift_at", "places_of", "is_ordered", "is_late", "relay_signal", "backlogs", "BYTE_SIZE", "byte_bits", "bits_of"]
def names2 : List PySem.Str := ["byte_of", "bytes_of", "added", "remainder", "check_bits", "is_intact", "pack", "unpack", "LETTERS_MOST", "LINE_MOST", "modulus_of", "Sender", "Taker", "Talk", "_law_cell", "_law_draws", "_law_changed", "_law_edge", "_law_edges_are_refused", "_law_of_monitor", "_law_of_talk", "_law_talk"]
def names : List PySem.Str := names1 ++ names2
end Edge
set_option maxHeartbeats 0
namespace Edge
open L2 PyProof.Rows PySem PySem.Spec
theorem runR (w : World) : HandSHeadRun.RunEq R (PySem.W.view R.prog [62]) hkR obR 4000 names w := by
  intro os
  kernel_rfl
end Edge
set_option maxHeartbeats 4000000
/-! the end: the law's def is called at the claim's own place. -/
namespace Edge
open GxR L2 PyProof.Rows PySem PySem.Spec
abbrev lawN : List PySem.Str := ["_law_script", "_law_draws_here", "_law_receiver", "_law_times", "_law_k", "_law_monitor", "_law_passed", "_law_lists", "_law_before", "_law_state", "_law_talk_here", "_law_signal", "_law_gaps"]
section
variable {P : Program} {w : World} {K : PySem.W.Frag} {mg : PySem.Str → Option Value} {base : Heap}
/-- the law's def, called at A -/
theorem law_at (T : Txt K mg) (Y : Ext P K) (Z : TabB base mg (zc K) (zt K)) {A : Around} {outer : List Env} {s : Shared} {H : Hp} {a : Addr} {ns : List Int} (hgd : A.guards = some []) (hr : Room 9 A) (e0 : Env0 P w K mg base A outer s H)
    (hS : SqL K H a (ns.map V.int)) (hT : TabG H (zt K)) : codeAny (model P w) A (.call (.ref (He.ga K "law")) ⟨[.ref a], []⟩) (CR CX0 outer P w H s (fun v _ => v = .bl true) E0) s := by
  obtain ⟨fd, F⟩ := T.fn in_law
  have Bd : Binds K fd ["_law_script"] [] := F.bindsN b_law
  obtain ⟨_, _, _, _, _, _, _, cdv, _, _, rfl, lk, hcd, _, _⟩ := F.ex
  have S := sc_law
  have KH : K.In s.heap := e0.mod.kin.keeps fun b o q => (e0.bs b o q).1
  have noL : s.heap.NoLimit := e0.mod.nolimit.keeps fun b o q => (e0.bs b o q).1
  have bnd := Bd s [.ref a] KH rfl
  refine codeAny_call_function hr.depth (KH _ _ lk) rfl S.co S.gen rfl (PySem.W.codeRec_of KH hcd) (bnd _ _ _ _ ?_)
  refine wpAny_newFunctionEnv_cells S.kind (fun y hy => ?_) fun env he s1 x => ?_
  · have hy2 : y = (("_law_script" : PySem.Str), Value.ref a) := memS hy
    rw [hy2]
    rcases S.par "_law_script" List.mem_cons_self with q | q
    · exact .inl q
    · exact Or.inr ⟨q, PySem.W.cellsFrom_some _ _ _ (Or.inl q)⟩
  · subst he
    refine ⟨noL.keeps x.toInCall.keep, codeAny_func ?_⟩
    obtain ⟨t, ht, q⟩ := law_walk (w := w) (base := base) (cdv := cdv) (A := A) (outer := outer) (s0 := s) (Q := fun v _ => v = .bl true) (E := E0) T Y Z hgd (hr.deeper _) hS hT fun _ => rfl
    have I := inv_start (CX := CX0) (P := P) (w := w) (K := K) (mg := mg) (base := base) (N := lawN) (ps := ["_law_script"]) (E := E0) (us := [.ref a]) (vs := [V.ref a]) S hr.hd e0 rfl (.cons rfl .nil) x
    refine wpAny_mono (ht.nox.run [] s1 _ H _ I q) (fun fl s2 h2 => ?_) fun _ _ z => z
    have out : ∀ {σ : L2.St} {H2 : Hp} {v : V} {u : Value}, Inv (cxOf CX0 P w K mg base lawN d_law.qual d_law.scope (He.ga K "law") cdv A outer s H E0) [] σ H2 s2 → RelV v u → v = .bl true → CE outer P w H s (fun v _ => v = .bl true) u s2 := fun J r e => ⟨_, _, J.os, J.bare, J.base, J.hok, r, e⟩
    cases fl with
    | ret u =>
      obtain ⟨v, σ2, H2, J, r, e⟩ := h2
      exact out J r e
    | next =>
      obtain ⟨σ2, H2, J, e⟩ := h2
      cases e
    | brk =>
      obtain ⟨_, _, _, z⟩ := h2
      exact z.elim
    | cont =>
      obtain ⟨_, _, _, z⟩ := h2
      exact z.elim
/-- what is tracked at the law's entry: the table of is_ordered's code, the script if K does not hold it -/
def entryH (K : PySem.W.Frag) (a : Addr) (vs : List Value) (ns : List Int) : Hp := fun b =>
  if b = zt K then some (.tbl #[]) else if b = a then (match K.lookup a with
    | none => some (.frz { cls := .type "list", data := .seq vs.toArray } (.lst (ns.map V.int)))
    | some _ => none) else none
theorem law_end {mb : PySem.Str → Option Value} {s : Shared} {a : Addr} {vs : List Value} {ns : List Int} (T : Txt K mg) (Y : Ext P K) (hcd : PySem.W.codeHdIn K (zc K) (zt K) = true) (hout : K.lookup (zt K) = none)
    (hz : s.heap.get? (zt K) = some { cls := .none, data := .fields #[] }) (KI : K.In s.heap) (G : s.heap.Ns mainGlobals mg) (B : s.heap.Ns builtinsNs mb) (hB : ∀ x : PySem.Str, x ≠ "__name__" → mb x = bootBuiltins x) (hL : s.heap.NoLimit) (hg : s.gens = #[])
    (hM : ∃ (bm : Addr) (ob : Obj), mg "__builtins__" = some (.ref bm) ∧ bm ≠ builtinsNs ∧ s.heap.get? bm = some ob ∧ ob.cls = .type "module" ∧ ob.dict = some builtinsNs ∧ ob.data = .plain)
    (ha : s.heap.get? a = some { cls := .type "list", data := .seq vs.toArray }) (hi : IntsAre vs ns) (hl : ns.length ≤ 63) (hr : Room 9 callerA) :
    codeAny (model P w) callerA (.call (.ref (He.ga K "law")) ⟨[.ref a], []⟩) (fun r s' => r = .ok (.ret (.bool true)) ∧ OldK s.heap s'.heap ∧ s'.os = s.os ∧ AllBare s'.gens) s := by
  have hv := vals_ints hi
  have naz : a ≠ zt K := fun e => by
    rw [e, hz] at ha
    have q := congrArg Obj.cls (Option.some.inj ha)
    cases q
  have atZ : entryH K a vs ns (zt K) = some (.tbl #[]) := if_pos rfl
  -- what is tracked
  have tracked : ∀ b, entryH K a vs ns b ≠ none → b = zt K ∨ (b = a ∧ K.lookup a = none) := fun b hb => by
    by_cases h1 : b = zt K
    · exact .inl h1
    · by_cases h2 : b = a
      · refine .inr ⟨h2, ?_⟩
        cases q : K.lookup a with
        | none => rfl
        | some o =>
          refine absurd ?_ hb
          unfold entryH
          rw [if_neg h1, if_pos h2, q]
      · refine absurd ?_ hb
        unfold entryH
        rw [if_neg h1, if_neg h2]
  have off : ∀ b, b ≠ zt K → (b = a → K.lookup a ≠ none) → entryH K a vs ns b = none := fun b n1 n2 => by
    cases q : entryH K a vs ns b with
    | none => rfl
    | some u =>
      rcases tracked b (by rw [q]; exact fun z => by cases z) with e | ⟨e, k⟩
      · exact absurd e n1
      · exact absurd k (n2 e)
  have offO : ∀ {b : Addr} {o : Obj}, s.heap.get? b = some o → (∀ xs n, o.data ≠ .seq xs n) → o.data ≠ .fields #[] → entryH K a vs ns b = none := fun {b o} q n1 n2 => off b (fun e => by
    rw [e, hz] at q
    exact n2 (by rw [← Option.some.inj q])) fun e => by
    rw [e, ha] at q
    exact absurd (by rw [← Option.some.inj q]) (n1 vs.toArray _)
  have offN : ∀ {b : Addr} {m : PySem.Str → Option Value}, s.heap.Ns b m → (hidT s.heap (entryH K a vs ns)).Ns b m := fun {b m} z => by
    obtain ⟨o, es, ep, q, d, r⟩ := z
    exact ⟨o, es, ep, hidT_get q (offO q (fun xs n e => by rw [d] at e; cases e) fun e => by rw [d] at e; cases e), d, r⟩
  have seqA : SqL K (entryH K a vs ns) a (ns.map V.int) := by
    cases q : K.lookup a with
    | none =>
      refine .inl (.inr ⟨{ cls := .type "list", data := .seq vs.toArray }, ?_⟩)
      unfold entryH
      rw [if_neg naz, if_pos rfl, q]
    | some o =>
      have e := KI a o q
      rw [ha] at e
      obtain rfl := Option.some.inj e
      refine .inr ⟨_, vs.toArray, _, q, rfl, rfl, rfl, ?_, by simpa using hv⟩
      rw [List.size_toArray, hi.length, sizeLine_eq]
      omega
  have hok : HOk P w (entryH K a vs ns) s.heap := fun b u q => by
    rcases tracked b (by rw [q]; exact fun z => by cases z) with e | ⟨e, k⟩
    · rw [e, atZ] at q
      obtain rfl := Option.some.inj q
      rw [e]
      exact hz
    · have q2 : entryH K a vs ns a = some (.frz { cls := .type "list", data := .seq vs.toArray } (.lst (ns.map V.int))) := by
        unfold entryH
        rw [if_neg naz, if_pos rfl, k]
      rw [e, q2] at q
      obtain rfl := Option.some.inj q
      rw [e]
      refine ⟨ha, ?_, vs, _, hv, ha⟩
      rw [sizeLine_eq, List.length_map]
      omega
  have KB : K.In (hidT s.heap (entryH K a vs ns)) := fun b o q => hidT_get (KI b o q) (off b (fun e => by rw [e, hout] at q; cases q) fun e k => by rw [e, k] at q; cases q)
  have md : L2.Mod K mg (hidT s.heap (entryH K a vs ns)) := by
    obtain ⟨mc, z1, z2⟩ := hL
    exact ⟨KB, offN G, ⟨mb, offN B, hB⟩, ⟨mc, offN z1, z2⟩⟩
  have Z : TabB (hidT s.heap (entryH K a vs ns)) mg (zc K) (zt K) := by
    obtain ⟨bm, ob, m1, m2, m3, m4, m5, m6⟩ := hM
    refine ⟨PySem.W.codeHd_of_K KB hcd, ⟨bm, ob, m1, m2, fun e => ?_, fun e => ?_, hidT_get m3 (offO m3 (fun xs n e => by rw [m6] at e; cases e) fun e => by rw [m6] at e; cases e), m4, m5, m6⟩, fun e => ?_⟩
    · obtain ⟨o, es, ep, q, d, _⟩ := G
      rw [e, q] at m3
      obtain rfl := Option.some.inj m3
      rw [d] at m6
      cases m6
    · rw [e, hz] at m3
      obtain rfl := Option.some.inj m3
      cases m6
    · obtain ⟨o, es, ep, q, d, _⟩ := G
      rw [e, hz] at q
      obtain rfl := Option.some.inj q
      cases d
  have e0 : Env0 P w K mg (hidT s.heap (entryH K a vs ns)) callerA [] s (entryH K a vs ns) :=
    ⟨rfl, md, fun b o q => of_hidT q, Nat.le_of_eq (hidT_size _ _), trivial, fun b hb => (by cases hb), hok, .of_eq hg⟩
  refine codeAny_mono (law_at T Y Z rfl hr e0 seqA ⟨#[], atZ, (by trivial)⟩) fun r s2 h => ?_
  cases r with
  | error e => exact h.elim
  | ok fl =>
    cases fl with
    | next => exact h.elim
    | brk => exact h.elim
    | cont => exact h.elim
    | ret u =>
      obtain ⟨v, H2, ho, hb, un, hok2, rv, ev⟩ := h
      subst ev
      obtain rfl : u = Value.bool true := rv
      have kept : ∀ b o, b ≠ zt K → s.heap.get? b = some o → s2.heap.get? b = some o := fun b o n q => by
        cases z : entryH K a vs ns b with
        | none => exact un.keep b o q z (fun hm => by cases hm) (fun hm => by cases hm)
        | some u2 =>
          rcases tracked b (by rw [z]; exact fun y => by cases y) with e | ⟨e, k⟩
          · exact absurd e n
          · have z2 : entryH K a vs ns a = some (.frz { cls := .type "list", data := .seq vs.toArray } (.lst (ns.map V.int))) := by
              unfold entryH
              rw [if_neg naz, if_pos rfl, k]
            have y2 := hok2 a _ (un.frzs a _ _ z2)
            rw [e, ha] at q
            obtain rfl := Option.some.inj q
            rw [e]
            exact y2.1
      obtain ⟨more, grown⟩ := un.tbls (zt K) #[] atZ
      have gz := hok2 (zt K) _ grown
      refine ⟨rfl, ⟨fun b o q => ?_, fun b o q => ?_⟩, ho, hb⟩
      · by_cases n : b = zt K
        · rw [n] at q ⊢
          rw [hz] at q
          obtain rfl := Option.some.inj q
          refine .inr (.inl ⟨((PySem.W.codeHd_of_K KI hcd).tab hz).isCodeTable, rfl, #[], more, rfl, ?_⟩)
          rw [Array.empty_append]
          have e3 : (#[] : Array Value) ++ more = more := Array.empty_append
          have gz2 : s2.heap.get? (zt K) = some { cls := .none, data := .fields (#[] ++ more) } := gz
          rw [e3] at gz2
          exact gz2
        · exact .inl (kept b o n q)
      · by_cases n : b = zt K
        · rw [n]
          exact ⟨_, gz⟩
        · exact ⟨o, kept b o n q⟩
end
end Edge
set_option maxHeartbeats 0
open PyProof.Rows PySem PySem.W PySem.Calls
theorem PySem.Challenge.cw_edgelink_k37_lists_are_not_shared_holds : PySem.Challenge.rw_edgelink_k37_lists_are_not_shared.Holds := by
  w_on; o_law
  refine HandSHeadRun.head_any (r := OpenLaw.row PySem.Challenge.rw_edgelink_k37_lists_are_not_shared) (q := view (OpenLaw.row PySem.Challenge.rw_edgelink_k37_lists_are_not_shared).prog [62]) (H := Edge.hkR) (ob := Edge.obR) (M := 4000) (loose := Edge.names) (d := HandSHeadRun.topDef (OpenLaw.row PySem.Challenge.rw_edgelink_k37_lists_are_not_shared).prog 62) (kwd := []) Edge.obR_eq
    (by kernel_rfl) (fun s => by kernel_rfl) Edge.runR (by kernel_rfl) (by kernel_rfl) (by kernel_rfl) (by rfl) (by first | assumption | decide +kernel) (by decide +kernel) ⟨rfl, rfl, rfl, rfl, rfl, by decide +kernel⟩ ?hw ?hc
  case hw => w_witness2
  case hc =>
    refine Att.attach_callB (l := PySem.Challenge.rw_edgelink_k37_lists_are_not_shared) (n := 63) rfl (by kernel_rfl) fun w s₀ s₁ mg mb fa o pm cd doc a vs ns G Y ho hd hcd hmg0 hobj hints hlen hbits hg => ?_
    obtain ⟨K, KX, c⟩ := Y
    have T := Edge.txt_of KX G.T.g c.d
    have X := Edge.refK_of c.ex c.rf (by decide +kernel)
    have hmg : mg ("law" : PySem.Str) = some (.ref fa) := by
      have e : (HandSHeadRun.topDef (OpenLaw.row PySem.Challenge.rw_edgelink_k37_lists_are_not_shared).prog 62).name = ("law" : PySem.Str) := by kernel_rfl
      rw [← e]
      exact hmg0
    have e2 := hmg.symm.trans (T.g (x := "law") (by decide +kernel))
    obtain rfl : fa = He.ga K "law" := by
      have e3 := Option.some.inj e2
      injection e3
    exact Edge.law_end T X c.hd c.out c.empty KX G.T.g G.T.b G.T.builtins G.T.nolimit hg G.T.bmain hobj hints hlen ⟨rfl, by decide, by decide⟩
