import PyProof.Rows.All
import Wide.All
import OpenK.AllK
import Wide.FinOn
import HandS.ForMost
import HandS.More
import HandS.WordsExc
import HandS.ExcIs
import HandS.HotCalls
import HandS.IsInst
import HandS.Walk
import HandS.StrMore
import HandS.Wide
import HandS.Zip
import HandS.ReplaceLit
import HandS.ReplaceDef
import HandS.SlotsOwn
import HandS.Small
import KE.GoesEnum
import PySem.Challenge.RW_hyphenpatterns_k08_whole_hyphenator
set_option Elab.async false
set_option linter.all false
set_option maxRecDepth 100000
set_option maxHeartbeats 4000000
namespace Hy
open PySem PySem.Spec PyProof.Rows L2
abbrev St := L2.St
section
variable {X : Cx}

/-! ### an item of a list, for xs[i] op= e -/
def rGetL (K : PySem.W.Frag) : V → V → Hp → VK → Prop := fun o i H Q =>
  ∃ (p : Addr) (xs : List V) (k : Nat) (v : V), o = .ref p ∧ i = .int (k : Int) ∧ SqL K H p xs ∧ xs[k]? = some v ∧ Q v H
theorem get_list : PGet X (rGetL X.K) := by
  intro pins s σ H o i ov iv Q I ro ri h
  obtain ⟨p, xs, k, v, rfl, rfl, hs, hv, q⟩ := h
  cases ro
  obtain ⟨t, rfl⟩ := ri
  obtain ⟨its, r, pl, hz⟩ := I.list hs
  obtain ⟨u, hu, ru⟩ := r.get hv
  have hk : k < xs.length := (List.getElem?_eq_some_iff.mp hv).1
  have h63 := line63
  exact wpAny_getItem_list pl.isList (by omega) (by omega) (by simpa using hu) ⟨v, H, I, ru, q⟩

/-! ### raise C(), C an own class without __init__ -/
theorem pmk_own0 {C : Addr} {bmB : List Value} {B newId initId : String} {x : Str} {p pos : Pos} (F : ExcBaseFacts B newId initId bmB) (q : PySem.W.excIn X.K C bmB newId = true)
    (gC : X.mg x = some (.ref C)) (kC : PySem.W.keepIn X.K (.ref C) = true) (r : Raises X (.ref C)) (hg : Gl X x) (hdb : (x == ("__debug__" : Str)) = false := by decide) :
    PMk X (.Call (.Name x p) [] [] pos) (fun _ H Q => Q (.ref C) none H) := by
  intro pins s σ H Q I h
  refine wpAny_Call_Name_kw (ld_glob I hg gC ?_ hdb)
  refine PySem.W.callWith_K0 (first := []) I.kIn kC ?_
  obtain ⟨bm, N, nm, qn, bs, hdct, sn, sub, ab, col, dd, k0, k1, k2, k3, k5, mN, hC, hN, hni, T⟩ := exc_obj I.kIn q
  exact wpAny_call_exc_subT F T hC hN hni (fun h' e hm => mk_of I hm r h (I.hok.gone hm.new)) (Nat.zero_le _)

/-! ### o.m(..) in a try's body: what is raised may be wished for at the slots -/
def tMethS (C : Addr) (m : Str) (sp : Sp) (E : St → XK) (ta : TE) (t : TA) : TE := fun σ H Q => ta σ H fun x H1 =>
  ∃ a dx fs, x = .ref a ∧ H1 a = some (.ins C dx fs) ∧ fs.lookup m = none ∧ t σ H1 fun vs H2 => sp (x :: vs) H2 Q (E σ)
theorem pe_methS {CX : CXT} {k : Nat} {f C : Addr} {fd : FuncData} {ps : List Str} {sp : Sp} {E : St → XK} {m : Str} {pos apos : Pos} {e o : Expr} {es : List Expr} {ta : TE} {t : TA} {pl : Sem Bool}
    (he : PE X o ta) (c : Cls X.K C) (hm : Meth X.K C m f) (F : FnOk X.prog X.w X.K X.mg X.base CX k f fd ps sp) (hr : Room k X.A) (hb : Binds X.K fd ps []) (hx : ∀ σ, PassesAt CX X σ (E σ)) (ha : PA X (e :: es) t)
    (hst : starEach (e :: es) X.env = (false, eval e X.env) :: starEach es X.env := by rfl) (hpl : (backTo pos (starEach es X.env)).any (·.1) = false := by rfl)
    (ht : eval (.Call (.Attribute o m apos) (e :: es) [] pos) X.env = (do
      let ov ← eval o X.env
      standAt apos.atName
      let (g, first) ← holding [ov] (getMethod ov m pl)
      callWith pos g first (backTo pos (starEach (e :: es) X.env)) (backToKw pos (keywordEach [] X.env))) := by rfl) :
    PE X (.Call (.Attribute o m apos) (e :: es) [] pos) (tMethS C m sp E ta t) :=
  ⟨fun pins s σ H Q I h => PySem.W.methodCall_KW (pl := pl) (thn (he.run pins s σ H _ I h) fun u s1 ⟨x, H1, I1, rx, a, dx, fs, ex, ea, l, q⟩ => by
    cases ex
    cases rx
    refine getmeth_ok I1 ea c hm l (PySem.W.callWith_K (first := [.ref a]) (h₀ := X.base) I.ok.mod.kin hm.kp (thn (ha.run pos pins s1 σ H1 _ I1 q) ?_) hst hpl)
    rintro us s2 ⟨vs, H2, I2, r, q2⟩
    exact ⟨I2.kIn, run_fnS (us := .ref a :: us) (vs := .ref a :: vs) F hr hb (hx σ) I2 (.cons rfl r) q2⟩) ht⟩

/-! ### isinstance of an exception that the context pins -/
theorem call_isP {a D : Addr} {oe : Obj} (hp : (a, oe) ∈ X.pn) (C : ExcC X.K D) (hc : oe.cls = .ref D) (hd : oe.dict = none) (hf : ∃ vs, oe.data = .fields vs) :
    CallR X (.builtin "isinstance") (rIsE X.K D a) := by
  intro pins s σ H xs us Q I r h
  obtain ⟨c, cv, b, rfl, hcv, e, q⟩ := h
  obtain ⟨u1, u2, rfl, r1, r2⟩ := vals2 r
  cases r1
  cases hcv _ r2
  obtain ⟨hget, _⟩ := I.pin (a, oe) (List.mem_append_left _ hp)
  have J : PySem.W.InstAt s.heap a oe D none := by
    obtain ⟨vs, hv⟩ := hf
    obtain ⟨oc, od, oda, osl⟩ := oe
    cases hc; cases hd; cases hv
    exact ⟨hget, rfl, rfl, trivial⟩
  exact PySem.W.kia_one (PySem.W.handS_kitx_exc C.hg C.hk C.hs C.hd C.ha C.hn C.ht C.hm) I.kIn J e (fun z => nomatch z) fun tk => ⟨.bl b, H, I.tok tk, rfl, q⟩

/-! ### xs.count(y), flat items -/
def rCountF (K : PySem.W.Frag) : V → List V → Hp → VK → Prop := fun x xs H Q => ∃ (p : Addr) (ys : List V) (y : V), x = .ref p ∧ xs = [y] ∧ SqL K H p ys ∧ flatV y = true ∧ ys.all flatV = true ∧ Q (.int ((ys.countP fun z => eqV z y : Nat) : Int)) H
theorem countP_eqU {y : V} : ∀ {ys : List V} {us : List Value}, Vals ys us → ys.all flatV = true → us.countP (eqU y) = ys.countP fun z => eqV z y
  | _, _, .nil, _ => rfl
  | z :: zs, u :: us, .cons r t, h => by
    rw [List.all_cons, Bool.and_eq_true] at h
    rw [List.countP_cons, List.countP_cons, countP_eqU t h.2, eqU_of r h.1]
theorem mt_countF : MtR X "list.count" (rCountF X.K) := by
  intro pins s σ H x xs v us Q I rx rxs h
  obtain ⟨p, ys, y, rfl, rfl, hs, fy, fys, q⟩ := h
  cases rx
  obtain ⟨u, rfl, ru⟩ := rxs.one
  obtain ⟨its, r, ⟨⟨cls, dd, dt, sl⟩, n, ho, hc, hdn, hd⟩, hlen⟩ := I.list hs
  cases hc; cases hd
  refine call_meets PySem.F.slot_list_count ⟨_, ho, rfl⟩ PySem.F.entry_list_count (PySem.F.args_list_count_2 _ _) (SeqAt.list_countAt p its.toArray n dd sl u (eqU y))
    ⟨ho, fun w hw => mem_eqAt ru fy r fys w (by simpa using hw), ⟨.int _, H, I.tok _, ⟨s.toks, ?_⟩, q⟩⟩
  show Value.int ((its.countP (eqU y) : Nat) : Int) s.toks = _
  rw [countP_eqU r fys]

/-! ### len(x), x an instance of a class with an own __len__ -/
def rLenOwn (C : Addr) (sp : Sp) (E : XK) : List V → Hp → VK → Prop := fun xs H Q => ∃ a dx fs, xs = [V.ref a] ∧ H a = some (.ins C dx fs) ∧ sp [.ref a] H (fun z H' => ∃ n : Nat, n < 2 ^ 63 ∧ z = .int (n : Int) ∧ Q z H') E
theorem call_lenOwn {CX : CXT} {k : Nat} {g C : Addr} {fd : FuncData} {ps : List Str} {sp : Sp} {E : XK} (hs : PySem.W.findIn X.K (.ref C) "__len__" = some (some (.ref g))) (hf : PySem.W.isFn X.K (.ref g) = true)
    (F : FnOk X.prog X.w X.K X.mg X.base CX k g fd ps sp) (hr : Room (k + 1) X.A) (hb : Binds X.K fd ps []) (hx : Passes CX X E) : CallR X (.builtin "len") (rLenOwn C sp E) := by
  intro pins s σ H xs us Q I r h
  obtain ⟨a, dx, fs, rfl, ha, q⟩ := h
  obtain ⟨u, rfl, ru⟩ := r.one
  cases ru
  obtain ⟨mA, O, _⟩ := ins_get I.hok ha
  obtain ⟨od, J, _⟩ := O.look
  obtain ⟨m, hF⟩ := I.fr
  have b := hb s [.ref a] I.kIn (by rw [List.append_nil]; exact (F.len _ _ _ _ q))
  refine PySem.W.len_K hF I.ok.mod.kin J hs hf (wpAny_call (codeAny_mono (F.run X.A.in1 X.stack s H ⟨[.ref a], []⟩ [.ref a] [.ref a] _ E hr.in1 I.env0.in1 b (.cons rfl .nil) q) fun r s' hq => ?_))
  cases r with
  | error e => exact hx pins σ H s e s' I hq
  | ok fl =>
    cases fl with
    | ret u =>
      obtain ⟨z, H', I', rz, n, hn, ez, qz⟩ := I.after hq
      subst ez
      obtain ⟨t, rfl⟩ := rz
      exact ⟨⟨by omega, by omega⟩, .int n, H', I'.tok _, ⟨_, rfl⟩, qz⟩
    | next => exact False.elim hq
    | brk => exact False.elim hq
    | cont => exact False.elim hq
end
end Hy
set_option Elab.async false
set_option linter.all false
set_option maxRecDepth 100000
set_option maxHeartbeats 4000000
namespace Hy
open PySem PySem.Spec PyProof.Rows L2
/-! ### zip of two texts -/
/-- n turns, at turn i a new tuple of f i -/
def Itp (n : Nat) (f : Nat → List V) : It := ⟨fun i _ => i < n, fun i H v H' => ∃ T, v = .ref T ∧ H T = none ∧ H' = upd H T (.tup (f i)), fun i _ => i = n⟩
theorem turn_tuples {P : Program} {w : World} {K : PySem.W.Frag} {elts : List Expr} {k n : Nat} {pos : Pos} {it : Addr} {fp wr : List Addr} {f : Nat → List V} {Pt : Nat → Array Value → Prop} {Sn : Nat → Heap → Prop} {Mid : Nat → Addr → Heap → Prop}
    (W : ∀ A : Around, A.handled = none → WalksT P w A it fp wr n Pt Sn Mid) (hm : it ∈ fp) (ho : ∀ i h, Sn i h → ∀ b ∈ fp, ∃ o, h.get? b = some o ∧ ∀ v, o.data ≠ .cell v)
    (hf : ∀ i vals, i < n → Pt i vals → Vals (f i) vals.toList ∧ (f i).length ≤ sizeLine) (hs : ∀ (A : Around) (i : Nat) (s : Shared) (Q E : Value → Shared → Prop), Sn i s.heap → Q (.ref it) s → wpAny (model P w) A (pyIter (.ref it)) Q E s) :
    Turn P w K (.Tuple elts k pos) (Itp n f) fp it Sn where
  mem := hm
  obj := ho
  keep := fun i h h' st q => (W callerA rfl).frame i h h' st q
  item := by
    intro X hP hw hK hc i pins s σ H E I hfp st hg
    subst hP hw hK
    have Wa := W X.A (I.ok.hd hc)
    refine Wa.item i s _ _ hg st fun T vals h' tk hp hT htup hmid hk => ⟨.ref T, rfl, Wa.go elts k pos i T { s with heap := h', toks := tk } _ _ hmid fun h2 st2 hk2 => ?_⟩
    obtain ⟨rv, hz⟩ := hf i vals hg hp
    have hTw : T ∉ wr := Wa.apart i T h' hmid
    have htup2 : h2.IsTuple T vals := by
      obtain ⟨o, e, r⟩ := htup
      exact ⟨o, hk2 T o hTw e, r⟩
    have kall : ∀ b o, b ∉ wr → s.heap.get? b = some o → h2.get? b = some o := fun b o hb e => hk2 b o hb (hk b o hb e)
    have new : ObjOk X.prog X.w (upd H T (.tup (f i))) h2 T (.tup (f i)) := ⟨hz, vals.toList, rv, by simp only [Array.toArray_toList]; exact htup2⟩
    have I2 : Inv X pins σ (upd H T (.tup (f i))) { s with heap := h2, toks := tk } := I.turnedNew kall (fun b hb => hfp b (Wa.sub b hb)) hT new
    refine ⟨.ref T, _, I2, rfl, ⟨T, rfl, I.hok.fresh hT, rfl⟩, st2, fun b hb => ?_⟩
    obtain ⟨o, e, _⟩ := ho i _ st b hb
    rw [upd_ne (Nat.ne_of_lt (Nat.lt_of_lt_of_le (Heap.lt_size e) hT))]
    exact (hfp b hb).1
  done := by
    intro X hP hw hK hc i pins s σ H E I hfp st hg
    subst hP hw hK
    have Wa := W X.A (I.ok.hd hc)
    have hi : i = n := hg
    subst hi
    exact Wa.done s _ _ st fun h' tk hk => ⟨rfl, I.turnedL hk fun b hb => hfp b (Wa.sub b hb)⟩
  self := hs
/-- the two iterators of zip(x, y) of texts, by their kinds -/
theorem draws_text {P : Program} {w : World} {A : Around} (hh : A.handled = none) (it : Addr) (x : Str) (t : Tok) :
    Draws P w A it [it] x.cps.size (fun i v => ∃ c u, x.cps[i]? = some c ∧ v = .str ⟨#[c]⟩ u) (fun i h => h.IsStrIter it (strIterType x) x t i) := by
  unfold strIterType
  by_cases c : (x.cps.all (· < 128)) = true
  · rw [if_pos c]
    exact Draws.strAscii hh it x t
  · rw [if_neg c]
    exact Draws.strWide hh it x t
def pairS (x y : Str) (i : Nat) : List V := [.str ⟨#[x.cps.getD i 0]⟩, .str ⟨#[y.cps.getD i 0]⟩]
def iZipS (ta : TA) : TI := fun σ H R => ta σ H fun vs H1 => ∃ x y : Str, vs = [.str x, .str y] ∧ R (Itp (min x.cps.size y.cps.size) (pairS x y)) H1
theorem pi_zipS {X : Cx} {e e2 : Expr} {ta : TA} {p pos tpos : Pos} {elts : List Expr} {kk : Nat} (hg : Gl X "zip") (hm : X.mg "zip" = none) (ha : PA X [e, e2] ta)
    (hs : starEach [e, e2] X.env = (false, eval e X.env) :: starEach [e2] X.env := by rfl) (hpl : (backTo pos (starEach [e2] X.env)).any (·.1) = false := by rfl) :
    PI X (.Tuple elts kk tpos) (.Call (.Name "zip" p) [e, e2] [] pos) (iZipS ta) := by
  refine ⟨fun pins s σ H R I h => Call_ (ld_blt I hg hm PyProof.Rows.boot_zip (PyProof.Rows.callWith_type1 (thn (ha.run pos pins s σ H _ I h) fun us s1 ⟨vs, H1, I1, r1, x, y, ev, q⟩ => ?_) hs hpl))⟩
  subst ev
  obtain ⟨u1, u2, rfl, ⟨t, rfl⟩, ⟨t2, rfl⟩⟩ := vals2 r1
  refine zip_begins2 (begins_text x t) (begins_text y t2) trivial trivial fun h' hz hTI hTO g1 g2 hsz hk => wpAny_pyIter_zip hz ?_
  let N := s1.heap.objs.size
  have sep : ZipSep2 (N + 4) (N + 2) (N + 3) N (N + 1) [N] [N + 1] := zip_sep2 (fun b hb => by cases hb) (fun b hb => by cases hb)
  refine ⟨N + 4, (N + 4) :: (N + 2) :: (N + 3) :: ([N] ++ [N + 1]), _, Itp (min x.cps.size y.cps.size) (pairS x y), H1, rfl, I1.kept (t' := s1.toks) hk,
    turn_tuples (fun A hh => WalksT.zipD2 sep (draws_text (A := A.in1) (by simpa using hh) N x t) (draws_text (A := A.in1) (by simpa using hh) (N + 1) y t2)) List.mem_cons_self ?_ ?_ ?_, ⟨hz, hTI, ⟨_, _, hTO⟩, ⟨_, g1, rfl, rfl⟩, ⟨_, g2, rfl, rfl⟩⟩, ?_, q⟩
  · rintro i h ⟨z1, z2, ⟨a1, a2, z3⟩, ⟨o1, z4, _, d1⟩, ⟨o2, z5, _, d2⟩⟩ b hb
    simp only [List.mem_cons, List.cons_append, List.nil_append, List.not_mem_nil, or_false] at hb
    rcases hb with rfl | rfl | rfl | rfl | rfl
    · exact ⟨_, z1, fun v e => nomatch e⟩
    · exact ⟨_, z2, fun v e => nomatch e⟩
    · exact ⟨_, z3, fun v e => nomatch e⟩
    · exact ⟨_, z4, fun v e => by rw [d1] at e; cases e⟩
    · exact ⟨_, z5, fun v e => by rw [d2] at e; cases e⟩
  · rintro i vals hi ⟨v1, v2, ⟨c1, u1, h1, rfl⟩, ⟨c2, u2, h2, rfl⟩, rfl⟩
    have e1 : x.cps.getD i 0 = c1 := by simp [Array.getD_eq_getD_getElem?, h1]
    have e2 : y.cps.getD i 0 = c2 := by simp [Array.getD_eq_getD_getElem?, h2]
    refine ⟨?_, by show 2 ≤ sizeLine; decide⟩
    unfold pairS
    rw [e1, e2]
    exact .cons ⟨u1, rfl⟩ (.cons ⟨u2, rfl⟩ .nil)
  · intro A i s Q E st hQ
    exact wpAny_pyIter_zip st.1 hQ
  · intro b hb
    have hle : N ≤ b := by
      simp only [List.mem_cons, List.cons_append, List.nil_append, List.not_mem_nil, or_false] at hb
      rcases hb with rfl | rfl | rfl | rfl | rfl
      · exact Nat.le_add_right _ _
      · exact Nat.le_add_right _ _
      · exact Nat.le_add_right _ _
      · exact Nat.le_refl _
      · exact Nat.le_add_right _ _
    exact I1.fpOk hle (I1.hok.fresh hle)
end Hy
set_option Elab.async false
set_option linter.all false
set_option maxRecDepth 100000
set_option maxHeartbeats 8000000
namespace Hy
open PySem PySem.Spec PyProof.Rows L2
/-! ### set(xs), xs a list of different texts: its size -/
abbrev freshSet (led : Bool) : Obj := { cls := .type "set", dict := none, data := .set #[] 0 (.fresh 0 0 led) }
abbrev listIter (l : Addr) : Obj := { cls := .type "list_iterator", data := .fields #[.ref l, .int 0 0] }
/-- the set at a holds just the texts xs -/
def Holds (P : Program) (w : World) (h : Heap) (a : Addr) (xs : List Str) : Prop := h.SetOf (PySem.strKind P w) a (fun k => xs.any (· == k)) xs.length
theorem Holds.at {P : Program} {w : World} {h h' : Heap} {a : Addr} {xs : List Str} (x : Holds P w h a xs) (k : ∀ o, h.get? a = some o → h'.get? a = some o) : Holds P w h' a xs := by
  obtain ⟨o, es, ep, t, ho, r⟩ := x
  exact ⟨o, es, ep, t, k o ho, r⟩
section
variable {P : Program} {w : World} {A : Around}
theorem set_loop {I S : Addr} {fp wr : List Addr} {G : Array GenState → Array GenState → Prop} {n : Nat} {Pv : Nat → Value → Prop} {Sn : Nat → Shared → Prop} {R : Result → Shared → Prop} (W : WalksS P w A.in1 I fp wr G n Pv Sn) (hS : S ∉ fp)
    (xs : List Str) (hx : xs.length = n) (hd : xs.Nodup) (hb : n + 1 < scanBound) (hv : ∀ i v, Pv i v → ∃ x t, xs[i]? = some x ∧ v = .str x t) :
    ∀ (m i : Nat) (s : Shared), i + m = n → Sn i s → Holds P w s.heap S (xs.take i) → (∀ s', Moved (S :: wr) G s s' → Holds P w s'.heap S xs → R (.ok (.ret .none)) s') →
      codeAny (model P w) A (.builtin "set.update.loop" ⟨[.ref S, .ref I], []⟩) R s := by
  have out : S ∉ wr := fun z => hS (W.sub _ z)
  intro m
  induction m with
  | zero =>
    intro i s hi st hh hR
    obtain rfl : i = n := by omega
    refine codeAny_builtin F.entry_set_update_loop ?_
    rw [Around.under_plainId F.plain_set_update_loop _]
    refine wpAny_bind (m := pyNext (.ref I)) (W.done s _ _ st fun s' mv => wpAny_pure (hR s' (mv.mono fun b z => List.mem_cons_of_mem _ z) ?_))
    rw [List.take_of_length_le (Nat.le_of_eq hx)] at hh
    exact hh.at fun o e => mv.heap S o out e
  | succ m ih =>
    intro i s hi st hh hR
    refine codeAny_builtin F.entry_set_update_loop ?_
    rw [Around.under_plainId F.plain_set_update_loop _]
    refine wpAny_bind (m := pyNext (.ref I)) (W.item i s _ _ (by omega) st fun v s' hp st' mv => ?_)
    obtain ⟨x, t, hxi, rfl⟩ := hv i v hp
    have h1 : Holds P w s'.heap S (xs.take i) := hh.at fun o e => mv.heap S o out e
    show wpAny _ A.in1 (holding [Value.str x t] (setAdd S (.str x t)) >>= _) _ _ s'
    refine wpAny_bind (wpAny_holding ?_)
    unfold setAdd
    refine wpAny_holding (wpAny_bind ((PySem.strKind P w).pyHash (k := x) (strKind_is _ _ _ _) ?_))
    have hlen : (xs.take i).length = i := by rw [List.length_take]; omega
    refine wpAny_setAddHashed_of (knd := PySem.strKind P w) (s := { s' with toks := s'.toks + 1 }) (strKind_is _ _ _ _) rfl h1 (by rw [hlen]; omega) fun h' same h2 => ?_
    have hm : xs.take (i + 1) = xs.take i ++ [x] := by rw [List.take_succ, hxi] <;> rfl
    have hno : ((xs.take i).any (· == x)) = false := by
      rw [List.any_eq_false]
      intro y hy e
      have e1 : y = x := by simpa using e
      subst e1
      have hnd : (xs.take (i + 1)).Nodup := hd.sublist (List.take_sublist _ _)
      rw [hm, List.nodup_append] at hnd
      exact hnd.2.2 _ hy _ (List.mem_singleton.mpr rfl) rfl
    have h3 : Holds P w h' S (xs.take (i + 1)) := by
      refine SetOf_congr h2 (fun k => ?_) ?_
      · rw [hm, List.any_append, List.any_cons, List.any_nil, Bool.or_false]
        congr 1
        by_cases e : k = x
        · subst e; simp
        · rw [decide_eq_false e]
          exact (beq_eq_false_iff_ne.mpr fun z => e z.symm).symm
      · rw [if_neg (by rw [hno]; exact Bool.false_ne_true), hm, List.length_append]
        all_goals rfl
    refine wpAny_pure ⟨plainId_quiet F.plain_set_update_loop _, ih (i + 1) _ (by omega) (W.frame _ s' _ _ st' (Nat.le_succ _) fun b hbf o e => ?_) h3 fun s'' mv2 => hR s'' ?_⟩
    · rw [same.2 b fun z => hS (z ▸ hbf)]
      exact e
    · refine Moved.trans W.gtrans ((mv.mono fun b z => List.mem_cons_of_mem _ z).then_heap (Nat.le_succ _) fun b o hbn e => ?_) mv2
      rw [same.2 b fun z => hbn (z ▸ List.mem_cons_self)]
      exact e
theorem strs_get : ∀ {us : List Value} {xs : List Str}, StrsAre us xs → ∀ (i : Nat) (v : Value), us[i]? = some v → ∃ x t, xs[i]? = some x ∧ v = .str x t
  | _, _, .nil, i, v, h => nomatch h
  | _, _, .cons n t hr, 0, v, h => ⟨n, t, rfl, (Option.some.inj h).symm⟩
  | _, _, .cons n t hr, i + 1, v, h => strs_get hr i v h
/-- set.__init__ of a new set, from a list -/
theorem set_init {E : Value → Shared → Prop} {s : Shared} {l S : Addr} {led : Bool} {items : Array Value} {xs : List Str} {Q : Shared → Prop} (hh : A.handled = none) (hS : s.heap.get? S = some (freshSet led)) (hl : PlainL s.heap l items) (hv : StrsAre items.toList xs) (hd : xs.Nodup) (hb : xs.length + 1 < scanBound)
    (h : ∀ h' tk, Holds P w h' S xs → (∀ b o, b ≠ S → s.heap.get? b = some o → h'.get? b = some o) → Q { s with heap := h', toks := tk }) :
    codeAny (model P w) A (.call (.builtin "set.__init__") ⟨[.ref S, .ref l], []⟩) (wants (fun r s' => r = .none ∧ Q s') E) s := by
  have hT : s.TypeIs (.ref S) "set" := ⟨_, hS, rfl⟩
  have hsz : items.size = xs.length := by rw [← StrsAre.len_eq hv, Array.length_toList]
  refine codeAny_call_builtin F.called_set.init.plain F.entry_set_init (check_set_init_1 hT ?_)
  obtain ⟨⟨oc, od, oda, osl⟩, n, ho, hc, hdn, hdt⟩ := hl
  cases hc; cases hdn; cases hdt
  have f1 := F.sub_list_set
  have f2 := F.sub_list_frozenset
  have f3 : (Value.type "list" == Value.type "dict") = false := by decide
  have hL : s.heap.IsList l items := ⟨_, ho, rfl, n, rfl⟩
  have hlS : l ≠ S := fun e => by
    rw [e, hS] at ho
    exact absurd (congrArg Obj.cls (Option.some.inj ho)) (by simp)
  have ltl : l < s.heap.objs.size := Heap.lt_size ho
  have ltS : S < s.heap.objs.size := Heap.lt_size hS
  unfold Builtin.«set.__init__» noKeywords Builtin.Frozenset.updateFrom
  generalize hPI : pyIter = PI
  wp_walk
  subst hPI
  refine wpAny_pyIter_list hL (wpAny_bind (wpAny_runValue ?_))
  have out : S ∉ [s.heap.objs.size, l] := by
    simp only [List.mem_cons, List.not_mem_nil, or_false, not_or]
    exact ⟨Nat.ne_of_lt ltS, fun e => hlS e.symm⟩
  have keep1 : ∀ b o, s.heap.get? b = some o → (s.heap.push (listIter l)).get? b = some o := fun b o e => Heap.get?_push_of_some _ e
  refine set_loop ((Walks.list (A := A.in1.in1) (by simp [hh]) _ l (Nat.ne_of_lt ltl) items).toS) out xs hsz.symm hd (by omega) (fun i v hi => strs_get hv i v (by rw [Array.getElem?_toList]; exact hi)) items.size 0 _ (by omega) ⟨⟨_, Heap.get?_push_size _ rfl, rfl, rfl⟩, hL.push _⟩ ?_ fun s' mv hH => ?_
  · rw [List.take_zero]
    exact SetOf_congr ((setObjOf_fresh (knd := PySem.strKind P w) led).setOf (keep1 _ _ hS) (by unfold scanBound; omega)) (fun _ => rfl) rfl
  · obtain ⟨h', g', d', tk', os'⟩ := s'
    obtain rfl : g' = s.gens := mv.gens
    obtain rfl : d' = s.drawn := mv.drawn
    obtain rfl : os' = s.os := mv.os
    refine wpAny_pure (wpAny_pure ⟨rfl, h h' tk' hH fun b o hb e => mv.heap b o ?_ (keep1 b o e)⟩)
    simp only [List.mem_cons, List.not_mem_nil, or_false, not_or]
    exact ⟨hb, Nat.ne_of_lt (Heap.lt_size e)⟩
/-- a built-in class is called: its __new__, then its __init__, each told by its own code -/
theorem type_call_by {E : Value → Shared → Prop} {s : Shared} {T newId initId : String} {args : List Value} {Q Q1 : Value → Shared → Prop} (f : TypeCalled T newId initId) (hc : checkTypeCall T ⟨args, []⟩ = pure ())
    (hn : codeAny (model P w) A.in1 (.call (.builtin newId) ⟨.type T :: args, []⟩) (wants Q1 E) s)
    (hi : ∀ o s1, Q1 o s1 → s1.TypeIs o T ∧ codeAny (model P w) A.in1 (.call (.builtin initId) ⟨o :: args, []⟩) (wants (fun r s2 => r = .none ∧ Q o s2) E) s1) : wpAny (model P w) A (call (.type T) args) Q E s := by
  obtain ⟨c, tl, g0⟩ := f.mro
  have g1 := f.made
  have g2 := f.sub
  have g3 := f.notType
  have g4 := f.canCreate
  refine wpAny_call (codeAny_of_tree ?_)
  show wpAny _ _ (callAny (.type T) _) _ _ _
  refine wpAny_pure ⟨Code.quiet_builtin _ (by decide +kernel), codeAny_builtin F.entry_type_call ?_⟩
  rw [Around.under_plain (weight_type_call_type T args []) rfl]
  repeat (any_goals (first | assumption | wp_step))
  refine codeAny_mono hn fun r s1 hr => ?_
  rcases r with e | fl
  · exact hr
  cases fl with
  | ret o =>
    obtain ⟨g5, g6⟩ := hi _ _ hr
    have g7 := f.init.lookup
    have g8 := f.init.bind o
    repeat (any_goals (first | assumption | wp_step))
    refine codeAny_mono g6 fun r2 s2 hr2 => ?_
    rcases r2 with e2 | fl2
    · exact hr2
    cases fl2 with
    | ret r =>
      obtain ⟨rfl, hq⟩ := hr2
      repeat (any_goals (first | assumption | wp_step))
    | _ => exact hr2.elim
  | _ => exact hr.elim
theorem call_set {E : Value → Shared → Prop} {s : Shared} {l : Addr} {items : Array Value} {xs : List Str} {Q : Value → Shared → Prop} (hh : A.handled = none) (hl : PlainL s.heap l items) (hv : StrsAre items.toList xs) (hd : xs.Nodup) (hb : xs.length + 1 < scanBound)
    (h : ∀ h' tk, Holds P w h' s.heap.objs.size xs → (∀ b o, s.heap.get? b = some o → h'.get? b = some o) → Q (.ref s.heap.objs.size) { s with heap := h', toks := tk }) : wpAny (model P w) A (call (.type "set") [.ref l]) Q E s := by
  refine type_call_by F.called_set (F.typeCall_set_1 _) (code_set_new_1 (.ref l) (Q₁ := fun o s1 => o = .ref s.heap.objs.size ∧ ∃ led, s1 = { s with heap := s.heap.push (freshSet led) }) fun led => ⟨rfl, led, rfl⟩) ?_
  rintro o s1 ⟨rfl, led, rfl⟩
  have hS : (s.heap.push (freshSet led)).get? s.heap.objs.size = some (freshSet led) := Heap.get?_push_size _ rfl
  have k : ∀ b o, s.heap.get? b = some o → (s.heap.push (freshSet led)).get? b = some o := fun b o e => Heap.get?_push_of_some _ e
  exact ⟨⟨_, hS, rfl⟩, set_init (Q := fun s2 => Q (.ref s.heap.objs.size) s2) (by simp [hh]) hS (hl.keeps k) hv hd hb fun h' tk hH kp => h h' tk hH fun b o e => kp b o (Nat.ne_of_lt (Heap.lt_size e)) (k b o e)⟩
end
/-- len(set(xs)), xs a list of different texts -/
def tLenSetS (K : PySem.W.Frag) (ta : TE) : TE := fun σ H Q => ta σ H fun x H1 => ∃ (l : Addr) (xs : List Str), x = .ref l ∧ SqL K H1 l (xs.map V.str) ∧ xs.Nodup ∧ xs.length ≤ 4000 ∧ Q (.int ((xs.length : Nat) : Int)) H1
theorem pe_lenSetS {X : Cx} {a : Expr} {ta : TE} {p p2 q pos : Pos} (hg : Gl X "len") (hm : X.mg "len" = none) (hg2 : Gl X "set") (hm2 : X.mg "set" = none) (ha : PE X a ta) (hc : X.calm = true := by rfl)
    (na : starEach [a] X.env = (false, eval a X.env) :: starEach [] X.env := by rfl) : PE X (.Call (.Name "len" p) [.Call (.Name "set" p2) [a] [] q] [] pos) (tLenSetS X.K ta) := by
  refine ⟨fun pins s σ H Q I h => Call_ (ld_blt I hg hm boot_len (callWith_builtin1 (args_cons ?_ rfl) rfl rfl))⟩
  refine Call_ (ld_blt I hg2 hm2 boot_set (callWith_type1 (args_cons (thn (ha.run pins s σ H _ I h) fun v s1 ⟨x, H1, I1, r1, l, xs, ex, hq, hd, hl, q1⟩ => args_nil ?_) na) na rfl))
  cases ex
  cases r1
  obtain ⟨its, r, pl, hz⟩ := I1.list hq
  refine call_set (I1.ok.hd hc) pl (by simpa using Vals.strs r) hd (by unfold scanBound; omega) fun h' tk hH hk => args_nil ?_
  obtain ⟨o, es, ep, t, ho, hex, hdt, _, _, _, hf, hn⟩ := hH
  exact call_len_set ho hex hdt hf (by rw [hn] <;> omega) ⟨.int _, H1, (I1.kept (t' := tk) hk).tok _, ⟨_, by rw [hn]⟩, q1⟩
end Hy
set_option Elab.async false
set_option linter.all false
set_option maxRecDepth 100000
set_option maxHeartbeats 4000000
namespace Hy
open PySem PySem.Spec PyProof.Rows L2 CwR
/-! ### rules where a token is out -/
section
variable {X : Cx} {a b o i value : Expr} {ta tb td ty tv : TE} {pos pos' : Pos}
/-- what stands ahead keeps the token -/
theorem after {α : Type} {t : Sem α} {M : Model} {A : Around} {s : Shared} {Q Q' : α → Shared → Prop} {E : Value → Shared → Prop} (h0 : 1 ≤ s.toks) (h : wpAny M A t Q E s) (f : ∀ v s1, 1 ≤ s1.toks → Q v s1 → Q' v s1) : wpAny M A t Q' E s :=
  wpAny_mono (PySem.wpAny_toks h) (fun v s1 q => f v s1 (Nat.le_trans h0 q.1) q.2) fun _ _ z => z.2
theorem pet_callB {x : Str} {p : Pos} {e : Expr} {es : List Expr} {t : TA} {id : String} {r : List V → Hp → VK → Prop} (hc : CallR X (.builtin id) r) (hg : Gl X x) (hm : X.mg x = none) (hv : bootBuiltins x = some (.builtin id)) (ha : PAT X (e :: es) t)
    (hn : x ≠ "__name__" := by decide) (hdb : (x == ("__debug__" : Str)) = false := by decide) (he : starEach (e :: es) X.env = (false, eval e X.env) :: starEach es X.env := by rfl) (hpl : (backTo pos (starEach es X.env)).any (·.1) = false := by rfl) :
    PET X (.Call (.Name x p) (e :: es) [] pos) (tCB r t) := fun pins s σ H Q h0 I h =>
  wpAny_Call_Name_kw (ld_blt I hg hm hv (callWith_builtin1 (thn (ha pos pins s σ H _ h0 I h) fun us s1 ⟨vs, H1, I1, r1, q1⟩ => hc pins s1 σ H1 vs us Q I1 r1 q1) he hpl) hn hdb)
theorem pet_cmpR {op : CmpOp} {r : R2} (ho : OpR X (compareOp op) r) (ha : PET X a ta) (hb : PE X b tb) (hm : behindInMarks op b = false) : PET X (.Compare a [op] [b] pos) (tOp r ta tb) := fun pins s σ H Q h0 I h =>
  wpAny_Compare1 (thn (ha pins s σ H _ h0 I h) fun v s1 ⟨x, H1, I1, r1, q1⟩ => thn (hb.run pins s1 σ H1 _ I1 q1) fun u s2 ⟨y, H2, I2, r2, q2⟩ => ho pins s2 σ H2 x y v u Q I2 r1 r2 q2) hm
/-- d[k] = v, k wants a token -/
theorem pst_dput (hu : X.A.units + 1 < cLine) (ho : PE X o td) (hi : PET X i ty) (hv : PE X value tv) (hs : swapsWith value (some (.Subscript o i pos')) pos.line X.env = pure false) :
    PST X (.Assign [.Subscript o i pos'] value pos) (sDPut td ty tv) := fun pins s σ H D h0 I h =>
  wpAny_Assign_Subscript (after h0 (hv.run pins s σ H _ I h) fun r s1 h1 ⟨v, H1, I1, rv, q1⟩ => after h1 (ho.run pins s1 σ H1 _ I1 q1) fun u s2 h2 ⟨x, H2, I2, rx, q2⟩ => thn (hi pins s2 σ H2 _ h2 I2 q2) fun iv s3 ⟨y, H3, I3, ry, c, H4, ex, g, q3⟩ => by
    subst ex
    cases rx
    exact d_setItem hu I3 g ry rv fun s4 I4 => ⟨σ, H4, I4, q3⟩) hs
end
/-- a def whose body wants a token -/
theorem okT {P : Program} {w : World} {K : PySem.W.Frag} {mg : Str → Option Value} {base : Heap} {x qual : Str} {st : Stmt} {f : Addr} {fd : FuncData} {N ps : List Str} {k : Nat} {sp : Sp} (F : Fun K x qual st f fd) (S : FnScope N ps (defScope st))
    (hnc : ∀ y ∈ (defScope st).names, y.2 ≠ .cell) (hps : 1 ≤ ps.length) (len : ∀ vs H Q E, sp vs H Q E → vs.length = ps.length)
    (hbody : ∀ (cdv : Value) (A : Around) (outer : List Env) (s : Shared) (H : Hp) (vs : List V) (Q : VK) (E : XK), Room k (A.deeper (envOfC qual (defScope st) s.heap.objs.size f cdv)) → sp vs H Q E →
      ∃ t, PSsT (cxOf CX0 P w K mg base N qual (defScope st) f cdv A outer s H E) (defBody st) t ∧ t { nx := fun _ H' => Q .non H', rt := Q } (start N vs) H) : FnOk P w K mg base CX0 (k + 1) f fd ps sp := by
  obtain ⟨oc, od, kV, doc, pm, an, cdv, ct, osl, rfl, lk, hcd⟩ := F.ex
  exact fn_ofT lk hcd S hnc hps len fun A outer s H vs Q E hr h => hbody cdv A outer s H vs Q E hr h
end Hy
set_option Elab.async false
set_option linter.all false
set_option maxRecDepth 100000
set_option maxHeartbeats 4000000
namespace Hy
open PySem PySem.Spec PyProof.Rows L2 L2H
/-! ### a def that is called within an except suite with the caught exception as its argument; it lets nothing out -/
/-- an exception's object: its class, no dict of its own -/
structure ExOb (D : Addr) (oe : Obj) : Prop where
  cls : oe.cls = .ref D
  dic : oe.dict = none
  dat : ∃ vs, oe.data = .fields vs
/-- called with the exception at p (its class D), over the heap H: it ends as spE says -/
def FnE (P : Program) (w : World) (K : PySem.W.Frag) (mg : Str → Option Value) (base : Heap) (k : Nat) (f : Addr) (fd : FuncData) (x : Str) (D : Addr) (spE : Addr → Hp → VK → Prop) : Prop :=
  ∀ (A : Around) (outer : List Env) (s : Shared) (H : Hp) (Q : VK) (p : Addr × Obj), RoomH k A → ExOb D p.2 → PinOk outer H s p → Env0 P w K mg base A outer s H → BindsTo s fd ⟨[.ref p.1], []⟩ [(x, .ref p.1)] → spE p.1 H Q →
    codeAny (model P w) A (.call (.ref f) ⟨[.ref p.1], []⟩) (CR CX0 outer P w H s Q E0) s
theorem fnE_of {P : Program} {w : World} {K : PySem.W.Frag} {mg : Str → Option Value} {base : Heap} {k : Nat} {f D : Addr} {name qual x : Str} {params : Arguments} {body : List Stmt} {scope : Scope} {dV kV doc pm cdv ct oc : Value} {an od : Option Addr} {osl : Array (Option Value)} {N : List Str} {spE : Addr → Hp → VK → Prop}
    (lk : K.lookup f = some ⟨oc, od, .func (PySem.W.fnOf name qual params body scope dV kV doc pm an cdv ct), osl⟩) (hcd : PySem.W.codeIn K cdv qual = true) (S : FnScope N [x] scope)
    (hbody : ∀ (A : Around) (outer : List Env) (s : Shared) (H : Hp) (Q : VK) (p : Addr × Obj), ExOb D p.2 → RoomH k (A.deeper (envOfC qual scope s.heap.objs.size f cdv)) → spE p.1 H Q →
      ∃ t, PSs (cxH CX0 P w K mg base N qual scope f cdv A outer s H E0 p) body t ∧ t { nx := fun _ H' => Q .non H', rt := Q } (L2.start N [.ref p.1]) H) :
    FnE P w K mg base (k + 1) f (PySem.W.fnOf name qual params body scope dV kV doc pm an cdv ct) x D spE := by
  intro A outer s H Q p hr ho hpin e0 hb hsp
  have KX : K.In s.heap := e0.mod.kin.keeps fun b o e => (e0.bs b o e).1
  have lim : s.heap.NoLimit := e0.mod.nolimit.keeps fun b o e => (e0.bs b o e).1
  refine codeAny_call_function hr.depth (KX _ _ lk) rfl S.co S.gen rfl (PySem.W.codeRec_of KX hcd) (hb _ _ _ _ (wpAny_newFunctionEnv_cells S.kind (fun y hy => ?_) fun env he s1 z => ?_))
  · obtain rfl : y = (x, Value.ref p.1) := List.mem_singleton.mp hy
    exact (S.par x (List.mem_singleton.mpr rfl)).imp id fun c => ⟨c, PySem.W.cellsFrom_some _ _ _ (.inl c)⟩
  · subst he
    refine ⟨lim.keeps z.toInCall.keep, codeAny_func ?_⟩
    obtain ⟨t, ht, hq⟩ := hbody A outer s H Q p ho (hr.deeper _) hsp
    have I : Inv (cxH CX0 P w K mg base N qual scope f cdv A outer s H E0 p) [] (L2.start N [.ref p.1]) H s1 := inv_startH (ps := [x]) (us := [.ref p.1]) S hpin e0 rfl (.cons rfl .nil) z
    refine wpAny_mono (ht.run [] s1 _ H _ I hq) (fun fl s' hs => ?_) fun e s' hs => hs
    cases fl with
    | ret u =>
      obtain ⟨v, σ', H', J, rv, q⟩ := hs
      exact ⟨v, H', J.os, J.bare, J.base, J.hok, rv, q⟩
    | next =>
      obtain ⟨σ', H', J, q⟩ := hs
      exact ⟨.non, H', J.os, J.bare, J.base, J.hok, rfl, q⟩
    | brk =>
      obtain ⟨_, _, _, q⟩ := hs
      exact False.elim q
    | cont =>
      obtain ⟨_, _, _, q⟩ := hs
      exact False.elim q
/-- f(e), e the name of the caught exception (in slot i), in the suite -/
def tCallE (D : Addr) (a : Addr) (cls : Value) (d : Option Addr) (i : Nat) (spE : Addr → Hp → VK → Prop) : TE := fun σ H Q => cls = .ref D ∧ d = none ∧ σ[i]? = some (some (.ref a)) ∧ spE a H Q
theorem pe_callE {X : Cx} {a D f : Addr} {oe : Obj} {cls : Value} {d : Option Addr} {pn : List (Addr × Obj)} {k i : Nat} {fd : FuncData} {y n x : Str} {p q pos : Pos} {spE : Addr → Hp → VK → Prop} (hz : Zc cls d oe) (hf : ∃ vs, oe.data = .fields vs)
    (F : FnE X.prog X.w X.K X.mg X.base k f fd y D spE) (hr : RoomH k X.A) (hg : Gl X x) (hm : X.mg x = some (.ref f)) (hk : PySem.W.keepIn X.K (.ref f) = true) (hb : Binds X.K fd [y] []) (hv : PE (X.suite a ((a, oe) :: pn)) (.Name n q) (tVar i))
    (hdb : (x == ("__debug__" : Str)) = false := by decide) (he : starEach [.Name n q] X.env = (false, eval (.Name n q) X.env) :: starEach [] X.env := by rfl) :
    PE (X.suite a ((a, oe) :: pn)) (.Call (.Name x p) [.Name n q] [] pos) (tCallE D a cls d i spE) := by
  refine ⟨fun pins s σ H Q I ⟨hc, hd, hs, hsp⟩ => ?_⟩
  refine wpAny_Call_Name_kw (ld_glob I hg hm ?_ hdb)
  have hA : PA (X.suite a ((a, oe) :: pn)) [.Name n q] (tCons (tVar i) tNil) := pa_cons hv pa_nil he
  refine PySem.W.callWith_K (h₀ := X.base) I.ok.mod.kin hk (thn (hA.run pos pins s σ H (fun vs H1 => vs = [V.ref a] ∧ H1 = H) I ⟨_, hs, rfl, rfl⟩) fun us s1 ⟨vs, H1, I1, r, ev, eH⟩ => ⟨I1.kIn, ?_⟩) he rfl
  subst ev eH
  obtain ⟨u, rfl, ru⟩ := r.one
  cases ru
  have hp : (a, oe) ∈ (X.suite a ((a, oe) :: pn)).pn := List.mem_cons_self
  have P1 := I1.pin (a, oe) (List.mem_append_left _ hp)
  have hpin : PinOk X.stack H1 s1 (a, oe) := ⟨P1.1, P1.2.1, fun hm => (List.mem_cons.mp (I1.stkSub a hm)).elim P1.2.2.1 P1.2.2.2.1, P1.2.2.2.2⟩
  have b := hb s1 [.ref a] I1.kIn rfl
  rw [List.append_nil] at b
  refine wpAny_call (codeAny_mono (F _ X.stack s1 H1 Q (a, oe) ⟨hr.dp, hr.un⟩ ⟨hz.1.trans hc, hz.2.trans hd, hf⟩ hpin I1.env0 b hsp) fun r s' hq => ?_)
  cases r with
  | error e => exact False.elim hq
  | ok fl =>
    cases fl with
    | ret u => exact I1.after hq
    | next => exact False.elim hq
    | brk => exact False.elim hq
    | cont => exact False.elim hq
end Hy
set_option Elab.async false
set_option linter.all false
set_option maxRecDepth 100000
set_option maxHeartbeats 4000000
namespace Hy
open PySem PySem.Spec PyProof.Rows L2
/-! ### the text by places -/
def top (i : Nat) : Stmt := PySem.Challenge.pw_hyphenpatterns_k08_whole_hyphenator.main.body.getD i (.Pass ⟨0, 0, 0, 0⟩)
abbrev sIsCount : Stmt := top 18
abbrev sIsWord : Stmt := top 19
abbrev sNeedWord : Stmt := top 20
abbrev sChars : Stmt := top 21
abbrev sDigits : Stmt := top 22
abbrev sIsPattern : Stmt := top 23
abbrev sIsRules : Stmt := top 24
abbrev sNeedRules : Stmt := top 25
abbrev sFound : Stmt := top 27
abbrev sLevels : Stmt := top 28
abbrev sBreaksOf : Stmt := top 29
abbrev sIsTold : Stmt := top 31
abbrev sToldBreaks : Stmt := top 32
abbrev sInit : Stmt := inClass (top 34) 0
abbrev sAdd : Stmt := inClass (top 34) 1
abbrev sRemove : Stmt := inClass (top 34) 2
abbrev sGaps : Stmt := inClass (top 34) 3
abbrev sBreaks : Stmt := inClass (top 34) 4
abbrev sExceptions : Stmt := inClass (top 34) 7
abbrev sCopy : Stmt := inClass (top 34) 8
abbrev sLen : Stmt := inClass (top 34) 9
abbrev sDraw : Stmt := top 36
abbrev sPick : Stmt := top 37
abbrev sPattern : Stmt := top 38
abbrev sBare : Stmt := top 39
abbrev sRules : Stmt := top 40
abbrev sLawLevels : Stmt := top 41
abbrev sLawBreaks : Stmt := top 42
abbrev sWhich : Stmt := top 43
abbrev sDo : Stmt := top 44
abbrev sLawGaps : Stmt := top 45
abbrev sLaw : Stmt := top 46
/-! ### the built-in names that the defs ask, the module's constants -/
structure Bl (mg : Str → Option Value) : Prop where
  isi : mg "isinstance" = none
  int : mg "int" = none
  bool : mg "bool" = none
  str : mg "str" = none
  tuple : mg "tuple" = none
  len : mg "len" = none
  all : mg "all" = none
  any : mg "any" = none
  zip : mg "zip" = none
  set : mg "set" = none
  range : mg "range" = none
  enum : mg "enumerate" = none
  max : mg "max" = none
  sorted : mg "sorted" = none
  dict : mg "dict" = none
  letters : ∃ u, mg "LETTERS" = some u ∧ RelV (.str "abcdefghijklmnopqrstuvwxyz") u
  digits : ∃ u, mg "DIGITS" = some u ∧ RelV (.str "123456789") u
  patterns : ∃ u, mg "PATTERNS" = some u ∧ RelV (.int 6) u
  longest : ∃ u, mg "LONGEST" = some u ∧ RelV (.int 4) u
  word : ∃ u, mg "WORD" = some u ∧ RelV (.int 20) u
theorem pe_gc {X : Cx} {x : Str} {v : V} {pos : Pos} (hg : Gl X x) (h : ∃ u, X.mg x = some u ∧ RelV v u) (hd : (x == ("__debug__" : Str)) = false := by decide) : PE X (.Name x pos) (tC v) := by
  obtain ⟨u, hm, r⟩ := h
  exact pe_glob hg hm r hd
theorem pe_ty {X : Cx} {x : Str} {n : String} {pos : Pos} (hg : Gl X x) (hm : X.mg x = none) (hv : bootBuiltins x = some (.type n)) (hn : x ≠ "__name__" := by decide) (hd : (x == ("__debug__" : Str)) = false := by decide) : PE X (.Name x pos) (tC (.ty n)) := pe_bltn (v := .ty n) hg hm hv rfl hn hd
theorem boot_isinstance : bootBuiltins "isinstance" = some (.builtin "isinstance") := by decide +kernel
theorem boot_tInt : bootBuiltins "int" = some (.type "int") := by decide +kernel
theorem boot_tBool : bootBuiltins "bool" = some (.type "bool") := by decide +kernel
theorem boot_tStr : bootBuiltins "str" = some (.type "str") := by decide +kernel
theorem boot_tTuple : bootBuiltins "tuple" = some (.type "tuple") := by decide +kernel
theorem boot_all : bootBuiltins "all" = some (.builtin "all") := by decide +kernel
theorem boot_any : bootBuiltins "any" = some (.builtin "any") := by decide +kernel
theorem boot_max : bootBuiltins "max" = some (.builtin "max") := by decide +kernel
theorem boot_sorted : bootBuiltins "sorted" = some (.builtin "sorted") := by decide +kernel
theorem boot_dict : bootBuiltins "dict" = some (.type "dict") := by decide +kernel
/-- the def x of the text stands in the module -/
def Df (K : PySem.W.Frag) (mg : Str → Option Value) (x : Str) (st : Stmt) (ps : List Str) : Prop := ∃ f fd, Fun K x x st f fd ∧ mg x = some (.ref f) ∧ Binds K fd ps []
/-- the def x keeps the promise sp -/
def Cal (P : Program) (w : World) (K : PySem.W.Frag) (mg : Str → Option Value) (base : Heap) (k : Nat) (x : Str) (ps : List Str) (sp : Sp) : Prop :=
  ∃ f fd, FnOk P w K mg base CX0 k f fd ps sp ∧ mg x = some (.ref f) ∧ PySem.W.keepIn K (.ref f) = true ∧ Binds K fd ps []
theorem Cal.of {P : Program} {w : World} {K : PySem.W.Frag} {mg : Str → Option Value} {base : Heap} {k : Nat} {x : Str} {st : Stmt} {ps : List Str} {sp : Sp} (D : Df K mg x st ps) (h : ∀ f fd, Fun K x x st f fd → FnOk P w K mg base CX0 k f fd ps sp) :
    Cal P w K mg base k x ps sp := by
  obtain ⟨f, fd, F, g, b⟩ := D
  exact ⟨f, fd, h f fd F, g, F.kp, b⟩
theorem pe_cl {X : Cx} {j k : Nat} {x : Str} {ps : List Str} {sp : Sp} {p pos : Pos} {e : Expr} {es : List Expr} {t : TA} (c : Cal X.prog X.w X.K X.mg X.base k x ps sp) (hr : Room j X.A) (hk : k ≤ j) (hg : Gl X x) (ha : PA X (e :: es) t)
    (hdb : (x == ("__debug__" : Str)) = false := by decide) (he : starEach (e :: es) X.env = (false, eval e X.env) :: starEach es X.env := by rfl) (hpl : (backTo pos (starEach es X.env)).any (·.1) = false := by rfl) :
    PE X (.Call (.Name x p) (e :: es) [] pos) (tCall sp [] E0 t) := by
  obtain ⟨f, fd, F, g, kp, b⟩ := c
  exact pe_call F (hr.mono hk) hg g kp b .nil pass0 ha hdb he hpl
section
variable {P : Program} {w : World} {K : PySem.W.Frag} {mg : Str → Option Value} {base : Heap}
/-! ### is_count -/
theorem scIsCount : FnScope ["value", "least", "most"] ["value", "least", "most"] (defScope sIsCount) := ⟨rfl, rfl, rfl, by decide +kernel, rfl, by decide +kernel, by decide +kernel⟩
def spIsCount : Sp := fun vs H Q _ => ∃ n lo hi : Int, vs = [.int n, .int lo, .int hi] ∧ Q (.bl (decide (lo ≤ n) && decide (n ≤ hi))) H
theorem ok_isCount (D : Df K mg "is_count" sIsCount ["value", "least", "most"]) (B : Bl mg) : Cal P w K mg base 1 "is_count" ["value", "least", "most"] spIsCount := by
  refine Cal.of D fun f fd F => F.ok scIsCount (fun vs H Q E h => ?_) (fun cdv A outer s H vs Q E hr h => ?_)
  · obtain ⟨n, lo, hi, rfl, _⟩ := h
    rfl
  · obtain ⟨n, lo, hi, rfl, q⟩ := h
    refine ⟨_, pss_one (ps_ret (pe_and (pe_callB call_isi (by rfl) B.isi boot_isinstance (pa_cons (pv 0) (pa_cons (pe_ty (by rfl) B.int boot_tInt) pa_nil)))
      (pe_and (pe_not (pe_callB call_isi (by rfl) B.isi boot_isinstance (pa_cons (pv 0) (pa_cons (pe_ty (by rfl) B.bool boot_tBool) pa_nil))))
      (pe_one (pe_chain op_le op_le (pv 1) (pv 0) (pv 2)))))), ?_⟩
    refine ⟨_, rfl, _, .ty "int", .type "int", .type "int", true, rfl, .ty _, .base (.int _), kit_ty (by decide +kernel), true, rfl, iteT ?_⟩
    refine ⟨_, rfl, _, .ty "bool", .type "int", .type "bool", false, rfl, .ty _, .base (.int _), kit_ty (by decide +kernel), false, rfl, true, rfl, iteT ?_⟩
    refine ⟨_, rfl, _, rfl, _, _, rfl, rfl, _, rfl, ?_⟩
    by_cases c : lo ≤ n
    · rw [decide_eq_true c] at q ⊢
      exact iteT ⟨_, rfl, _, _, rfl, rfl, q⟩
    · rw [decide_eq_false c] at q ⊢
      exact iteF q
end
end Hy
set_option Elab.async false
set_option linter.all false
set_option maxRecDepth 100000
set_option maxHeartbeats 4000000
namespace Hy
open PySem PySem.Spec PyProof.Rows L2
abbrev letters : List Nat := [97, 98, 99, 100, 101, 102, 103, 104, 105, 106, 107, 108, 109, 110, 111, 112, 113, 114, 115, 116, 117, 118, 119, 120, 121, 122]
theorem letters_eq : (("abcdefghijklmnopqrstuvwxyz" : Str)).cps.toList = letters := by decide +kernel
theorem take_next {α : Type} {l : List α} {i : Nat} {x : α} (h : l[i]? = some x) : l.take (i + 1) = l.take i ++ [x] := by
  rw [List.take_succ, h]
  rfl
/-- what a new object and its changes leave -/
theorem same_new {H H' : Hp} {D : Addr} (hD : H D = none) {o : HO} (s : Same H H') : Same H (upd H' D o) := fun b u e => by
  rw [upd_ne (ne_of_none e hD)]
  exact s b u e
section
variable {P : Program} {w : World} {K : PySem.W.Frag} {mg : Str → Option Value} {base : Heap}
/-! ### is_word -/
def isWord (z : Str) (m : Int) : Bool := decide (1 ≤ (z.length : Int)) && (decide ((z.length : Int) ≤ m) && z.cps.toList.all fun c => decide (c ∈ letters))
abbrev nIsWord : List Str := ["value", "most", "char"]
theorem scIsWord : FnScope nIsWord ["value", "most"] (defScope sIsWord) := ⟨rfl, rfl, rfl, by decide +kernel, rfl, by decide +kernel, by decide +kernel⟩
def spIsWord : Sp := fun vs H Q _ => ∃ (z : Str) (m : Int), vs = [.str z, .int m] ∧ z.length ≤ 1000 ∧ ∀ H', Same H H' → Q (.bl (isWord z m)) H'
theorem ok_isWord (D : Df K mg "is_word" sIsWord ["value", "most"]) (B : Bl mg) : Cal P w K mg base 1 "is_word" ["value", "most"] spIsWord := by
  refine Cal.of D fun f fd F => F.ok scIsWord (fun vs H Q E h => ?_) (fun cdv A outer s H vs Q E hr h => ?_)
  · obtain ⟨n, lo, rfl, _⟩ := h
    rfl
  · obtain ⟨z, m, rfl, hz, q⟩ := h
    refine ⟨_, pss_one (ps_ret (pe_and (pe_callB call_isi (by rfl) B.isi boot_isinstance (pa_cons (pv 0) (pa_cons (pe_ty (by rfl) B.str boot_tStr) pa_nil)))
      (pe_and (pe_chain op_le op_le pe_int (pe_callB call_len_str (by rfl) B.len boot_len (pa_cons (pv 0) pa_nil)) (pv 1))
      (pe_one (pe_callB (cr_all rfl) (by rfl) B.all boot_all (pa_cons (pe_lc (own := [("char", 2)]) (g := gName 2) (by rfl) scIsWord.nd (pi_str (pv 0)) (blkOk_by (own := [("char", 2)]) (N := nIsWord) (sc := defScope sIsWord) (by decide +kernel))
        (fun _ _ _ _ _ => pg_name (i := 2) scIsWord.nd rfl (Or.inl rfl)) (fun _ _ _ _ _ => pts_nil) (fun _ _ _ _ _ => pe_cmpR op_in_sign (pv 2) (pe_gc (by rfl) B.letters) rfl)) pa_nil)))))), ?_⟩
    refine ⟨_, rfl, _, .ty "str", .type "str", .type "str", true, rfl, .ty _, .base (.str _), kit_ty (by decide +kernel), true, rfl, iteT ?_⟩
    refine ⟨_, rfl, z, rfl, Nat.le_of_lt (small1000 hz), _, _, rfl, rfl, _, rfl, ?_⟩
    have q0 := q H (Same.refl H)
    unfold isWord at q q0
    by_cases c1 : (1 : Int) ≤ (z.length : Int)
    · rw [decide_eq_true c1] at q q0 ⊢
      refine iteT ⟨_, rfl, _, _, rfl, rfl, _, rfl, ?_⟩
      by_cases c2 : (z.length : Int) ≤ m
      · rw [decide_eq_true c2] at q ⊢
        refine iteT ⟨_, rfl, z, rfl, fun D hD => lc_it walk_str (fun i H' => Same H H' ∧ H' D = some (.lst (((z.cps.toList.take i).map fun c => decide (c ∈ letters)).map V.bl))) ⟨same_new hD (Same.refl H), upd_same⟩ (fun _ _ _ _ => trivial) ?_ ?_⟩
        · rintro i x H1 H2 hi ⟨s1, d1⟩ ⟨rfl, c, hc, rfl⟩
          refine ⟨rfl, _, rfl, c, _, rfl, rfl, ?_⟩
          have hc' : z.cps.toList[i]? = some c := by simpa using hc
          refine ⟨_, d1, ?_, same_new hD s1, ?_⟩
          · rw [List.length_map, List.length_map, List.length_take]
            exact Nat.lt_of_le_of_lt (Nat.min_le_right _ _) (small1000 (by simpa [Str.length] using hz))
          · rw [upd_same, take_next hc', List.map_append, List.map_append]
            rfl
        · rintro H1 ⟨s1, d1⟩
          have e : z.cps.toList.take z.cps.size = z.cps.toList := List.take_of_length_le (by simp)
          rw [e] at d1
          refine ⟨D, _, rfl, .inl (.inl d1), ?_⟩
          have q1 := q H1 s1
          rw [List.all_map]
          exact q1
      · rw [decide_eq_false c2] at q0 ⊢
        exact iteF q0
    · rw [decide_eq_false c1] at q0 ⊢
      exact iteF ⟨_, rfl, iteF q0⟩
/-! ### need_word -/
theorem scNeedWord : FnScope ["value"] ["value"] (defScope sNeedWord) := ⟨rfl, rfl, rfl, by decide +kernel, rfl, by decide +kernel, by decide +kernel⟩
def spNeedWord : Sp := fun vs H Q _ => ∃ z : Str, vs = [.str z] ∧ z.length ≤ 1000 ∧ isWord z 20 = true ∧ ∀ H', Same H H' → Q .non H'
theorem ok_needWord (D : Df K mg "need_word" sNeedWord ["value"]) (B : Bl mg) (cW : Cal P w K mg base 1 "is_word" ["value", "most"] spIsWord) : Cal P w K mg base 2 "need_word" ["value"] spNeedWord := by
  refine Cal.of D fun f fd F => F.ok scNeedWord (fun vs H Q E h => ?_) (fun cdv A outer s H vs Q E hr h => ?_)
  · obtain ⟨z, rfl, _⟩ := h
    rfl
  · obtain ⟨z, rfl, hz, hw, q⟩ := h
    refine ⟨_, pss_one (ps_if (pt_not (pt_val (pe_cl cW hr (by decide) (by rfl) (pa_cons (pv 0) (pa_cons (pe_gc (by rfl) B.word) pa_nil))))) (pss_one ps_never) pss_nil), ?_⟩
    refine ⟨_, rfl, z, 20, rfl, hz, fun H' s1 => ⟨_, rfl, ?_⟩⟩
    rw [hw]
    exact iteF (q H' s1)
end
end Hy
set_option Elab.async false
set_option linter.all false
set_option maxRecDepth 100000
set_option maxHeartbeats 4000000
namespace Hy
open PySem PySem.Spec PyProof.Rows L2
abbrev tl (z : Str) : List Nat := z.cps.toList
abbrev S (l : List Nat) : Str := ⟨l.toArray⟩
theorem tl_S (l : List Nat) : tl (S l) = l := rfl
theorem S_tl (z : Str) : S (tl z) = z := by
  obtain ⟨⟨l⟩⟩ := z
  rfl
theorem len_tl (z : Str) : z.length = (tl z).length := by
  unfold Str.length
  simp
abbrev digs : List Nat := [49, 50, 51, 52, 53, 54, 55, 56, 57]
theorem digs_eq : (("123456789" : Str)).cps.toList = digs := by decide +kernel
/-- one-sign texts joined by nothing -/
theorem join_signs (l : List Nat) : Txt.join (Str.ofString "") (l.map fun c => S [c]) = S l := by
  refine TL.ext_tl ?_
  rw [TL.join_eq, TL.tl_join]
  show TL.joinL [] ((l.map fun c => S [c]).map TL.tl) = l
  rw [List.map_map]
  show TL.joinL [] (l.map fun c => [c]) = l
  induction l with
  | nil => rfl
  | cons a r ih =>
    cases r with
    | nil => rfl
    | cons b q =>
      show [a] ++ ([] ++ TL.joinL [] ((b :: q).map fun c => [c])) = a :: b :: q
      rw [ih]
      rfl
/-- the signs of z that are not among D -/
def strip (D : List Nat) (z : Str) : Str := S ((tl z).filter fun c => !decide (c ∈ D))
theorem strip_len (D : List Nat) (z : Str) : (strip D z).length ≤ z.length := by
  rw [len_tl, len_tl]
  exact List.length_filter_le _ _
section
variable {P : Program} {w : World} {K : PySem.W.Frag} {mg : Str → Option Value} {base : Heap}
def spStrip (D : List Nat) : Sp := fun vs H Q _ => ∃ z : Str, vs = [.str z] ∧ z.length ≤ 1000 ∧ ∀ H', Same H H' → Q (.str (strip D z)) H'
/-- the reading of ''.join([c for c in z if c not in D]) -/
theorem read_strip {K : PySem.W.Frag} {z dz : Str} {σ : St} {H : Hp} {Q : VK} {vs : List Nat} {i k : Nat} (hz : z.length ≤ 1000) (hv : vs = [i]) (hσ : σ[k]? = some (some (.str z))) (hi : i < σ.length) (hik : i ≠ k) (q : ∀ H', Same H H' → Q (.str (strip (tl dz) z)) H') :
    tM1 (fun x xs H Q => ∃ a p, ∃ ys : List Str, x = .str a ∧ xs = [.ref p] ∧ (SqL K H p (ys.map V.str) ∨ SqT K H p (ys.map V.str)) ∧ (ys.map (·.length)).sum + ys.length * a.length ≤ 16777216 ∧ Q (.str (Txt.join a ys)) H)
      (tC (.str "")) (tLc (iStr (tVar k)) (gName i) (tTest (tOp (fun x y H Q => ∃ (c : Nat) (z : Str), x = .str ⟨#[c]⟩ ∧ y = .str z ∧ Q (.bl (!decide (c ∈ z.cps.toList))) H) (tVar i) (tC (.str dz)))) (tVar i) vs) σ H Q := by
  subst hv
  have hw : (σ.set i none).length = σ.length := List.length_set
  refine ⟨⟨_, rfl⟩, _, hσ, z, rfl, fun D hD => lc_it walk_str (fun n H' => Same H H' ∧ H' D = some (.lst ((((tl z).take n).filter fun c => !decide (c ∈ tl dz)).map fun c => V.str (S [c])))) ⟨same_new hD (Same.refl H), upd_same⟩ (fun _ _ _ _ => trivial) ?_ ?_⟩
  · rintro n x H1 H2 hn ⟨s1, d1⟩ ⟨rfl, c, hc, rfl⟩
    have hc' : (tl z)[n]? = some c := by simpa using hc
    have get : (((wipe σ [i]).set i (some (V.str ⟨#[c]⟩))))[i]? = some (some (V.str ⟨#[c]⟩)) := by
      show ((σ.set i none).set i _)[i]? = _
      rw [List.getElem?_set_self (by rw [hw]; exact hi)]
    refine ⟨?_, _, get, c, dz, rfl, rfl, _, rfl, ite2 (fun hb => ⟨_, get, _, d1, ?_, same_new hD s1, ?_⟩) fun hb => ⟨s1, ?_⟩⟩
    · show ((σ.set i none).set i _).set i none = σ.set i none
      rw [List.set_set]
      simp
    · rw [List.length_map]
      refine Nat.lt_of_le_of_lt (List.length_filter_le _ _) ?_
      rw [List.length_take]
      exact Nat.lt_of_le_of_lt (Nat.min_le_right _ _) (small1000 (by rw [← len_tl]; exact hz))
    · rw [upd_same, take_next hc', List.filter_append, List.map_append]
      rw [List.filter_cons_of_pos (by simpa using hb)]
      rfl
    · rw [d1, take_next hc', List.filter_append, List.filter_cons_of_neg (by simpa using hb)]
      simp
  · rintro H1 ⟨s1, d1⟩
    have e : (tl z).take z.cps.size = tl z := List.take_of_length_le (by simp)
    rw [e] at d1
    refine ⟨_, D, ((tl z).filter fun c => !decide (c ∈ tl dz)).map fun c => S [c], rfl, rfl, .inl (.inl (.inl ?_)), ?_, ?_⟩
    · rw [d1, List.map_map]
      rfl
    · have e0 : (Str.ofString "").length = 0 := by decide +kernel
      rw [e0, Nat.mul_zero, Nat.add_zero, List.map_map]
      have e1 : ∀ l : List Nat, (l.map ((fun x => x.length) ∘ fun c => S [c])).sum = l.length := fun l => by
        induction l with
        | nil => rfl
        | cons a r ih =>
          rw [List.map_cons, List.sum_cons, ih, List.length_cons]
          show 1 + r.length = r.length + 1
          omega
      rw [e1]
      refine Nat.le_trans (List.length_filter_le _ _) ?_
      rw [← len_tl]
      omega
    · have q1 := q H1 s1
      rw [join_signs]
      exact q1
/-! ### chars_of -/
abbrev nChars : List Str := ["pattern", "char"]
theorem scChars : FnScope nChars ["pattern"] (defScope sChars) := ⟨rfl, rfl, rfl, by decide +kernel, rfl, by decide +kernel, by decide +kernel⟩
theorem ok_chars (D : Df K mg "chars_of" sChars ["pattern"]) (B : Bl mg) : Cal P w K mg base 1 "chars_of" ["pattern"] (spStrip digs) := by
  refine Cal.of D fun f fd F => F.ok scChars (fun vs H Q E h => ?_) (fun cdv A outer s H vs Q E hr h => ?_)
  · obtain ⟨z, rfl, _⟩ := h
    rfl
  · obtain ⟨z, rfl, hz, q⟩ := h
    refine ⟨_, pss_one (ps_ret (pe_join pe_str (pe_lc (own := [("char", 1)]) (g := gName 1) (by rfl) scChars.nd (pi_str (pv 0)) (blkOk_by (own := [("char", 1)]) (N := nChars) (sc := defScope sChars) (by decide +kernel))
        (fun _ _ _ _ _ => pg_name (i := 1) scChars.nd rfl (Or.inl rfl)) (fun _ _ _ _ _ => pts_one (pt_cmpR op_notIn_sign (pv 1) (pe_gc (by rfl) B.digits) rfl)) (fun _ _ _ _ _ => pv 1)))), ?_⟩
    rw [← digs_eq] at q
    exact read_strip hz rfl rfl (by show 1 < 2; decide) (by decide) q
/-! ### _law_bare -/
abbrev digs10 : List Nat := [48, 49, 50, 51, 52, 53, 54, 55, 56, 57]
theorem digs10_eq : (("0123456789" : Str)).cps.toList = digs10 := by decide +kernel
abbrev nBare : List Str := ["_law_pattern_here", "_law_char"]
theorem scBare : FnScope nBare ["_law_pattern_here"] (defScope sBare) := ⟨rfl, rfl, rfl, by decide +kernel, rfl, by decide +kernel, by decide +kernel⟩
theorem ok_bare (D : Df K mg "_law_bare" sBare ["_law_pattern_here"]) : Cal P w K mg base 1 "_law_bare" ["_law_pattern_here"] (spStrip digs10) := by
  refine Cal.of D fun f fd F => F.ok scBare (fun vs H Q E h => ?_) (fun cdv A outer s H vs Q E hr h => ?_)
  · obtain ⟨z, rfl, _⟩ := h
    rfl
  · obtain ⟨z, rfl, hz, q⟩ := h
    refine ⟨_, pss_one (ps_ret (pe_join pe_str (pe_lc (own := [("_law_char", 1)]) (g := gName 1) (by rfl) scBare.nd (pi_str (pv 0)) (blkOk_by (own := [("_law_char", 1)]) (N := nBare) (sc := defScope sBare) (by decide +kernel))
        (fun _ _ _ _ _ => pg_name (i := 1) scBare.nd rfl (Or.inl rfl)) (fun _ _ _ _ _ => pts_one (pt_cmpR op_notIn_sign (pv 1) pe_str rfl)) (fun _ _ _ _ _ => pv 1)))), ?_⟩
    rw [← digs10_eq] at q
    exact read_strip hz rfl rfl (by show 1 < 2; decide) (by decide) q
end
end Hy
set_option Elab.async false
set_option linter.all false
set_option maxRecDepth 100000
set_option maxHeartbeats 4000000
namespace Hy
open PySem PySem.Spec PyProof.Rows L2
/-- one sign of a pattern, for its digits -/
def dstep (L : List Int) (c : Nat) : List Int := if c ∈ digs then L.set (L.length - 1) ((c : Int) - 48) else L ++ [0]
def digsOf (z : Str) : List Int := (tl z).foldl dstep [0]
theorem dstep_pos {L : List Int} (h : 0 < L.length) (c : Nat) : 0 < (dstep L c).length ∧ (dstep L c).length ≤ L.length + 1 := by
  unfold dstep
  split
  · rw [List.length_set]; omega
  · rw [List.length_append]; simp
theorem dfold_len : ∀ (l : List Nat) (L : List Int), 0 < L.length → 0 < (l.foldl dstep L).length ∧ (l.foldl dstep L).length ≤ L.length + l.length
  | [], L, h => ⟨h, Nat.le_refl _⟩
  | c :: r, L, h => by
    have h1 := dstep_pos h c
    have h2 := dfold_len r (dstep L c) h1.1
    rw [List.foldl_cons, List.length_cons]
    omega
theorem int_sign : ∀ c ∈ digs, PySem.intText? (S [c]) = some ((c : Int) - 48) := by decide +kernel
section
variable {P : Program} {w : World} {K : PySem.W.Frag} {mg : Str → Option Value} {base : Heap}
abbrev nDigits : List Str := ["pattern", "result", "char"]
theorem scDigits : FnScope nDigits ["pattern"] (defScope sDigits) := ⟨rfl, rfl, rfl, by decide +kernel, rfl, by decide +kernel, by decide +kernel⟩
def spDigits : Sp := fun vs H Q _ => ∃ z : Str, vs = [.str z] ∧ z.length ≤ 900 ∧ ∀ H' D, Same H H' → H' D = some (.lst ((digsOf z).map V.int)) → H D = none → Q (.ref D) H'
theorem ok_digits (D : Df K mg "digits_of" sDigits ["pattern"]) (B : Bl mg) : Cal P w K mg base 1 "digits_of" ["pattern"] spDigits := by
  refine Cal.of D fun f fd F => F.ok scDigits (fun vs H Q E h => ?_) (fun cdv A outer s H vs Q E hr h => ?_)
  · obtain ⟨z, rfl, _⟩ := h
    rfl
  · obtain ⟨z, rfl, hz, q⟩ := h
    refine ⟨_, pss_cons (ps_set (i := 1) scDigits.nd rfl (.inl rfl) (pe_lst (pa_cons pe_int pa_nil)))
      (pss_cons (ps_for PassesOwn.never rfl (pi_str (pv 0)) (pg_name (i := 2) scDigits.nd rfl (.inl rfl))
        (pss_one (ps_if (pt_cmpR op_in_sign (pv 2) (pe_gc (by rfl) B.digits) rfl)
          (pss_one (ps_asg (pe_callTy call_int_str (by rfl) B.int boot_tInt (pa_cons (pv 2) pa_nil)) (pg_sub (pv 1) (pe_un un_neg pe_int) set_list)))
          (pss_one (ps_expr (pe_bm PySem.F.plainAttrs_list PySem.F.slot_list_append PySem.F.type_list_append mt_append (pv 1) (pa_cons pe_int pa_nil)))))))
      (pss_one (ps_ret (pv 1)))), ?_⟩
    refine ⟨by show 1 ≤ sizeLine; decide, fun D hD => ?_⟩
    refine ⟨_, rfl, z, rfl, for_it walk_str (fun i σ H' => ∃ v : Option V, σ = [some (.str z), some (.ref D), v] ∧ Same H H' ∧ H' D = some (.lst ((((tl z).take i).foldl dstep [0]).map V.int))) ⟨none, rfl, same_new hD (Same.refl H), upd_same⟩ (fun _ _ _ _ _ => trivial) ?_ ?_⟩
    · rintro i x σ H1 H2 hi ⟨v, rfl, s1, d1⟩ ⟨rfl, c, hc, rfl⟩
      have hc' : (tl z)[i]? = some c := by simpa using hc
      have hlen := dfold_len ((tl z).take i) [0] (by decide)
      have htk : ((tl z).take i).length ≤ 900 := by
        rw [List.length_take, ← len_tl]
        omega
      have nxt : (tl z).take (i + 1) = (tl z).take i ++ [c] := take_next hc'
      refine ⟨_, rfl, c, _, rfl, rfl, _, rfl, ite2 (fun hb => ?_) fun hb => ?_⟩
      · have hm : c ∈ digs := by
          have := of_decide_eq_true hb
          rw [digs_eq] at this
          exact this
        refine ⟨_, rfl, S [c], _, rfl, int_sign c hm, by show 1 ≤ 640; decide, _, rfl, 1, rfl, D, _, -1, ((((tl z).take i).foldl dstep [0]).length - 1), rfl, rfl, d1, ?_, ?_⟩
        · unfold ixN
          rw [List.length_map, if_neg (by decide), if_pos (by omega)]
          congr 1
          omega
        · refine ⟨_, rfl, same_new hD s1, ?_⟩
          rw [upd_same, nxt, List.foldl_append, List.foldl_cons, List.foldl_nil]
          unfold dstep
          rw [if_pos hm, ← List.map_set]
      · have hm : ¬ c ∈ digs := by
          intro hh
          refine hb (decide_eq_true ?_)
          rw [digs_eq]
          exact hh
        refine ⟨_, rfl, .inl ⟨rfl, _, .inl (.inl d1)⟩, D, _, _, rfl, rfl, d1, ?_, ?_⟩
        · rw [List.length_map]
          exact small1000 (by rw [List.length_singleton] at hlen; omega)
        · refine ⟨_, rfl, same_new hD s1, ?_⟩
          rw [upd_same, nxt, List.foldl_append, List.foldl_cons, List.foldl_nil]
          conv => rhs; unfold dstep
          rw [if_neg hm, List.map_append]
          rfl
    · rintro σ H1 ⟨v, rfl, s1, d1⟩
      have e : (tl z).take z.cps.size = tl z := List.take_of_length_le (by simp)
      rw [e] at d1
      exact ⟨_, rfl, q H1 D s1 d1 hD⟩
end
end Hy
set_option Elab.async false
set_option linter.all false
set_option maxRecDepth 100000
set_option maxHeartbeats 4000000
namespace Hy
open PySem PySem.Spec PyProof.Rows L2
/-! ### is_pattern -/
def in1 (z : Str) : Str := if (tl z).head? = some 46 then cutS z (some 1) none else z
def in2 (y : Str) : Str := if Txt.endswith y (Str.ofString ".") = true then cutS y none (some (-1)) else y
def inside (z : Str) : Str := in2 (in1 z)
theorem in1_len (z : Str) : (in1 z).length ≤ z.length := by
  unfold in1
  split
  · exact cutS_length _ _ _
  · exact Nat.le_refl _
theorem in2_len (z : Str) : (in2 z).length ≤ z.length := by
  unfold in2
  split
  · exact cutS_length _ _ _
  · exact Nat.le_refl _
structure GoodP (z : Str) : Prop where
  len : z.length ≤ 100
  ne : tl z ≠ []
  al : (tl (inside z)).all (fun c => decide (c ∈ letters ++ digs)) = true
  ad : ∀ (i : Nat) (a b : Nat), (tl (inside z))[i]? = some a → (tl (inside z))[i + 1]? = some b → (decide (a ∈ digs) && decide (b ∈ digs)) = false
  l1 : 1 ≤ (strip digs (inside z)).length
  l4 : (strip digs (inside z)).length ≤ 4
  lt : (strip digs (inside z)).length < (inside z).length
theorem alpha_eq : tl ((Str.ofString "abcdefghijklmnopqrstuvwxyz") ++ (Str.ofString "123456789")) = letters ++ digs := by decide +kernel
theorem getD_tl (y : Str) (i : Nat) : y.cps.getD i 0 = (tl y).getD i 0 := by simp [List.getD_eq_getElem?_getD, Array.getD_eq_getD_getElem?]
theorem walk_itp {n : Nat} {f : Nat → List V} : Walk (Itp n f) n (fun _ => True) (fun i H v H' => ∃ T, v = .ref T ∧ H T = none ∧ H' = upd H T (.tup (f i))) :=
  ⟨fun _ _ hi _ => hi, fun _ _ => rfl, fun _ _ _ _ _ _ y => y⟩
theorem cut_tail (z : Str) : tl (cutS z (some 1) none) = (tl z).drop 1 := by
  unfold cutS
  show ((tl z).drop (HT.sIx z.length 0 (some ((1 : Nat) : Int)))).take (HT.sIx z.length z.length none - HT.sIx z.length 0 (some ((1 : Nat) : Int))) = _
  rw [HT.sIx_nat, HT.sIx_none, len_tl]
  cases tl z with
  | nil => rfl
  | cons a r =>
    have e : min 1 (a :: r).length = 1 := by rw [List.length_cons]; omega
    rw [e]
    show r.take ((a :: r).length - 1) = r
    rw [List.length_cons, Nat.add_sub_cancel, List.take_length]
section
variable {P : Program} {w : World} {K : PySem.W.Frag} {mg : Str → Option Value} {base : Heap}
abbrev nIsPattern : List Str := ["value", "inside", "letters", "char", "one", "other"]
theorem scIsPattern : FnScope nIsPattern ["value"] (defScope sIsPattern) := ⟨rfl, rfl, rfl, by decide +kernel, rfl, by decide +kernel, by decide +kernel⟩
def spIsPattern : Sp := fun vs H Q _ => ∃ z : Str, vs = [.str z] ∧ GoodP z ∧ ∀ H', Same H H' → Q (.bl true) H'
theorem ok_isPattern (D : Df K mg "is_pattern" sIsPattern ["value"]) (B : Bl mg) (cC : Cal P w K mg base 1 "chars_of" ["pattern"] (spStrip digs)) : Cal P w K mg base 2 "is_pattern" ["value"] spIsPattern := by
  refine Cal.of D fun f fd F => F.ok scIsPattern (fun vs H Q E h => ?_) (fun cdv A outer s H vs Q E hr h => ?_)
  · obtain ⟨z, rfl, _⟩ := h
    rfl
  · obtain ⟨z, rfl, g, q⟩ := h
    have nd := scIsPattern.nd
    refine ⟨_, pss_cons (ps_if (PW.pt (pw_or (pt_not (pt_val (pe_callB call_isi (by rfl) B.isi boot_isinstance (pa_cons (pv 0) (pa_cons (pe_ty (by rfl) B.str boot_tStr) pa_nil))))) (pw_or1 (pt_cmpR op_eq (pv 0) pe_str (nomark _))))) (pss_one (ps_ret pe_bl)) pss_nil)
      (pss_cons (ps_set (i := 1) nd rfl (.inl rfl) (pe_ifExp (pt_cmpR op_eq (pe_ix ix_str (pv 0) pe_int (fun _ _ => rfl)) pe_str (nomark _)) (pe_slice sl_str (pv 0) (po_some pe_int) po_none) (pv 0)))
      (pss_cons (ps_set (i := 1) nd rfl (.inl rfl) (pe_ifExp (pt_val (pe_m1 PySem.F.slot_str_endswith PySem.F.type_str_endswith mt_endswith (pv 1) pe_str)) (pe_slice sl_str (pv 1) po_none (po_some (pe_un un_neg pe_int))) (pv 1)))
      (pss_cons (ps_if (pt_not (pt_val (pe_callB (cr_all rfl) (by rfl) B.all boot_all (pa_cons (pe_lc (own := [("char", 3)]) (g := gName 3) (by rfl) nd (pi_str (pv 1)) (blkOk_by (own := [("char", 3)]) (N := nIsPattern) (sc := defScope sIsPattern) (by decide +kernel))
          (fun _ _ _ _ _ => pg_name (i := 3) nd rfl (Or.inl rfl)) (fun _ _ _ _ _ => pts_nil) (fun _ _ _ _ _ => pe_cmpR op_in_sign (pv 3) (pe_op op_add_str (pe_gc (by rfl) B.letters) (pe_gc (by rfl) B.digits)) rfl)) pa_nil)))) (pss_one (ps_ret pe_bl)) pss_nil)
      (pss_cons (ps_if (pt_val (pe_callB (cr_any rfl) (by rfl) B.any boot_any (pa_cons (pe_lc (own := [("one", 4), ("other", 5)]) (g := gTup K 2 (gCons (gName 4) (gCons (gName 5) gNil))) (by rfl) nd (pi_zipS (by rfl) B.zip (pa_cons (pv 1) (pa_cons (pe_slice sl_str (pv 1) (po_some pe_int) po_none) pa_nil)))
          (blkOk_by (own := [("one", 4), ("other", 5)]) (N := nIsPattern) (sc := defScope sIsPattern) (by decide +kernel))
          (fun _ _ _ _ _ => by exact pg_tup rfl (pgs_cons (pg_name (i := 4) nd rfl (Or.inl rfl)) (pgs_cons (pg_name (i := 5) nd rfl (Or.inl rfl)) pgs_nil))) (fun _ _ _ _ _ => pts_nil)
          (fun _ _ _ _ _ => pe_and (pe_cmpR op_in_sign (pv 4) (pe_gc (by rfl) B.digits) rfl) (pe_one (pe_cmpR op_in_sign (pv 5) (pe_gc (by rfl) B.digits) rfl)))) pa_nil))) (pss_one (ps_ret pe_bl)) pss_nil)
      (pss_cons (ps_set (i := 2) nd rfl (.inl rfl) (pe_callB call_len_str (by rfl) B.len boot_len (pa_cons (pe_cl cC hr (by decide) (by rfl) (pa_cons (pv 1) pa_nil)) pa_nil)))
      (pss_one (ps_ret (pe_and (pe_chain op_le op_le pe_int (pv 2) (pe_gc (by rfl) B.longest)) (pe_one (pe_cmpR op_lt (pv 2) (pe_callB call_len_str (by rfl) B.len boot_len (pa_cons (pv 1) pa_nil)) (nomark _))))))))))), ?_⟩
    have hz : z.length ≤ sizeLine := Nat.le_of_lt (small1000 (Nat.le_trans g.len (by decide)))
    -- not isinstance(value, str) or value == ''
    refine ⟨_, rfl, _, .ty "str", .type "str", .type "str", true, rfl, .ty _, .base (.str _), kit_ty (by decide +kernel), true, rfl, iteF ⟨_, rfl, rfl, _, rfl, ?_⟩⟩
    have c0 : ¬ V.str z = V.str (Str.ofString "") := fun e => g.ne (by rw [V.str.inj e]; rfl)
    rw [decide_eq_false c0]
    refine iteF ?_
    -- inside = value[1:] if value[0] == '.' else value
    obtain ⟨c, r, hc⟩ : ∃ c r, tl z = c :: r := by
      cases e : tl z with
      | nil => exact absurd e g.ne
      | cons c r => exact ⟨c, r, rfl⟩
    have step1 : ∀ (R : VK), R (.str (in1 z)) H → tIf (tTest (tOp rEq (tOp rIxS (tVar 0) (tC (.int 0))) (tC (.str "."))))
        (tSl rSlS (tVar 0) (tPart (tC (.int 1))) tNoPart) (tVar 0) [some (.str z), none, none, none, none, none] H R := fun R hR => by
      refine ⟨_, rfl, z, 0, c, rfl, rfl, hz, atI_nat (j := 0) (by show (tl z)[0]? = _; rw [hc]; rfl), rfl, _, rfl, ?_⟩
      by_cases e : c = 46
      · subst e
        have e1 : V.str (S [46]) = V.str (Str.ofString ".") := by decide +kernel
        rw [decide_eq_true e1]
        refine iteT ⟨_, rfl, 1, rfl, z, rfl, hz, ?_⟩
        have e2 : in1 z = cutS z (some 1) none := by
          unfold in1
          rw [hc]
          rfl
        rw [e2] at hR
        exact hR
      · have e1 : ¬ V.str (S [c]) = V.str (Str.ofString ".") := fun q => e (by
          have := congrArg tl (V.str.inj q)
          have e3 : tl (Str.ofString ".") = [46] := by decide +kernel
          rw [e3] at this
          exact (List.cons.inj this).1)
        rw [decide_eq_false e1]
        refine iteF ⟨_, rfl, ?_⟩
        have e2 : in1 z = z := by
          unfold in1
          rw [hc, if_neg (by simpa using e)]
        rw [e2] at hR
        exact hR
    refine step1 _ ?_
    -- inside = inside[:-1] if inside.endswith('.') else inside
    have hy1 : (in1 z).length ≤ 100 := Nat.le_trans (in1_len z) g.len
    have step2 : ∀ (R : VK), R (.str (inside z)) H → tIf (tB (tM1 (fun x xs H Q => ∃ a b, x = .str a ∧ xs = [.str b] ∧ Q (.bl (Txt.endswith a b)) H) (tVar 1) (tC (.str "."))))
        (tSl rSlS (tVar 1) tNoPart (tPart (tUn (rU fun i => .int (-i)) (tC (.int 1))))) (tVar 1) [some (.str z), some (.str (in1 z)), none, none, none, none] H R := fun R hR => by
      refine ⟨_, rfl, ⟨_, rfl⟩, _, _, rfl, rfl, _, rfl, ?_⟩
      unfold inside in2 at hR
      by_cases e : Txt.endswith (in1 z) (Str.ofString ".") = true
      · rw [if_pos e] at hR
        rw [e]
        exact iteT ⟨_, rfl, 1, rfl, _, rfl, _, rfl, Nat.le_of_lt (small1000 (by omega)), hR⟩
      · rw [if_neg e] at hR
        rw [Bool.not_eq_true] at e
        rw [e]
        exact iteF ⟨_, rfl, hR⟩
    refine step2 _ ?_
    have hy : (inside z).length ≤ 100 := Nat.le_trans (in2_len _) hy1
    have hys : (inside z).cps.size ≤ 100 := hy
    generalize hin : inside z = y at g hy hys ⊢
    have al := g.al
    have ad := g.ad
    have l1 := g.l1
    have l4 := g.l4
    have lt := g.lt
    rw [hin] at al ad l1 l4 lt
    -- not all(..)
    refine ⟨_, rfl, y, rfl, fun D hD => lc_it walk_str (fun i H' => Same H H' ∧ H' D = some (.lst (((((tl y).take i).map fun _ => true)).map V.bl))) ⟨same_new hD (Same.refl H), upd_same⟩ (fun _ _ _ _ => trivial) ?_ ?_⟩
    · rintro i x H1 H2 hi ⟨s1, d1⟩ ⟨rfl, c, hc, rfl⟩
      have hc' : (tl y)[i]? = some c := by simpa using hc
      have hmem := List.all_eq_true.mp al c (List.mem_of_getElem? hc')
      have e : decide (c ∈ (Str.ofString "abcdefghijklmnopqrstuvwxyz" ++ Str.ofString "123456789").cps.toList) = true := by
        have e0 := alpha_eq
        unfold tl at e0
        rw [e0]
        exact hmem
      refine ⟨rfl, _, rfl, _, _, rfl, rfl, by decide +kernel, c, _, rfl, rfl, _, d1, ?_, same_new hD s1, ?_⟩
      · rw [List.length_map, List.length_map, List.length_take, ← len_tl]
        exact small1000 (by omega)
      · rw [upd_same, e, take_next hc', List.map_append, List.map_append]
        rfl
    rintro H1 ⟨s1, d1⟩
    refine ⟨D, _, rfl, .inl (.inl d1), _, rfl, ?_⟩
    have eall : (((tl y).take y.cps.size).map fun _ => true).all id = true := by
      rw [List.all_map]
      exact List.all_eq_true.mpr fun _ _ => rfl
    rw [eall]
    refine iteF ?_
    -- any(..)
    refine ⟨_, rfl, _, rfl, 1, rfl, y, rfl, Nat.le_of_lt (small1000 (by omega)), y, cutS y (some 1) none, rfl, fun D2 hD2 => lc_it walk_itp (fun i H' => Same H H' ∧ H' D2 = some (.lst ((List.replicate i false).map V.bl))) ⟨same_new (Same.free s1 hD2) s1, upd_same⟩ (fun _ _ _ _ => trivial) ?_ ?_⟩
    · rintro i x H2 H3 hi ⟨s2, d2⟩ ⟨T, rfl, hT, rfl⟩
      have hD2T : D2 ≠ T := ne_of_none d2 hT
      have s3 : Same H (upd H2 T (.tup (pairS y (cutS y (some 1) none) i))) := fun b o e => by
        rw [upd_ne (ne_of_none (s2 b o e) hT)]
        exact s2 b o e
      have hi1 : i < (tl y).length := by rw [← len_tl]; exact Nat.lt_of_lt_of_le hi (Nat.min_le_left _ _)
      have hi2 : i + 1 < (tl y).length := by
        have h2 : i < (cutS y (some 1) none).cps.size := Nat.lt_of_lt_of_le hi (Nat.min_le_right _ _)
        have h3 : i < (tl (cutS y (some 1) none)).length := by rw [← len_tl]; exact h2
        rw [cut_tail, List.length_drop] at h3
        omega
      have ea : y.cps.getD i 0 = (tl y)[i] := by
        rw [getD_tl, List.getD_eq_getElem?_getD, List.getElem?_eq_getElem hi1]
        rfl
      have eb : (cutS y (some 1) none).cps.getD i 0 = (tl y)[i + 1] := by
        rw [getD_tl, cut_tail, List.getD_eq_getElem?_getD, List.getElem?_drop, Nat.add_comm 1 i, List.getElem?_eq_getElem hi2]
        rfl
      have hno := ad i _ _ (List.getElem?_eq_getElem hi1) (List.getElem?_eq_getElem hi2)
      refine ⟨T, _, rfl, .inl (.inl upd_same), rfl, _, _, rfl, _, _, rfl, rfl, rfl, ?_⟩
      have fin : ∃ acc, (upd H2 T (.tup (pairS y (cutS y (some 1) none) i))) D2 = some (.lst acc) ∧ acc.length < sizeLine ∧ (Same H (upd (upd H2 T (.tup (pairS y (cutS y (some 1) none) i))) D2 (.lst (acc ++ [V.bl false]))) ∧
          (upd (upd H2 T (.tup (pairS y (cutS y (some 1) none) i))) D2 (.lst (acc ++ [V.bl false]))) D2 = some (.lst ((List.replicate (i + 1) false).map V.bl))) := by
        refine ⟨_, (upd_ne hD2T).trans d2, ?_, same_new (Same.free s1 hD2) s3, ?_⟩
        · rw [List.length_map, List.length_replicate]
          exact small1000 (by rw [← len_tl] at hi1; omega)
        · rw [upd_same, List.replicate_succ', List.map_append]
          rfl
      refine ⟨_, rfl, _, _, rfl, rfl, _, rfl, ?_⟩
      rw [ea]
      by_cases h1 : (tl y)[i] ∈ digs
      · rw [decide_eq_true (show (tl y)[i] ∈ (Str.ofString "123456789").cps.toList by rw [digs_eq]; exact h1)]
        refine iteT ⟨_, rfl, _, _, rfl, rfl, ?_⟩
        rw [eb]
        rw [decide_eq_true h1, Bool.true_and] at hno
        rw [decide_eq_false (show ¬ (tl y)[i + 1] ∈ (Str.ofString "123456789").cps.toList by rw [digs_eq]; exact of_decide_eq_false hno)]
        exact fin
      · rw [decide_eq_false (show ¬ (tl y)[i] ∈ (Str.ofString "123456789").cps.toList by rw [digs_eq]; exact h1)]
        exact iteF fin
    rintro H2 ⟨s2, d2⟩
    refine ⟨D2, _, rfl, .inl (.inl d2), _, rfl, ?_⟩
    have eany : (List.replicate (min y.cps.size (cutS y (some 1) none).cps.size) false).any id = false := by
      rw [List.any_eq_false]
      intro x hx
      rw [(List.mem_replicate.mp hx).2]
      simp
    rw [eany]
    refine iteF ?_
    -- letters = len(chars_of(inside))
    refine ⟨_, rfl, y, rfl, by omega, fun H3 s3 => ⟨_, rfl, Nat.le_of_lt (small1000 (by omega)), ?_⟩⟩
    refine ⟨_, rfl, _, _, rfl, rfl, _, rfl, ?_⟩
    rw [decide_eq_true (show (1 : Int) ≤ ((strip digs y).length : Int) by omega)]
    refine iteT ⟨_, _, rfl, rfl, _, rfl, ?_⟩
    rw [decide_eq_true (show ((strip digs y).length : Int) ≤ 4 by omega)]
    refine iteT ⟨_, rfl, _, rfl, y, rfl, Nat.le_of_lt (small1000 (by omega)), _, _, rfl, rfl, ?_⟩
    show Q (.bl (decide (((strip digs y).length : Int) < (y.length : Int)))) H3
    rw [decide_eq_true (show ((strip digs y).length : Int) < (y.length : Int) by omega)]
    exact q H3 (s2.trans s3)
end
end Hy
set_option Elab.async false
set_option linter.all false
set_option maxRecDepth 100000
set_option maxHeartbeats 4000000
namespace Hy
open PySem PySem.Spec PyProof.Rows L2
/-! ### is_rules, need_rules -/
structure RulesAt (H : Hp) (ru pt : Addr) (ps : List Str) (l r : Int) : Prop where
  a : H ru = some (.tup [.ref pt, .int l, .int r])
  b : H pt = some (.tup (ps.map V.str))
theorem RulesAt.same {H H' : Hp} {ru pt : Addr} {ps : List Str} {l r : Int} (x : RulesAt H ru pt ps l r) (s : Same H H') : RulesAt H' ru pt ps l r := ⟨s _ _ x.a, s _ _ x.b⟩
structure GoodR (ps : List Str) (l r : Int) : Prop where
  good : ∀ p ∈ ps, GoodP p
  few : ps.length ≤ 6
  nd : (ps.map (strip digs)).Nodup
  l1 : 1 ≤ l
  l4 : l ≤ 4
  r1 : 1 ≤ r
  r4 : r ≤ 4
section
variable {P : Program} {w : World} {K : PySem.W.Frag} {mg : Str → Option Value} {base : Heap}
abbrev nIsRules : List Str := ["value", "patterns", "number", "one", "pattern"]
theorem scIsRules : FnScope nIsRules ["value"] (defScope sIsRules) := ⟨rfl, rfl, rfl, by decide +kernel, rfl, by decide +kernel, by decide +kernel⟩
def spIsRules : Sp := fun vs H Q _ => ∃ (ru pt : Addr) (ps : List Str) (l r : Int), vs = [.ref ru] ∧ RulesAt H ru pt ps l r ∧ GoodR ps l r ∧ ∀ H', Same H H' → Q (.bl true) H'
theorem ok_isRules (D : Df K mg "is_rules" sIsRules ["value"]) (B : Bl mg) (cN : Cal P w K mg base 1 "is_count" ["value", "least", "most"] spIsCount) (cP : Cal P w K mg base 2 "is_pattern" ["value"] spIsPattern)
    (cC : Cal P w K mg base 1 "chars_of" ["pattern"] (spStrip digs)) : Cal P w K mg base 3 "is_rules" ["value"] spIsRules := by
  refine Cal.of D fun f fd F => F.ok scIsRules (fun vs H Q E h => ?_) (fun cdv A outer s H vs Q E hr h => ?_)
  · obtain ⟨ru, pt, ps, l, r, rfl, _⟩ := h
    rfl
  · obtain ⟨ru, pt, ps, l, r, rfl, R, g, q⟩ := h
    have nd := scIsRules.nd
    refine ⟨_, pss_cons (ps_if (PW.pt (pw_or (pt_not (pt_val (pe_callB call_isi (by rfl) B.isi boot_isinstance (pa_cons (pv 0) (pa_cons (pe_ty (by rfl) B.tuple boot_tTuple) pa_nil)))))
        (pw_or (pt_cmpR op_ne (pe_callB call_len_seq (by rfl) B.len boot_len (pa_cons (pv 0) pa_nil)) pe_int (nomark _))
        (pw_or1 (pt_not (pt_val (pe_callB (cr_all rfl) (by rfl) B.all boot_all (pa_cons (pe_lc (own := [("number", 2)]) (g := gName 2) (by rfl) nd (pi_tup (pe_slice sl_tup (pv 0) (po_some pe_int) po_none)) (blkOk_by (own := [("number", 2)]) (N := nIsRules) (sc := defScope sIsRules) (by decide +kernel))
          (fun _ _ _ _ _ => pg_name (i := 2) nd rfl (Or.inl rfl)) (fun _ _ _ _ _ => pts_nil) (fun _ _ _ _ _ => pe_cl cN hr (by decide) (by rfl) (pa_cons (pv 2) (pa_cons pe_int (pa_cons pe_int pa_nil))))) pa_nil)))))))) (pss_one (ps_ret pe_bl)) pss_nil)
      (pss_cons (ps_set (i := 1) nd rfl (.inl rfl) (pe_ix ix_tup (pv 0) pe_int (fun _ _ => rfl)))
      (pss_cons (ps_if (PW.pt (pw_or (pt_not (pt_val (pe_callB call_isi (by rfl) B.isi boot_isinstance (pa_cons (pv 1) (pa_cons (pe_ty (by rfl) B.tuple boot_tTuple) pa_nil)))))
        (pw_or (pt_cmpR op_gt (pe_callB call_len_seq (by rfl) B.len boot_len (pa_cons (pv 1) pa_nil)) (pe_gc (by rfl) B.patterns) (nomark _))
        (pw_or1 (pt_not (pt_val (pe_callB (cr_all rfl) (by rfl) B.all boot_all (pa_cons (pe_lc (own := [("one", 3)]) (g := gName 3) (by rfl) nd (pi_tup (pv 1)) (blkOk_by (own := [("one", 3)]) (N := nIsRules) (sc := defScope sIsRules) (by decide +kernel))
          (fun _ _ _ _ _ => pg_name (i := 3) nd rfl (Or.inl rfl)) (fun _ _ _ _ _ => pts_nil) (fun _ _ _ _ _ => pe_cl cP hr (by decide) (by rfl) (pa_cons (pv 3) pa_nil))) pa_nil)))))))) (pss_one (ps_ret pe_bl)) pss_nil)
      (pss_one (ps_ret (pe_cmpR op_eq (pe_lenSetS (by rfl) B.len (by rfl) B.set (pe_lc (own := [("pattern", 4)]) (g := gName 4) (by rfl) nd (pi_tup (pv 1)) (blkOk_by (own := [("pattern", 4)]) (N := nIsRules) (sc := defScope sIsRules) (by decide +kernel))
          (fun _ _ _ _ _ => pg_name (i := 4) nd rfl (Or.inl rfl)) (fun _ _ _ _ _ => pts_nil) (fun _ _ _ _ _ => pe_cl cC hr (by decide) (by rfl) (pa_cons (pv 4) pa_nil)))) (pe_callB call_len_seq (by rfl) B.len boot_len (pa_cons (pv 1) pa_nil)) (nomark _)))))), ?_⟩
    have hRa := R.a
    -- not isinstance(value, tuple)
    refine ⟨_, rfl, _, .ty "tuple", .type "tuple", .type "tuple", true, rfl, .ty _, .base (.tup hRa), kit_ty (by decide +kernel), true, rfl, iteF ?_⟩
    -- len(value) != 3
    refine ⟨_, rfl, ru, _, rfl, .inr (SqT.of hRa), rfl, _, rfl, iteNS rfl ?_⟩
    -- not all(..)
    refine ⟨_, rfl, 1, rfl, ru, _, rfl, SqT.of hRa, (show ¬(HT.sIx 3 0 (some 1) = 0 ∧ HT.sIx 3 3 none = 3) by decide), fun p hp => ?_⟩
    have hcut : cutV [V.ref pt, V.int l, V.int r] (some 1) none = [V.int l, V.int r] := rfl
    rw [hcut]
    refine ⟨p, rfl, ⟨_, SqT.of upd_same⟩, fun D hD => ?_⟩
    have s0 : Same H (upd H p (.tup [V.int l, V.int r])) := same_new hp (Same.refl H)
    have hpD : p ≠ D := ne_of_none upd_same hD
    refine lc_tup (xs := [V.int l, V.int r]) (fun i H' => Same (upd H p (.tup [V.int l, V.int r])) H' ∧ H' D = some (.lst ((List.replicate i true).map V.bl))) ⟨same_new hD (Same.refl _), upd_same⟩ (fun i H' _ hP => SqT.of (hP.1 _ _ upd_same)) ?_ ?_
    · rintro i x H1 hi ⟨s1, d1⟩
      obtain ⟨n, hn, h1, h4⟩ : ∃ n : Int, x = .int n ∧ 1 ≤ n ∧ n ≤ 4 := by
        have hm := List.mem_of_getElem? hi
        simp only [List.mem_cons, List.not_mem_nil, or_false] at hm
        rcases hm with rfl | rfl
        · exact ⟨l, rfl, g.l1, g.l4⟩
        · exact ⟨r, rfl, g.r1, g.r4⟩
      subst hn
      refine ⟨rfl, _, rfl, n, 1, 4, rfl, ?_⟩
      have eb : (decide ((1 : Int) ≤ n) && decide (n ≤ 4)) = true := by rw [decide_eq_true h1, decide_eq_true h4]; rfl
      rw [eb]
      refine ⟨_, d1, ?_, same_new hD s1, ?_⟩
      · rw [List.length_map, List.length_replicate]
        have := (List.getElem?_eq_some_iff.mp hi).1
        exact small1000 (Nat.le_trans (Nat.le_of_lt this) (show 2 ≤ 1000 by decide))
      · rw [upd_same, List.replicate_succ', List.map_append]
        rfl
    rintro H1 ⟨s1, d1⟩
    refine ⟨D, _, rfl, .inl (.inl d1), _, rfl, ?_⟩
    refine iteF ?_
    have s1' : Same H H1 := s0.trans s1
    have R1 := R.same s1'
    have hRa1 := R1.a
    have hRb1 := R1.b
    -- patterns = value[0]
    refine ⟨_, rfl, ru, _, 0, _, rfl, rfl, SqT.of hRa1, atI_nat (j := 0) rfl, ?_⟩
    -- not isinstance(patterns, tuple)
    refine ⟨_, rfl, _, .ty "tuple", .type "tuple", .type "tuple", true, rfl, .ty _, .base (.tup hRb1), kit_ty (by decide +kernel), true, rfl, iteF ?_⟩
    refine ⟨_, rfl, pt, _, rfl, .inr (SqT.of hRb1), _, _, rfl, rfl, _, rfl, ?_⟩
    have few := g.few
    rw [List.length_map, decide_eq_false (show ¬ (6 : Int) < (ps.length : Int) by omega)]
    refine iteF ?_
    refine ⟨_, rfl, pt, rfl, ⟨_, SqT.of hRb1⟩, fun D2 hD2 => ?_⟩
    refine lc_tup (xs := ps.map V.str) (fun i H' => Same H1 H' ∧ H' D2 = some (.lst ((List.replicate i true).map V.bl))) ⟨same_new hD2 (Same.refl _), upd_same⟩ (fun i H' _ hP => SqT.of (hP.1 _ _ hRb1)) ?_ ?_
    · rintro i x H2 hi ⟨s2, d2⟩
      rw [List.getElem?_map] at hi
      obtain ⟨pp, hpp, rfl⟩ := Option.map_eq_some_iff.mp hi
      refine ⟨rfl, _, rfl, pp, rfl, g.good pp (List.mem_of_getElem? hpp), fun H3 s3 => ?_⟩
      refine ⟨_, s3 _ _ d2, ?_, same_new hD2 (s2.trans s3), ?_⟩
      · rw [List.length_map, List.length_replicate]
        have := (List.getElem?_eq_some_iff.mp hpp).1
        exact small1000 (by omega)
      · rw [upd_same, List.replicate_succ', List.map_append]
        rfl
    rintro H2 ⟨s2, d2⟩
    refine ⟨D2, _, rfl, .inl (.inl d2), _, rfl, ?_⟩
    have eall : (List.replicate (ps.map V.str).length true).all id = true := List.all_eq_true.mpr fun x hx => by rw [(List.mem_replicate.mp hx).2]; rfl
    rw [eall]
    refine iteF ?_
    have hRb2 := s2 _ _ hRb1
    -- the set
    refine ⟨_, rfl, pt, rfl, ⟨_, SqT.of hRb2⟩, fun D3 hD3 => ?_⟩
    refine lc_tup (xs := ps.map V.str) (fun i H' => Same H2 H' ∧ H' D3 = some (.lst (((ps.take i).map (strip digs)).map V.str))) ⟨same_new hD3 (Same.refl _), upd_same⟩ (fun i H' _ hP => SqT.of (hP.1 _ _ hRb2)) ?_ ?_
    · rintro i x H3 hi ⟨s3, d3⟩
      rw [List.getElem?_map] at hi
      obtain ⟨pp, hpp, rfl⟩ := Option.map_eq_some_iff.mp hi
      refine ⟨rfl, _, rfl, pp, rfl, Nat.le_trans (g.good pp (List.mem_of_getElem? hpp)).len (by decide), fun H4 s4 => ?_⟩
      refine ⟨_, s4 _ _ d3, ?_, same_new hD3 (s3.trans s4), ?_⟩
      · rw [List.length_map, List.length_map, List.length_take]
        exact small1000 (by omega)
      · rw [upd_same, take_next hpp, List.map_append, List.map_append]
        rfl
    rintro H3 ⟨s3, d3⟩
    rw [List.length_map, List.take_length] at d3
    have hRb3 := s3 _ _ hRb2
    refine ⟨D3, _, rfl, .inl (.inl d3), g.nd, by rw [List.length_map]; omega, _, rfl, pt, _, rfl, .inr (SqT.of hRb3), rfl, ?_⟩
    have e1 : V.int (((ps.map (strip digs)).length : Nat) : Int) = V.int (((ps.map V.str).length : Nat) : Int) := by rw [List.length_map, List.length_map]
    rw [decide_eq_true e1]
    exact q H3 ((s1'.trans s2).trans s3)
abbrev nNeedRules : List Str := ["value"]
theorem scNeedRules : FnScope nNeedRules ["value"] (defScope sNeedRules) := ⟨rfl, rfl, rfl, by decide +kernel, rfl, by decide +kernel, by decide +kernel⟩
def spNeedRules : Sp := fun vs H Q _ => ∃ (ru pt : Addr) (ps : List Str) (l r : Int), vs = [.ref ru] ∧ RulesAt H ru pt ps l r ∧ GoodR ps l r ∧ ∀ H', Same H H' → Q .non H'
theorem ok_needRules (D : Df K mg "need_rules" sNeedRules ["value"]) (cR : Cal P w K mg base 3 "is_rules" ["value"] spIsRules) : Cal P w K mg base 4 "need_rules" ["value"] spNeedRules := by
  refine Cal.of D fun f fd F => F.ok scNeedRules (fun vs H Q E h => ?_) (fun cdv A outer s H vs Q E hr h => ?_)
  · obtain ⟨ru, pt, ps, l, r, rfl, _⟩ := h
    rfl
  · obtain ⟨ru, pt, ps, l, r, rfl, R, g, q⟩ := h
    refine ⟨_, pss_one (ps_if (pt_not (pt_val (pe_cl cR hr (by decide) (by rfl) (pa_cons (pv 0) pa_nil)))) (pss_one ps_never) pss_nil), ?_⟩
    exact ⟨_, rfl, ru, pt, ps, l, r, rfl, R, g, fun H' s1 => ⟨_, rfl, iteF (q H' s1)⟩⟩
end
end Hy
set_option Elab.async false
set_option linter.all false
set_option maxRecDepth 100000
set_option maxHeartbeats 4000000
namespace Hy
open PySem PySem.Spec PyProof.Rows L2
/-! ### found_at, levels_of, breaks_of -/
abbrev pairO (p : Int × Int) : Option HO := some (.tup [.int p.1, .int p.2])
theorem map_same {H H' : Hp} (s : Same H H') : ∀ {rs : List Addr} {ps : List (Int × Int)}, rs.map H = ps.map pairO → rs.map H' = ps.map pairO
  | [], [], _ => rfl
  | [], _ :: _, h => by cases h
  | _ :: _, [], h => by cases h
  | r :: rs, p :: ps, h => by
    rw [List.map_cons, List.map_cons] at h ⊢
    obtain ⟨h1, h2⟩ := List.cons.inj h
    rw [map_same s h2, s _ _ h1]
theorem map_mem_at {H : Hp} : ∀ {rs : List Addr} {ps : List (Int × Int)}, rs.map H = ps.map pairO → ∀ {r : Addr}, r ∈ rs → ∃ p, H r = pairO p
  | [], _, _, _, h => nomatch h
  | _ :: _, [], h, _, _ => by cases h
  | r0 :: rs, p :: ps, h, r, hr => by
    rw [List.map_cons, List.map_cons] at h
    obtain ⟨h1, h2⟩ := List.cons.inj h
    rcases List.mem_cons.mp hr with e | m
    · subst e; exact ⟨p, h1⟩
    · exact map_mem_at h2 m
theorem small3000 {n : Nat} (h : n ≤ 3000) : n < sizeLine := Nat.lt_of_le_of_lt h (by decide)
def pairsAt (D : List Int) (start : Nat) : Nat → List (Int × Int)
  | 0 => []
  | n + 1 => pairsAt D start n ++ (if 0 < D.getD n 0 then [((start : Int) + (n : Int) - 1, D.getD n 0)] else [])
def foundTo (T C : List Nat) (D : List Int) : Nat → List (Int × Int)
  | 0 => []
  | n + 1 => foundTo T C D n ++ (if (T.drop n).take C.length = C then pairsAt D n D.length else [])
/-- the word between dots -/
def dotted (w : Str) : Str := Str.ofString "." ++ w ++ Str.ofString "."
def foundL (pat word : Str) : List (Int × Int) := foundTo (tl (dotted word)) (tl (strip digs pat)) (digsOf pat) ((dotted word).length + 1 - (strip digs pat).length)
theorem pairsAt_len (D : List Int) (s : Nat) : ∀ n, (pairsAt D s n).length ≤ n
  | 0 => Nat.le_refl _
  | n + 1 => by
    have := pairsAt_len D s n
    unfold pairsAt
    rw [List.length_append]
    split <;> simp <;> omega
theorem foundTo_len (T C : List Nat) (D : List Int) : ∀ n, (foundTo T C D n).length ≤ n * D.length
  | 0 => Nat.zero_le _
  | n + 1 => by
    have h1 := foundTo_len T C D n
    have h2 := pairsAt_len D n D.length
    unfold foundTo
    rw [List.length_append, Nat.succ_mul]
    split
    · omega
    · rw [List.length_nil]; omega
theorem cut_mid (z : Str) (a b : Nat) : tl (cutS z (some (a : Int)) (some ((a : Int) + (b : Int)))) = ((tl z).drop a).take b := by
  unfold cutS
  show ((tl z).drop (HT.sIx z.length 0 (some (a : Int)))).take (HT.sIx z.length z.length (some (((a : Int) + (b : Int)))) - HT.sIx z.length 0 (some (a : Int))) = _
  rw [← Int.natCast_add, HT.sIx_nat, HT.sIx_nat, len_tl]
  by_cases h : a ≤ (tl z).length
  · rw [Nat.min_eq_left h]
    by_cases h2 : a + b ≤ (tl z).length
    · rw [Nat.min_eq_left h2, Nat.add_sub_cancel_left]
    · rw [Nat.min_eq_right (by omega), List.take_of_length_le (by rw [List.length_drop]; omega), List.take_of_length_le (by rw [List.length_drop]; omega)]
  · rw [List.drop_of_length_le (l := tl z) (i := a) (by omega), List.drop_of_length_le (by omega)]
    simp
theorem str_tl {a b : Str} : a = b ↔ tl a = tl b := ⟨fun e => e ▸ rfl, fun e => by rw [← S_tl a, ← S_tl b, e]⟩
theorem digsOf_len (z : Str) : 0 < (digsOf z).length ∧ (digsOf z).length ≤ 1 + z.length := by
  have := dfold_len (tl z) [0] (by decide)
  rw [List.length_singleton, ← len_tl] at this
  exact this
theorem dotted_len (w : Str) : (dotted w).length = w.length + 2 := by
  unfold dotted
  have : ∀ a b : Str, (a ++ b).length = a.length + b.length := fun a b => by
    show (a.cps ++ b.cps).size = _
    rw [Array.size_append]; rfl
  rw [this, this]
  have e : (Str.ofString ".").length = 1 := by decide +kernel
  rw [e]; omega
section
variable {P : Program} {w : World} {K : PySem.W.Frag} {mg : Str → Option Value} {base : Heap}
abbrev nFound : List Str := ["pattern", "word", "chars", "digits", "text", "found", "start", "at", "digit"]
theorem scFound : FnScope nFound ["pattern", "word"] (defScope sFound) := ⟨rfl, rfl, rfl, by decide +kernel, rfl, by decide +kernel, by decide +kernel⟩
def spFound : Sp := fun vs H Q _ => ∃ pat word : Str, vs = [.str pat, .str word] ∧ pat.length ≤ 100 ∧ word.length ≤ 20 ∧
  ∀ H' F (rs : List Addr), Same H H' → H F = none → H' F = some (.lst (rs.map V.ref)) → rs.map H' = (foundL pat word).map pairO → Q (.ref F) H'
theorem ok_found (D : Df K mg "found_at" sFound ["pattern", "word"]) (B : Bl mg) (cC : Cal P w K mg base 1 "chars_of" ["pattern"] (spStrip digs)) (cD : Cal P w K mg base 1 "digits_of" ["pattern"] spDigits) : Cal P w K mg base 2 "found_at" ["pattern", "word"] spFound := by
  refine Cal.of D fun f fd F => F.ok scFound (fun vs H Q E h => ?_) (fun cdv A outer s H vs Q E hr h => ?_)
  · obtain ⟨z, w, rfl, _⟩ := h
    rfl
  · obtain ⟨z, wd, rfl, hz, hw, q⟩ := h
    have nd := scFound.nd
    refine ⟨_, pss_cons (ps_asg (pe_tup (pa_cons (pe_cl cC hr (by decide) (by rfl) (pa_cons (pv 0) pa_nil)) (pa_cons (pe_cl cD hr (by decide) (by rfl) (pa_cons (pv 0) pa_nil))
          (pa_cons (pe_op op_add_str (pe_op op_add_str pe_str (pv 1)) pe_str) (pa_cons (pe_lst pa_nil) pa_nil)))))
        (pg_tup rfl (pgs_cons (pg_name (i := 2) nd rfl (.inl rfl)) (pgs_cons (pg_name (i := 3) nd rfl (.inl rfl)) (pgs_cons (pg_name (i := 4) nd rfl (.inl rfl)) (pgs_cons (pg_name (i := 5) nd rfl (.inl rfl)) pgs_nil))))))
      (pss_cons (ps_for PassesOwn.never rfl (pi_range1 (by rfl) B.range (pa_cons (pe_op op_add (pe_op op_sub (pe_callB call_len_str (by rfl) B.len boot_len (pa_cons (pv 4) pa_nil)) (pe_callB call_len_str (by rfl) B.len boot_len (pa_cons (pv 2) pa_nil))) pe_int) pa_nil)) (pg_name (i := 6) nd rfl (.inr rfl))
        (pss_one (ps_if (pt_cmpR op_eq (pe_slice sl_str (pv 4) (po_some (pv 6)) (po_some (pe_op op_add (pv 6) (pe_callB call_len_str (by rfl) B.len boot_len (pa_cons (pv 2) pa_nil))))) (pv 2) (nomark _))
          (pss_one (ps_expr (pe_bm PySem.F.plainAttrs_list PySem.F.slot_list_extend PySem.F.type_list_extend mt_extend (pv 5)
            (pa_cons (pe_lc (own := [("at", 7), ("digit", 8)]) (g := gTup K 2 (gCons (gName 7) (gCons (gName 8) gNil))) (by rfl) nd (pi_enum (by rfl) B.enum (pa_cons (pv 3) pa_nil))
              (blkOk_by (own := [("at", 7), ("digit", 8)]) (N := nFound) (sc := defScope sFound) (by decide +kernel))
              (fun _ _ _ _ _ => by exact pg_tup rfl (pgs_cons (pg_name (i := 7) nd rfl (Or.inl rfl)) (pgs_cons (pg_name (i := 8) nd rfl (Or.inl rfl)) pgs_nil)))
              (fun _ _ _ _ _ => pts_one (pt_cmpR op_gt (pv 8) pe_int (nomark _)))
              (fun _ _ _ _ _ => pe_tup (pa_cons (pe_op op_sub (pe_op op_add (pv 6) (pv 7)) pe_int) (pa_cons (pv 8) pa_nil)))) pa_nil))))
          pss_nil)))
      (pss_one (ps_ret (pv 5)))), ?_⟩
    have hdl := digsOf_len z
    have hcl : (strip digs z).length ≤ 100 := Nat.le_trans (strip_len _ _) hz
    have hT := dotted_len wd
    refine ⟨_, rfl, z, rfl, by omega, fun H1 s1 => ?_⟩
    refine ⟨_, rfl, z, rfl, by omega, fun H2 D2 s2 d2 n2 => ?_⟩
    have e1 : (Str.ofString ".").length = 1 := by decide +kernel
    refine ⟨_, rfl, _, _, rfl, rfl, by rw [e1]; exact Nat.le_of_lt (small1000 (by omega)), _, _, rfl, rfl, ?_, ?_⟩
    · have e2 : (Str.ofString "." ++ wd).length = 1 + wd.length := by
        show ((Str.ofString ".").cps ++ wd.cps).size = _
        rw [Array.size_append]
        show (Str.ofString ".").length + wd.length = _
        rw [e1]
      rw [e1]
      show (Str.ofString "." ++ wd).length + 1 ≤ _
      rw [e2]
      exact Nat.le_of_lt (small1000 (by omega))
    refine ⟨Nat.zero_le _, fun F hF => ⟨by show 4 ≤ sizeLine; decide, fun T0 hT0 => ⟨T0, _, rfl, SqT.of upd_same, rfl, _, _, rfl, _, _, rfl, _, _, rfl, _, _, rfl, rfl, ?_⟩⟩⟩
    have hFD : F ≠ D2 := fun e => by rw [e, d2] at hF; cases hF
    have hF1 : upd H2 F (.lst []) F = some (.lst []) := upd_same
    have hT0F : F ≠ T0 := ne_of_none hF1 hT0
    have hD1 : upd H2 F (.lst []) D2 = some (.lst ((digsOf z).map V.int)) := (upd_ne (Ne.symm hFD)).trans d2
    have s3 : Same H (upd (upd H2 F (.lst [])) T0 (.tup [V.str (strip digs z), V.ref D2, V.str (dotted wd), V.ref F])) := same_new (Same.free (same_new (Same.free (s1.trans s2) hF) (s1.trans s2)) hT0) (same_new (Same.free (s1.trans s2) hF) (s1.trans s2))
    have hT' : (dotted wd).length ≤ sizeLine := Nat.le_of_lt (small1000 (by omega))
    have hC' : (strip digs z).length ≤ sizeLine := Nat.le_of_lt (small1000 (by omega))
    have hFn : H F = none := Same.free (s1.trans s2) hF
    refine ⟨_, rfl, dotted wd, rfl, hT', _, rfl, _, rfl, hC', _, _, rfl, rfl, _, _, rfl, rfl, _, rfl, by omega, by omega, ?_⟩
    have eN : (((dotted wd).length : Int) - ((strip digs z).length : Int) + 1).toNat = (dotted wd).length + 1 - (strip digs z).length := by omega
    rw [eN]
    refine for_range (fun i σ H' => ∃ (rs : List Addr) (v : Option V), σ = [some (.str z), some (.str wd), some (.str (strip digs z)), some (.ref D2), some (.str (dotted wd)), some (.ref F), v, none, none] ∧ Same H H' ∧
      H' D2 = some (.lst ((digsOf z).map V.int)) ∧ H' F = some (.lst (rs.map V.ref)) ∧ rs.map H' = (foundTo (tl (dotted wd)) (tl (strip digs z)) (digsOf z) i).map pairO) ⟨[], none, rfl, s3, (upd_ne (ne_of_none hD1 hT0)).trans hD1, (upd_ne hT0F).trans hF1, rfl⟩ ?_ ?_
    · rintro i σ H3 hi ⟨rs, v, rfl, s3, d3, f3, r3⟩
      have e0 : (0 : Int) + (i : Int) = i := Int.zero_add _
      rw [e0]
      refine ⟨_, rfl, _, rfl, _, rfl, _, rfl, _, rfl, strip digs z, rfl, hC', _, _, rfl, rfl, _, rfl, dotted wd, rfl, hT', _, rfl, rfl, _, rfl, ?_⟩
      have hl := foundTo_len (tl (dotted wd)) (tl (strip digs z)) (digsOf z) i
      have hl1 : i * (digsOf z).length ≤ 23 * 101 := Nat.mul_le_mul (by omega) (by omega)
      have hrs : rs.length ≤ 23 * 101 := by
        have := congrArg List.length r3
        rw [List.length_map, List.length_map] at this
        omega
      have nxt : foundTo (tl (dotted wd)) (tl (strip digs z)) (digsOf z) (i + 1) = foundTo (tl (dotted wd)) (tl (strip digs z)) (digsOf z) i ++ (if ((tl (dotted wd)).drop i).take (tl (strip digs z)).length = tl (strip digs z) then pairsAt (digsOf z) i (digsOf z).length else []) := rfl
      by_cases hm : ((tl (dotted wd)).drop i).take (tl (strip digs z)).length = tl (strip digs z)
      · have e1 : V.str (cutS (dotted wd) (some (i : Int)) (some ((i : Int) + ((strip digs z).length : Int)))) = V.str (strip digs z) := congrArg V.str (str_tl.mpr (by rw [cut_mid, len_tl]; exact hm))
        rw [decide_eq_true e1]
        refine iteT ?_
        rw [if_pos hm] at nxt
        refine ⟨_, rfl, .inl ⟨rfl, _, SqL.of f3⟩, _, rfl, D2, _, rfl, SqL.of d3, fun D hD => ?_⟩
        refine lc_it walk_enum (fun j H' => ∃ rs' : List Addr, Same H3 H' ∧ H' D = some (.lst (rs'.map V.ref)) ∧ rs'.map H' = (pairsAt (digsOf z) i j).map pairO) ⟨[], same_new hD (Same.refl _), upd_same, rfl⟩ (fun j H' _ hP => by obtain ⟨_, s4, _⟩ := hP; exact SqL.of (s4 _ _ d3)) ?_ ?_
        · rintro j x H4 H5 hj ⟨rs', s4, d4, r4⟩ ⟨T, x, y, rfl, hT, rfl, hx, hy⟩
          have hxj : x = .int (j : Nat) := (Option.some.inj hx).symm
          subst hxj
          have hjl : j < (digsOf z).length := by rw [List.length_map] at hj; exact hj
          have hyj : y = .int ((digsOf z).getD j 0) := by
            have hy : ((digsOf z).map V.int)[j]? = some y := hy
            rw [List.getElem?_map, List.getElem?_eq_getElem hjl] at hy
            rw [List.getD_eq_getElem?_getD, List.getElem?_eq_getElem hjl]
            exact (Option.some.inj hy).symm
          subst hyj
          have hTD : D ≠ T := ne_of_none d4 hT
          have s5 : Same H4 (upd H4 T (.tup [V.int (j : Nat), V.int ((digsOf z).getD j 0)])) := same_new hT (Same.refl _)
          have hlen' : rs'.length ≤ 101 := by
            have h1 := congrArg List.length r4
            have h2 := pairsAt_len (digsOf z) i j
            rw [List.length_map, List.length_map] at h1
            omega
          have nx2 : pairsAt (digsOf z) i (j + 1) = pairsAt (digsOf z) i j ++ (if 0 < (digsOf z).getD j 0 then [((i : Int) + (j : Int) - 1, (digsOf z).getD j 0)] else []) := rfl
          refine ⟨T, _, rfl, SqT.of upd_same, rfl, _, _, rfl, _, _, rfl, rfl, rfl, _, rfl, _, _, rfl, rfl, _, rfl, ite2 (fun hb => ?_) fun hb => ?_⟩
          · have hb' := of_decide_eq_true hb
            rw [if_pos hb'] at nx2
            refine ⟨_, rfl, _, rfl, _, _, rfl, rfl, _, _, rfl, rfl, _, rfl, by show 2 ≤ sizeLine; decide, fun p hp => ?_⟩
            have s6 := s5.trans (same_new (o := .tup [V.int ((i : Int) + (j : Int) - 1), V.int ((digsOf z).getD j 0)]) hp (Same.refl _))
            have hpD : D ≠ p := ne_of_none (s5 _ _ d4) hp
            refine ⟨_, s6 _ _ d4, by rw [List.length_map]; exact small1000 (by omega), rs' ++ [p], same_new hD (s4.trans s6), by rw [upd_same, List.map_append]; rfl, ?_⟩
            rw [nx2, List.map_append, List.map_append]
            have hne : ∀ r ∈ rs', r ≠ D := fun r hr e => by
              subst e
              have := map_mem_at r4 hr
              obtain ⟨q, hq⟩ := this
              rw [d4] at hq
              cases hq
            rw [show rs'.map (upd (upd (upd H4 T (.tup [V.int (j : Nat), V.int ((digsOf z).getD j 0)])) p (.tup [V.int ((i : Int) + (j : Int) - 1), V.int ((digsOf z).getD j 0)])) D (.lst (rs'.map V.ref ++ [V.ref p]))) = (pairsAt (digsOf z) i j).map pairO from by
              rw [← map_same s6 r4]
              exact List.map_congr_left fun r hr => upd_ne (hne r hr)]
            congr 1
            show [upd _ D _ p] = _
            rw [upd_ne (Ne.symm hpD), upd_same]
            rfl
          · have hb' : ¬ 0 < (digsOf z).getD j 0 := fun h => hb (decide_eq_true h)
            rw [if_neg hb', List.append_nil] at nx2
            refine ⟨rs', s4.trans s5, s5 _ _ d4, ?_⟩
            rw [nx2]
            exact map_same s5 r4
        · rintro H4 ⟨rs', s4, d4, r4⟩
          rw [List.length_map] at r4
          have hlen' : rs'.length ≤ 101 := by
            have h1 := congrArg List.length r4
            have h2 := pairsAt_len (digsOf z) i (digsOf z).length
            rw [List.length_map, List.length_map] at h1
            omega
          have hne : ∀ r ∈ rs ++ rs', r ≠ F := fun r hr e => by
            have h5 : (rs ++ rs').map H4 = (foundTo (tl (dotted wd)) (tl (strip digs z)) (digsOf z) i ++ pairsAt (digsOf z) i (digsOf z).length).map pairO := by rw [List.map_append, List.map_append, map_same s4 r3, r4]
            subst e
            obtain ⟨q, hq⟩ := map_mem_at h5 hr
            rw [s4 _ _ f3] at hq
            cases hq
          refine ⟨F, D, _, _, rfl, rfl, s4 _ _ f3, d4, by rw [List.length_map, List.length_map]; exact Nat.le_of_lt (small3000 (by omega)), rs ++ rs', _, rfl, same_new hFn (s3.trans s4), (upd_ne (Ne.symm hFD)).trans (s4 _ _ d3), by rw [upd_same, List.map_append], ?_⟩
          rw [nxt]
          rw [show (rs ++ rs').map (upd H4 F (.lst (rs.map V.ref ++ rs'.map V.ref))) = (rs ++ rs').map H4 from List.map_congr_left fun r hr => upd_ne (hne r hr), List.map_append, List.map_append, map_same s4 r3, r4]
      · have e1 : ¬ V.str (cutS (dotted wd) (some (i : Int)) (some ((i : Int) + ((strip digs z).length : Int)))) = V.str (strip digs z) := fun e => hm (by
          have := str_tl.mp (V.str.inj e)
          rw [cut_mid, len_tl] at this
          exact this)
        rw [decide_eq_false e1]
        rw [if_neg hm, List.append_nil] at nxt
        exact iteF ⟨rs, _, rfl, s3, d3, f3, by rw [nxt]; exact r3⟩
    · rintro σ H3 ⟨rs, v, rfl, s3, d3, f3, r3⟩
      exact ⟨_, rfl, q H3 F rs s3 hFn f3 r3⟩
end
end Hy
set_option Elab.async false
set_option linter.all false
set_option maxRecDepth 100000
set_option maxHeartbeats 4000000
namespace Hy
open PySem PySem.Spec PyProof.Rows L2
/-! ### levels_of, breaks_of -/
def upL (L : List Int) (p : Int × Int) : List Int := L.set p.1.toNat (if p.2 > L.getD p.1.toNat 0 then p.2 else L.getD p.1.toNat 0)
theorem upL_len (L : List Int) (p : Int × Int) : (upL L p).length = L.length := List.length_set
theorem upf_len : ∀ (l : List (Int × Int)) (L : List Int), (l.foldl upL L).length = L.length
  | [], _ => rfl
  | p :: l, L => by rw [List.foldl_cons, upf_len l, upL_len]
def levelsL (ps : List Str) (word : Str) : List Int := ps.foldl (fun L p => (foundL p word).foldl upL L) (List.replicate (word.length + 1) 0)
theorem lev_len (word : Str) : ∀ (ps : List Str) (L : List Int), (ps.foldl (fun L p => (foundL p word).foldl upL L) L).length = L.length
  | [], _ => rfl
  | p :: ps, L => by rw [List.foldl_cons, lev_len word ps, upf_len]
/-- every gap that is found lies in the word -/
def GoodW (ps : List Str) (word : Str) : Prop := ∀ p ∈ ps, ∀ q ∈ foundL p word, 0 ≤ q.1 ∧ q.1 ≤ (word.length : Int)
def breaksL (L : List Int) (l r : Int) (n : Nat) : Nat → List Int
  | 0 => []
  | m + 1 => breaksL L l r n m ++ (if L.getD (l + (m : Int)).toNat 0 % 2 = 1 then [l + (m : Int)] else [])
def breaksOf (ps : List Str) (l r : Int) (word : Str) : List Int := breaksL (levelsL ps word) l r word.length (((word.length : Int) - r + 1 - l).toNat)
theorem ix_listK {X : Cx} {K : PySem.W.Frag} (h : X.K = K) : IxR X (rIxL K) := h ▸ ix_list
theorem flat_rep (n : Nat) : (List.replicate n [V.int 0]).flatten = (List.replicate n (0 : Int)).map V.int := by
  induction n with
  | zero => rfl
  | succ n ih => rw [List.replicate_succ, List.flatten_cons, ih, List.replicate_succ]; rfl
theorem breaksL_len (L : List Int) (l r : Int) (n : Nat) : ∀ m, (breaksL L l r n m).length ≤ m
  | 0 => Nat.le_refl _
  | m + 1 => by
    have := breaksL_len L l r n m
    unfold breaksL
    rw [List.length_append]
    split <;> simp <;> omega
section
variable {P : Program} {w : World} {K : PySem.W.Frag} {mg : Str → Option Value} {base : Heap}
abbrev nLevels : List Str := ["rules", "word", "result", "pattern", "gap", "digit"]
theorem scLevels : FnScope nLevels ["rules", "word"] (defScope sLevels) := ⟨rfl, rfl, rfl, by decide +kernel, rfl, by decide +kernel, by decide +kernel⟩
def spLevels : Sp := fun vs H Q _ => ∃ (ru pt : Addr) (ps : List Str) (l r : Int) (word : Str), vs = [.ref ru, .str word] ∧ RulesAt H ru pt ps l r ∧ GoodR ps l r ∧ word.length ≤ 20 ∧ GoodW ps word ∧
  ∀ H' D, Same H H' → H D = none → H' D = some (.lst ((levelsL ps word).map V.int)) → Q (.ref D) H'
theorem ok_levels (D : Df K mg "levels_of" sLevels ["rules", "word"]) (B : Bl mg) (cF : Cal P w K mg base 2 "found_at" ["pattern", "word"] spFound) : Cal P w K mg base 3 "levels_of" ["rules", "word"] spLevels := by
  refine Cal.of D fun f fd F => F.ok scLevels (fun vs H Q E h => ?_) (fun cdv A outer s H vs Q E hr h => ?_)
  · obtain ⟨_, _, _, _, _, _, rfl, _⟩ := h
    rfl
  · obtain ⟨ru, pt, ps, l, r, wd, rfl, R, g, hw, gw, q⟩ := h
    have nd := scLevels.nd
    refine ⟨_, pss_cons (ps_set (i := 2) nd rfl (.inl rfl) (pe_op op_rep (pe_lst (pa_cons pe_int pa_nil)) (pe_op op_add (pe_callB call_len_str (by rfl) B.len boot_len (pa_cons (pv 1) pa_nil)) pe_int)))
      (pss_cons (ps_for PassesOwn.never rfl (pi_tup (pe_ix ix_tup (pv 0) pe_int (fun _ _ => rfl))) (pg_name (i := 3) nd rfl (.inl rfl))
        (pss_one (ps_for PassesOwn.never rfl (pi_list (pe_cl cF hr (by decide) (by rfl) (pa_cons (pv 3) (pa_cons (pv 1) pa_nil)))) (pg_tup rfl (pgs_cons (pg_name (i := 4) nd rfl (.inl rfl)) (pgs_cons (pg_name (i := 5) nd rfl (.inl rfl)) pgs_nil)))
          (pss_one (ps_asg (pe_callB (call_max2 rfl) (by rfl) B.max boot_max (pa_cons (pe_ix ix_list (pv 2) (pv 4) (fun _ _ => rfl)) (pa_cons (pv 5) pa_nil))) (pg_sub (pv 2) (pv 4) set_list))))))
      (pss_one (ps_ret (pv 2)))), ?_⟩
    have hRa := R.a
    have hRb := R.b
    have few := g.few
    refine ⟨by show 1 ≤ sizeLine; decide, fun D0 hD0 => ?_⟩
    refine ⟨_, rfl, wd, rfl, Nat.le_of_lt (small1000 (by omega)), _, _, rfl, rfl, D0, _, _, rfl, rfl, upd_same, by omega, by omega, ?_, fun D hD => ?_⟩
    · show 1 * ((wd.length : Int) + 1).toNat ≤ sizeLine
      exact Nat.le_of_lt (small1000 (by omega))
    have eN : ((wd.length : Int) + 1).toNat = wd.length + 1 := by omega
    rw [eN, flat_rep]
    have s0 : Same H (upd (upd H D0 (.lst [V.int 0])) D (.lst ((List.replicate (wd.length + 1) (0 : Int)).map V.int))) := same_new (Same.free (same_new (o := .lst [V.int 0]) hD0 (Same.refl H)) hD) (same_new hD0 (Same.refl H))
    have hDn : H D = none := Same.free (same_new (o := .lst [V.int 0]) hD0 (Same.refl H)) hD
    refine ⟨_, rfl, ru, _, 0, _, rfl, rfl, SqT.of (s0 _ _ hRa), atI_nat (j := 0) rfl, pt, rfl, ⟨_, SqT.of (s0 _ _ hRb)⟩, ?_⟩
    refine for_tup (xs := ps.map V.str) (fun i σ H' => ∃ v3 v4 v5 : Option V, σ = [some (.ref ru), some (.str wd), some (.ref D), v3, v4, v5] ∧ Same H H' ∧ H' D = some (.lst (((ps.take i).foldl (fun L p => (foundL p wd).foldl upL L) (List.replicate (wd.length + 1) 0)).map V.int)))
      ⟨none, none, none, rfl, s0, upd_same⟩ (fun i σ H' _ hP => by obtain ⟨_, _, _, _, s1, _⟩ := hP; exact SqT.of (s1 _ _ hRb)) ?_ ?_
    · rintro i x σ H1 hi ⟨v3, v4, v5, rfl, s1, d1⟩
      rw [List.getElem?_map] at hi
      obtain ⟨p, hp, rfl⟩ := Option.map_eq_some_iff.mp hi
      have hpm := List.mem_of_getElem? hp
      have nx := take_next hp
      refine ⟨_, rfl, _, rfl, p, wd, rfl, (g.good p hpm).len, hw, fun H2 F rs s2 hF f2 r2 => ?_⟩
      have hDF : D ≠ F := ne_of_none d1 hF
      refine ⟨F, rfl, ⟨_, SqL.of f2⟩, ?_⟩
      have hgap := gw p hpm
      have hrl : rs.length = (foundL p wd).length := by
        have := congrArg List.length r2
        rw [List.length_map, List.length_map] at this
        exact this
      refine for_list (xs := rs.map V.ref) (fun j σ H' => ∃ v4 v5 : Option V, σ = [some (.ref ru), some (.str wd), some (.ref D), some (.str p), v4, v5] ∧ Same H H' ∧ (∀ b, b ≠ D → H' b = H2 b) ∧
        H' D = some (.lst ((((foundL p wd).take j).foldl upL ((ps.take i).foldl (fun L p => (foundL p wd).foldl upL L) (List.replicate (wd.length + 1) 0))).map V.int)))
        ⟨_, _, rfl, s1.trans s2, fun _ _ => rfl, s2 _ _ d1⟩ (fun j σ H' _ hP => by obtain ⟨_, _, _, _, e3, _⟩ := hP; exact SqL.of ((e3 F (Ne.symm hDF)).trans f2)) ?_ ?_
      · rintro j x σ H3 hj ⟨v4, v5, rfl, s3, e3, d3⟩
        rw [List.getElem?_map] at hj
        obtain ⟨a, ha, rfl⟩ := Option.map_eq_some_iff.mp hj
        have hja := (List.getElem?_eq_some_iff.mp ha).1
        obtain ⟨pr, hpr⟩ : ∃ pr, (foundL p wd)[j]? = some pr := ⟨_, List.getElem?_eq_getElem (by omega)⟩
        have haH : H2 a = pairO pr := by
          have h1 := congrArg (·[j]?) r2
          rw [List.getElem?_map, List.getElem?_map, ha, hpr] at h1
          exact Option.some.inj h1
        have haD : a ≠ D := fun e => by
          subst e
          rw [s2 _ _ d1] at haH
          cases haH
        obtain ⟨h0, h1⟩ := hgap pr (List.mem_of_getElem? hpr)
        have nx2 := take_next hpr
        generalize hL : (((foundL p wd).take j).foldl upL ((ps.take i).foldl (fun L p => (foundL p wd).foldl upL L) (List.replicate (wd.length + 1) 0))) = L at d3
        have hLl : L.length = wd.length + 1 := by rw [← hL, upf_len, lev_len, List.length_replicate]
        have hk : pr.1.toNat < L.length := by omega
        have ek : pr.1 = ((pr.1.toNat : Nat) : Int) := by omega
        have hget : (L.map V.int)[pr.1.toNat]? = some (.int (L.getD pr.1.toNat 0)) := by
          rw [List.getElem?_map, List.getElem?_eq_getElem hk, List.getD_eq_getElem?_getD, List.getElem?_eq_getElem hk]; rfl
        refine ⟨a, _, rfl, SqT.of ((e3 a haD).trans haH), rfl, _, _, rfl, _, _, rfl, rfl, ?_⟩
        refine ⟨_, rfl, _, rfl, D, _, pr.1, .int (L.getD pr.1.toNat 0), rfl, rfl, SqL.of d3, ?_, _, rfl, _, _, rfl, ?_⟩
        · rw [ek]
          exact atI_nat hget
        · refine ⟨_, rfl, _, rfl, D, _, pr.1, pr.1.toNat, rfl, rfl, d3, ?_, _, _, rfl, same_new hDn s3, fun b hb => (upd_ne hb).trans (e3 b hb), ?_⟩
          · unfold ixN
            rw [List.length_map, if_pos h0, if_pos (by omega)]
          · rw [upd_same, nx2, List.foldl_append, List.foldl_cons, List.foldl_nil, hL]
            unfold upL
            rw [List.map_set]
      · rintro σ H3 ⟨v4, v5, rfl, s3, e3, d3⟩
        rw [List.length_map, hrl, List.take_length] at d3
        refine ⟨_, _, _, rfl, s3, ?_⟩
        rw [nx, List.foldl_append, List.foldl_cons, List.foldl_nil]
        exact d3
    · rintro σ H1 ⟨v3, v4, v5, rfl, s1, d1⟩
      rw [List.length_map, List.take_length] at d1
      exact ⟨_, rfl, q H1 D s1 hDn d1⟩
abbrev nBreaksOf : List Str := ["rules", "word", "patterns", "left", "right", "known", "gap"]
theorem scBreaksOf : FnScope nBreaksOf ["rules", "word"] (defScope sBreaksOf) := ⟨rfl, rfl, rfl, by decide +kernel, rfl, by decide +kernel, by decide +kernel⟩
def spBreaksOf : Sp := fun vs H Q _ => ∃ (ru pt : Addr) (ps : List Str) (l r : Int) (word : Str), vs = [.ref ru, .str word] ∧ RulesAt H ru pt ps l r ∧ GoodR ps l r ∧ word.length ≤ 20 ∧ GoodW ps word ∧
  ∀ H' D, Same H H' → H D = none → H' D = some (.lst ((breaksOf ps l r word).map V.int)) → Q (.ref D) H'
theorem ok_breaksOf (D : Df K mg "breaks_of" sBreaksOf ["rules", "word"]) (B : Bl mg) (cL : Cal P w K mg base 3 "levels_of" ["rules", "word"] spLevels) : Cal P w K mg base 4 "breaks_of" ["rules", "word"] spBreaksOf := by
  refine Cal.of D fun f fd F => F.ok scBreaksOf (fun vs H Q E h => ?_) (fun cdv A outer s H vs Q E hr h => ?_)
  · obtain ⟨_, _, _, _, _, _, rfl, _⟩ := h
    rfl
  · obtain ⟨ru, pt, ps, l, r, wd, rfl, R, g, hw, gw, q⟩ := h
    have nd := scBreaksOf.nd
    refine ⟨_, pss_cons (ps_asg (pv 0) (pg_tup rfl (pgs_cons (pg_name (i := 2) nd rfl (.inl rfl)) (pgs_cons (pg_name (i := 3) nd rfl (.inl rfl)) (pgs_cons (pg_name (i := 4) nd rfl (.inl rfl)) pgs_nil)))))
      (pss_cons (ps_set (i := 5) nd rfl (.inr rfl) (pe_cl cL hr (by decide) (by rfl) (pa_cons (pv 0) (pa_cons (pv 1) pa_nil))))
      (pss_one (ps_ret (pe_lc (own := [("gap", 6)]) (g := gName 6) (by rfl) nd (pi_range2 (by rfl) B.range (pa_cons (pv 3) (pa_cons (pe_op op_add (pe_op op_sub (pe_callB call_len_str (by rfl) B.len boot_len (pa_cons (pv 1) pa_nil)) (pv 4)) pe_int) pa_nil)))
        (blkOk_by (own := [("gap", 6)]) (N := nBreaksOf) (sc := defScope sBreaksOf) (by decide +kernel))
        (fun _ _ _ _ _ => pg_name (i := 6) nd rfl (Or.inl rfl)) (fun _ _ _ _ _ => pts_one (pt_cmpR op_eq (pe_op op_mod (pe_ix (ix_listK (K := K) rfl) (pv 5) (pv 6) (fun _ _ => rfl)) pe_int) pe_int (nomark _))) (fun _ _ _ _ _ => pv 6))))), ?_⟩
    have hRa := R.a
    have hl1 := g.l1
    have hl4 := g.l4
    have hr1 := g.r1
    have hr4 := g.r4
    refine ⟨_, rfl, ru, _, rfl, SqT.of hRa, rfl, _, _, rfl, _, _, rfl, _, _, rfl, rfl, ?_⟩
    refine ⟨_, rfl, _, rfl, ru, pt, ps, l, r, wd, rfl, R, g, hw, gw, fun H1 L s1 hL l1 => ?_⟩
    refine ⟨_, rfl, _, rfl, wd, rfl, Nat.le_of_lt (small1000 (by omega)), _, rfl, _, _, rfl, rfl, _, _, rfl, rfl, l, _, rfl, ⟨by omega, by omega, by omega, by omega⟩, fun D hD => ?_⟩
    have hLl : (levelsL ps wd).length = wd.length + 1 := by unfold levelsL; rw [lev_len, List.length_replicate]
    refine lc_range (fun i H' => Same H1 H' ∧ H' D = some (.lst ((breaksL (levelsL ps wd) l r wd.length i).map V.int))) ⟨same_new hD (Same.refl _), upd_same⟩ ?_ ?_
    · rintro i H2 hi ⟨s2, d2⟩
      have hk : (l + (i : Int)).toNat < (levelsL ps wd).length := by omega
      have ek : l + (i : Int) = (((l + (i : Int)).toNat : Nat) : Int) := by omega
      have hget : ((levelsL ps wd).map V.int)[(l + (i : Int)).toNat]? = some (.int ((levelsL ps wd).getD (l + (i : Int)).toNat 0)) := by
        rw [List.getElem?_map, List.getElem?_eq_getElem hk, List.getD_eq_getElem?_getD, List.getElem?_eq_getElem hk]; rfl
      have nx : breaksL (levelsL ps wd) l r wd.length (i + 1) = breaksL (levelsL ps wd) l r wd.length i ++ (if (levelsL ps wd).getD (l + (i : Int)).toNat 0 % 2 = 1 then [l + (i : Int)] else []) := rfl
      refine ⟨rfl, _, rfl, _, rfl, L, _, l + (i : Int), .int ((levelsL ps wd).getD (l + (i : Int)).toNat 0), rfl, rfl, SqL.of (s2 _ _ l1), ?_, _, _, rfl, rfl, by show (0 : Int) < 2; decide, rfl, _, rfl, ite2 (fun hb => ?_) fun hb => ?_⟩
      · rw [ek]; exact atI_nat hget
      · have hb' := V.int.inj (of_decide_eq_true hb)
        rw [if_pos hb'] at nx
        have hlen := breaksL_len (levelsL ps wd) l r wd.length i
        refine ⟨_, rfl, _, d2, by rw [List.length_map]; exact small1000 (by omega), same_new hD s2, ?_⟩
        rw [upd_same, nx, List.map_append]
        rfl
      · have hb' : ¬ (levelsL ps wd).getD (l + (i : Int)).toNat 0 % 2 = 1 := fun e => hb (decide_eq_true (congrArg V.int e))
        rw [if_neg hb', List.append_nil] at nx
        exact ⟨s2, by rw [nx]; exact d2⟩
    · rintro H2 ⟨s2, d2⟩
      exact q H2 D (s1.trans s2) (Same.free s1 hD) d2
end
end Hy
set_option Elab.async false
set_option linter.all false
set_option maxRecDepth 100000
set_option maxHeartbeats 4000000
namespace Hy
open PySem PySem.Spec PyProof.Rows L2 CwR
/-! ### is_told, told_breaks -/
abbrev dash : Str := Str.ofString "-"
def tstep (a : List Int × Int) (q : Str) : List Int × Int := (a.1 ++ [a.2 + (q.length : Int)], a.2 + (q.length : Int))
def toldL (t : Str) : List Int := ((Txt.split t dash).dropLast.foldl tstep ([], 0)).1
structure GoodT (t w : Str) : Prop where
  len : t.length ≤ 100
  parts : ((Txt.split t dash).all fun p => isWord p 20 && decide (p.length ≤ 100)) = true
  few : (Txt.split t dash).length ≤ 100
  word : Txt.replace t dash (Str.ofString "") = w
  wl : w.length ≤ 20
  isw : isWord w 20 = true
theorem tfold_len : ∀ (l : List Str) (a : List Int × Int), (l.foldl tstep a).1.length = a.1.length + l.length
  | [], a => rfl
  | p :: l, a => by
    rw [List.foldl_cons, tfold_len l, List.length_cons]
    show (a.1 ++ [_]).length + _ = _
    rw [List.length_append, List.length_singleton]
    omega
theorem cut_last (xs : List V) : cutV xs none (some (-1)) = xs.dropLast := by
  unfold cutV
  show (xs.drop (HT.sIx xs.length 0 none)).take (HT.sIx xs.length xs.length (some (-1)) - HT.sIx xs.length 0 none) = _
  rw [HT.sIx_none]
  have e : HT.sIx xs.length xs.length (some (-1)) = xs.length - 1 := by
    show (if (-1 : Int) < 0 then ((-1 : Int) + (xs.length : Int)).toNat else min (-1 : Int).toNat xs.length) = _
    rw [if_pos (by decide)]
    omega
  rw [e, List.drop_zero, Nat.sub_zero, List.dropLast_eq_take]
section
variable {P : Program} {w : World} {K : PySem.W.Frag} {mg : Str → Option Value} {base : Heap}
abbrev nIsTold : List Str := ["value", "part"]
theorem scIsTold : FnScope nIsTold ["value"] (defScope sIsTold) := ⟨rfl, rfl, rfl, by decide +kernel, rfl, by decide +kernel, by decide +kernel⟩
def spIsTold : Sp := fun vs H Q _ => ∃ t wd : Str, vs = [.str t] ∧ GoodT t wd ∧ ∀ H', Same H H' → Q (.bl true) H'
theorem ok_isTold (D : Df K mg "is_told" sIsTold ["value"]) (B : Bl mg) (cW : Cal P w K mg base 1 "is_word" ["value", "most"] spIsWord) : Cal P w K mg base 2 "is_told" ["value"] spIsTold := by
  refine Cal.of D fun f fd F => okT F scIsTold (by decide +kernel) (by decide) (fun vs H Q E h => ?_) (fun cdv A outer s H vs Q E hr h => ?_)
  · obtain ⟨_, _, rfl, _⟩ := h
    rfl
  · obtain ⟨t, wd, rfl, g, q⟩ := h
    have nd := scIsTold.nd
    refine ⟨_, psst_cons (PST.of (ps_if (PW.pt (pw_or (pt_not (pt_val (pe_callB call_isi (by rfl) B.isi boot_isinstance (pa_cons (pv 0) (pa_cons (pe_ty (by rfl) B.str boot_tStr) pa_nil)))))
        (pw_or1 (pt_not (pt_val (pe_callB (cr_all rfl) (by rfl) B.all boot_all (pa_cons (pe_lc (own := [("part", 1)]) (g := gName 1) (by rfl) nd (pi_list (pe_m1 PySem.F.slot_str_split PySem.F.type_str_split mt_split (pv 0) pe_str))
          (blkOk_by (own := [("part", 1)]) (N := nIsTold) (sc := defScope sIsTold) (by decide +kernel))
          (fun _ _ _ _ _ => pg_name (i := 1) nd rfl (Or.inl rfl)) (fun _ _ _ _ _ => pts_nil) (fun _ _ _ _ _ => pe_cl cW hr (by decide) (by rfl) (pa_cons (pv 1) (pa_cons (pe_gc (by rfl) B.word) pa_nil)))) pa_nil))))))) (pss_one (ps_ret pe_bl)) pss_nil))
      (psst_one (pst_ret (pet_cmpR op_le (pet_callB call_len_str (by rfl) B.len boot_len (pat_cons (pet_replC (pv 0)) pat_nil)) (pe_gc (by rfl) B.word) (nomark _)))), ?_⟩
    have hl := g.len
    have hf := g.few
    have hsz : ∀ n : Nat, n ≤ 1000 → n ≤ sizeLine := fun n h => Nat.le_of_lt (small1000 h)
    refine ⟨_, rfl, _, .ty "str", .type "str", .type "str", true, rfl, .ty _, .base (.str _), kit_ty (by decide +kernel), true, rfl, iteF ?_⟩
    refine ⟨_, rfl, ⟨_, rfl⟩, t, dash, rfl, rfl, by decide +kernel, hsz _ (by omega), fun p hp => ⟨p, rfl, ⟨_, SqL.of upd_same⟩, fun D hD => ?_⟩⟩
    have s0 : Same H (upd H p (.lst ((Txt.split t dash).map V.str))) := same_new hp (Same.refl H)
    refine lc_list (xs := (Txt.split t dash).map V.str) (fun i H' => Same (upd H p (.lst ((Txt.split t dash).map V.str))) H' ∧ H' D = some (.lst ((List.replicate i true).map V.bl))) ⟨same_new hD (Same.refl _), upd_same⟩ (fun i H' _ hP => SqL.of (hP.1 _ _ upd_same)) ?_ ?_
    · rintro i x H1 hi ⟨s1, d1⟩
      rw [List.getElem?_map] at hi
      obtain ⟨pp, hpp, rfl⟩ := Option.map_eq_some_iff.mp hi
      have hg := List.all_eq_true.mp g.parts pp (List.mem_of_getElem? hpp)
      rw [Bool.and_eq_true] at hg
      have h100 : pp.length ≤ 100 := of_decide_eq_true hg.2
      refine ⟨rfl, _, rfl, pp, 20, rfl, by omega, fun H2 s2 => ?_⟩
      rw [hg.1]
      refine ⟨_, s2 _ _ d1, ?_, same_new hD (s1.trans s2), ?_⟩
      · rw [List.length_map, List.length_replicate]
        have := (List.getElem?_eq_some_iff.mp hpp).1
        exact small1000 (by omega)
      · rw [upd_same, List.replicate_succ', List.map_append]
        rfl
    rintro H1 ⟨s1, d1⟩
    refine ⟨D, _, rfl, .inl (.inl d1), _, rfl, ?_⟩
    have eall : (List.replicate ((Txt.split t dash).map V.str).length true).all id = true := List.all_eq_true.mpr fun x hx => by rw [(List.mem_replicate.mp hx).2]; rfl
    rw [eall]
    refine iteF ?_
    have hw := g.word
    have hwl := g.wl
    refine ⟨_, rfl, t, rfl, ?_, ?_⟩
    · show t.length + (t.length + 1) * 0 ≤ 16777216
      omega
    rw [hw]
    refine ⟨wd, rfl, hsz _ (by omega), _, _, rfl, rfl, ?_⟩
    show Q (.bl (decide ((wd.length : Int) ≤ 20))) H1
    rw [decide_eq_true (show (wd.length : Int) ≤ 20 by omega)]
    exact q H1 (s0.trans s1)
abbrev nToldBreaks : List Str := ["told", "gaps", "letters", "part"]
theorem scToldBreaks : FnScope nToldBreaks ["told"] (defScope sToldBreaks) := ⟨rfl, rfl, rfl, by decide +kernel, rfl, by decide +kernel, by decide +kernel⟩
def spToldBreaks : Sp := fun vs H Q _ => ∃ t wd : Str, vs = [.str t] ∧ GoodT t wd ∧ ∀ H' D, Same H H' → H D = none → H' D = some (.lst ((toldL t).map V.int)) → Q (.ref D) H'
theorem ok_toldBreaks (D : Df K mg "told_breaks" sToldBreaks ["told"]) (B : Bl mg) : Cal P w K mg base 1 "told_breaks" ["told"] spToldBreaks := by
  refine Cal.of D fun f fd F => F.ok scToldBreaks (fun vs H Q E h => ?_) (fun cdv A outer s H vs Q E hr h => ?_)
  · obtain ⟨_, _, rfl, _⟩ := h
    rfl
  · obtain ⟨t, wd, rfl, g, q⟩ := h
    have nd := scToldBreaks.nd
    refine ⟨_, pss_cons (ps_par (i := 1) (j := 2) rfl nd rfl rfl (by decide) rfl rfl (pa_cons (pe_lst pa_nil) (pa_cons pe_int pa_nil)) rfl)
      (pss_cons (ps_for PassesOwn.never rfl (pi_list (pe_slice sl_list (pe_m1 PySem.F.slot_str_split PySem.F.type_str_split mt_split (pv 0) pe_str) po_none (po_some (pe_un un_neg pe_int)))) (pg_name (i := 3) nd rfl (.inl rfl))
        (pss_cons (ps_aug (i := 2) nd rfl (.inl rfl) (pe_callB call_len_str (by rfl) B.len boot_len (pa_cons (pv 3) pa_nil)) ip_add)
        (pss_one (ps_expr (pe_bm PySem.F.plainAttrs_list PySem.F.slot_list_append PySem.F.type_list_append mt_append (pv 1) (pa_cons (pv 2) pa_nil))))))
      (pss_one (ps_ret (pv 1)))), ?_⟩
    have hl := g.len
    have hf := g.few
    have hsz : ∀ n : Nat, n ≤ 1000 → n ≤ sizeLine := fun n h => Nat.le_of_lt (small1000 h)
    refine ⟨Nat.zero_le _, fun D hD => ⟨_, _, rfl, ?_⟩⟩
    refine ⟨_, rfl, ⟨_, rfl⟩, t, dash, rfl, rfl, by decide +kernel, hsz _ (by omega), fun p hp => ⟨1, rfl, -1, rfl, p, _, rfl, SqL.of upd_same, fun L hL => ⟨L, rfl, ⟨_, SqL.of upd_same⟩, ?_⟩⟩⟩
    have s0 : Same H (upd H D (.lst [])) := same_new hD (Same.refl H)
    have s1 : Same H (upd (upd H D (.lst [])) p (.lst ((Txt.split t dash).map V.str))) := same_new (Same.free s0 hp) s0
    have dD : upd (upd H D (.lst [])) p (.lst ((Txt.split t dash).map V.str)) D = some (.lst []) := (upd_ne (ne_of_none (show upd H D (.lst []) D = some (.lst []) from upd_same) hp)).trans upd_same
    have hDL : D ≠ L := ne_of_none dD hL
    have s2 := same_new (o := .lst (cutV ((Txt.split t dash).map V.str) none (some (-1)))) (Same.free s1 hL) s1
    have ecut : cutV ((Txt.split t dash).map V.str) none (some (-1)) = ((Txt.split t dash).dropLast).map V.str := by rw [cut_last, List.map_dropLast]
    have hlenq : ((Txt.split t dash).dropLast).length ≤ 100 := by rw [List.length_dropLast]; omega
    rw [ecut]
    rw [ecut] at s2
    refine for_list (xs := ((Txt.split t dash).dropLast).map V.str) (fun i σ H' => ∃ v3 : Option V, σ = [some (.str t), some (.ref D), some (.int (((Txt.split t dash).dropLast.take i).foldl tstep ([], 0)).2), v3] ∧ Same H H' ∧
      H' L = some (.lst (((Txt.split t dash).dropLast).map V.str)) ∧ H' D = some (.lst ((((Txt.split t dash).dropLast.take i).foldl tstep ([], 0)).1.map V.int)))
      ⟨none, rfl, s2, upd_same, (upd_ne hDL).trans dD⟩ (fun i σ H' _ hP => by obtain ⟨_, _, _, l1, _⟩ := hP; exact SqL.of l1) ?_ ?_
    · rintro i x σ H1 hi ⟨v3, rfl, s3, l1, d1⟩
      rw [List.getElem?_map] at hi
      obtain ⟨pp, hpp, rfl⟩ := Option.map_eq_some_iff.mp hi
      have hg := List.all_eq_true.mp g.parts pp (List.dropLast_subset _ (List.mem_of_getElem? hpp))
      rw [Bool.and_eq_true] at hg
      have h100 : pp.length ≤ 100 := of_decide_eq_true hg.2
      have nx := take_next hpp
      have hlen := tfold_len ((Txt.split t dash).dropLast.take i) ([], 0)
      have hlt := List.length_take_le' i (Txt.split t dash).dropLast
      refine ⟨_, rfl, _, rfl, pp, rfl, hsz _ (by omega), _, _, rfl, rfl, ?_⟩
      refine ⟨_, rfl, .inl ⟨rfl, _, SqL.of d1⟩, _, rfl, D, _, _, rfl, rfl, d1, ?_, ?_⟩
      · rw [List.length_map, hlen]
        refine small1000 ?_
        show 0 + _ ≤ _
        omega
      · refine ⟨some (.str pp), ?_, same_new hD s3, (upd_ne (Ne.symm hDL)).trans l1, ?_⟩
        · rw [nx, List.foldl_append]; rfl
        · rw [upd_same, nx, List.foldl_append, List.foldl_cons, List.foldl_nil]
          unfold tstep
          rw [List.map_append]
          rfl
    · rintro σ H1 ⟨v3, rfl, s3, l1, d1⟩
      rw [List.length_map, List.take_length] at d1
      exact ⟨_, rfl, q H1 D s3 hD d1⟩
end
end Hy
set_option Elab.async false
set_option linter.all false
set_option maxRecDepth 100000
set_option maxHeartbeats 4000000
namespace Hy
open PySem PySem.Spec PyProof.Rows L2 CwR
/-! ### the class Hyphenator -/
theorem krk : ¬ (("rules" : Str) = "known") := by decide +kernel
def flds (ru d : Addr) : List (Str × V) := putF "known" (.ref d) (putF "rules" (.ref ru) [])
theorem flds_eq (ru d : Addr) : flds ru d = ([("rules", V.ref ru), ("known", V.ref d)] : List (Str × V)) := by
  show (if ("rules" : Str) = "known" then [(("rules" : Str), V.ref d)] else (("rules" : Str), V.ref ru) :: putF "known" (V.ref d) []) = ([("rules", V.ref ru), ("known", V.ref d)] : List (Str × V))
  rw [if_neg krk]
  all_goals rfl
theorem flds_rules (ru d : Addr) : (flds ru d).lookup ("rules" : Str) = some (.ref ru) := by
  unfold flds
  rw [lookup_putF, if_neg krk, lookup_putF, if_pos rfl]
theorem flds_known (ru d : Addr) : (flds ru d).lookup ("known" : Str) = some (.ref d) := by
  unfold flds
  rw [lookup_putF, if_pos rfl]
theorem flds_no (ru d : Addr) {m : Str} (h1 : ¬ m = "known") (h2 : ¬ m = "rules") : (flds ru d).lookup m = none := by
  unfold flds
  rw [lookup_putF, if_neg h1, lookup_putF, if_neg h2]
  all_goals rfl
theorem flds_put (ru d e : Addr) : putF "known" (.ref e) (flds ru d) = flds ru e := by
  rw [flds_eq, flds_eq]
  show (if ("rules" : Str) = "known" then _ else (("rules" : Str), V.ref ru) :: (if ("known" : Str) = "known" then [(("known" : Str), V.ref e)] else _)) = ([("rules", V.ref ru), ("known", V.ref e)] : List (Str × V))
  rw [if_neg krk, if_pos rfl]
/-- a Hyphenator stands at p, its dict at d holds kvs, its rules at ru -/
structure HyAt (C : Addr) (H : Hp) (p d ru pt : Addr) (ps : List Str) (l r : Int) (kvs : List (Key × V)) : Prop where
  ob : ∃ dx, H p = some (.ins C dx (flds ru d))
  dc : H d = some (.dK kvs)
  ra : RulesAt H ru pt ps l r
theorem HyAt.same {C : Addr} {H H' : Hp} {p d ru pt : Addr} {ps : List Str} {l r : Int} {kvs : List (Key × V)} (x : HyAt C H p d ru pt ps l r kvs) (s : Same H H') : HyAt C H' p d ru pt ps l r kvs :=
  ⟨let ⟨dx, e⟩ := x.ob; ⟨dx, s _ _ e⟩, s _ _ x.dc, x.ra.same s⟩
theorem HyAt.ne {C : Addr} {H : Hp} {p d ru pt : Addr} {ps : List Str} {l r : Int} {kvs : List (Key × V)} (x : HyAt C H p d ru pt ps l r kvs) : p ≠ d ∧ d ≠ ru ∧ d ≠ pt := by
  obtain ⟨⟨dx, e⟩, dc, a, b⟩ := x
  exact ⟨ne_of e dc (by intro z; cases z), ne_of dc a (by intro z; cases z), ne_of dc b (by intro z; cases z)⟩
/-- its dict is another -/
theorem HyAt.put {C : Addr} {H H' : Hp} {p d ru pt : Addr} {ps : List Str} {l r : Int} {kvs kvs' : List (Key × V)} (x : HyAt C H p d ru pt ps l r kvs) (k : ∀ b o, H b = some o → b ≠ d → H' b = some o) (e : H' d = some (.dK kvs')) : HyAt C H' p d ru pt ps l r kvs' := by
  obtain ⟨n1, n2, n3⟩ := x.ne
  obtain ⟨⟨dx, ob⟩, dc, a, b⟩ := x
  exact ⟨⟨dx, k _ _ ob n1⟩, e, k _ _ a (Ne.symm n2), k _ _ b (Ne.symm n3)⟩
/-- the dict holds told words by their words -/
def KV (kvs : List (Key × V)) : Prop := ∀ q ∈ kvs, ∃ w t : Str, q = (Sum.inr w, V.str t) ∧ GoodT t w
theorem valV_mem {kvs : List (Key × V)} {k : Key} {v : V} (h : valV kvs k = some v) : (k, v) ∈ kvs := by
  unfold valV at h
  obtain ⟨q, hq, e⟩ := Option.map_eq_some_iff.mp h
  have h1 := List.find?_some hq
  have h2 := List.mem_of_find?_eq_some hq
  have h3 : q.1 = k := of_decide_eq_true h1
  subst h3 e
  exact h2
theorem KV.val {kvs : List (Key × V)} (h : KV kvs) {w : Str} {v : V} (e : valV kvs (Sum.inr w) = some v) : ∃ t, v = .str t ∧ GoodT t w := by
  obtain ⟨w', t, q, g⟩ := h _ (valV_mem e)
  have h1 := (Prod.mk.inj q)
  have h2 : w = w' := Sum.inr.inj h1.1
  subst h2
  exact ⟨t, h1.2, g⟩
/-- what breaks answers -/
def gapsOf (kvs : List (Key × V)) (ps : List Str) (l r : Int) (w : Str) : List Int :=
  match valV kvs (Sum.inr w) with
  | some (.str t) => toldL t
  | _ => breaksOf ps l r w
/-- what is at the key, or None -/
def atK (kvs : List (Key × V)) (w : Str) : V := (valV kvs (Sum.inr w)).getD .non
structure Txt (K : PySem.W.Frag) (mg : Str → Option Value) (C : Addr) : Prop where
  cl : Cls K C
  nR : NoAttr K C "rules"
  nK : NoAttr K C "known"
  mgC : mg "Hyphenator" = some (.ref C)
/-- the class's def m keeps the promise sp -/
def Mth (P : Program) (w : World) (K : PySem.W.Frag) (mg : Str → Option Value) (base : Heap) (CX : CXT) (C : Addr) (k : Nat) (m : Str) (ps : List Str) (sp : Sp) : Prop :=
  ∃ f fd, FnOk P w K mg base CX k f fd ps sp ∧ Meth K C m f ∧ Binds K fd ps []
/-- the class's def m stands -/
def Mf (K : PySem.W.Frag) (C : Addr) (m q : Str) (st : Stmt) (ps : List Str) : Prop := ∃ f fd, Fun K m q st f fd ∧ Meth K C m f ∧ Binds K fd ps []
theorem Mth.of {P : Program} {w : World} {K : PySem.W.Frag} {mg : Str → Option Value} {base : Heap} {CX : CXT} {C : Addr} {k : Nat} {m q : Str} {st : Stmt} {ps : List Str} {sp : Sp} (D : Mf K C m q st ps)
    (h : ∀ f fd, Fun K m q st f fd → FnOk P w K mg base CX k f fd ps sp) : Mth P w K mg base CX C k m ps sp := by
  obtain ⟨f, fd, F, g, b⟩ := D
  exact ⟨f, fd, h f fd F, g, b⟩
theorem pe_fldK {X : Cx} {K : PySem.W.Frag} {e : Expr} {f : Str} {pos : Pos} {ta : TE} (hK : X.K = K) (he : PE X e ta) (hb : attributeBase e f X.env (eval e X.env) = eval e X.env) : PE X (.Attribute e f pos) (tFld K ta f) := hK ▸ pe_fld he hb
section
variable {P : Program} {w : World} {K : PySem.W.Frag} {mg : Str → Option Value} {base : Heap} {C : Addr}
theorem scInit : FnScope ["self", "rules"] ["self", "rules"] (defScope sInit) := ⟨rfl, rfl, rfl, by decide +kernel, rfl, by decide +kernel, by decide +kernel⟩
def spInit (C : Addr) : Sp := fun vs H Q _ => ∃ (p dx ru pt : Addr) (ps : List Str) (l r : Int), vs = [.ref p, .ref ru] ∧ H p = some (.ins C dx []) ∧ RulesAt H ru pt ps l r ∧ GoodR ps l r ∧
  ∀ H' d, H d = none → HyAt C H' p d ru pt ps l r [] → (∀ b o, H b = some o → b ≠ p → H' b = some o) → Q .non H'
theorem ok_init {f : Addr} {fd : FuncData} (F : Fun K "__init__" "Hyphenator.__init__" sInit f fd) (T : Txt K mg C) (cR : Cal P w K mg base 4 "need_rules" ["value"] spNeedRules) : FnOk P w K mg base CX0 5 f fd ["self", "rules"] (spInit C) := by
  refine F.ok scInit (fun vs H Q E h => ?_) (fun cdv A outer s H vs Q E hr h => ?_)
  · obtain ⟨_, _, _, _, _, _, _, rfl, _⟩ := h
    rfl
  · obtain ⟨p, dx, ru, pt, ps, l, r, rfl, hp, R, g, k⟩ := h
    refine ⟨_, pss_cons (ps_expr (pe_cl cR hr (by decide) (by rfl) (pa_cons (pv 1) pa_nil))) (pss_cons (ps_fld (pv 0) (pv 1) rfl) (pss_one (ps_fld (pv 0) pe_dnewK rfl))), ?_⟩
    refine ⟨_, rfl, ru, pt, ps, l, r, rfl, R, g, fun H1 s1 => ?_⟩
    refine ⟨_, rfl, _, rfl, p, C, dx, [], rfl, s1 _ _ hp, T.cl, T.nR, (by show 0 < 1000; decide), fun d hd => ?_⟩
    have npd : p ≠ d := ne_of_none (upd_same (H := H1) (a := p) (o := .ins C dx (putF "rules" (.ref ru) []))) hd
    refine ⟨_, rfl, p, C, dx, _, rfl, (upd_ne npd).trans upd_same, T.cl, T.nK, (by show 1 < 1000; decide), ?_⟩
    have hd1 : H1 d = none := by rw [upd_ne (Ne.symm npd)] at hd; exact hd
    have keep : ∀ b o, H b = some o → b ≠ p → (upd (upd (upd H1 p (.ins C dx (putF "rules" (.ref ru) []))) d (.dK [])) p (.ins C dx (flds ru d))) b = some o := fun b o e hb => by
      rw [upd_ne hb, upd_ne (ne_of_none (s1 _ _ e) hd1), upd_ne hb]
      exact s1 _ _ e
    have hpru : ru ≠ p := ne_of R.a hp (by intro z; cases z)
    have hppt : pt ≠ p := ne_of R.b hp (by intro z; cases z)
    exact k _ d (Same.free s1 hd1) ⟨⟨dx, upd_same⟩, (upd_ne (Ne.symm npd)).trans upd_same, ⟨keep _ _ R.a hpru, keep _ _ R.b hppt⟩⟩ keep
/-! ### add -/
theorem scAdd : FnScope ["self", "told"] ["self", "told"] (defScope sAdd) := ⟨rfl, rfl, rfl, by decide +kernel, rfl, by decide +kernel, by decide +kernel⟩
def spAdd (C : Addr) : Sp := fun vs H Q _ => ∃ (p d ru pt : Addr) (ps : List Str) (l r : Int) (kvs : List (Key × V)) (t wd : Str), vs = [.ref p, .str t] ∧ HyAt C H p d ru pt ps l r kvs ∧ GoodT t wd ∧ kvs.length ≤ 100 ∧
  ∀ H', HyAt C H' p d ru pt ps l r (putK kvs (Sum.inr wd) (.str t)) → (∀ b o, H b = some o → b ≠ d → H' b = some o) → Q (.int ((putK kvs (Sum.inr wd : Key) (V.str t)).length : Nat)) H'
theorem ok_add {f : Addr} {fd : FuncData} (F : Fun K "add" "Hyphenator.add" sAdd f fd) (T : Txt K mg C) (B : Bl mg) (cT : Cal P w K mg base 2 "is_told" ["value"] spIsTold) : FnOk P w K mg base CX0 3 f fd ["self", "told"] (spAdd C) := by
  refine okT F scAdd (by decide +kernel) (by decide) (fun vs H Q E h => ?_) (fun cdv A outer s H vs Q E hr h => ?_)
  · obtain ⟨_, _, _, _, _, _, _, _, _, _, rfl, _⟩ := h
    rfl
  · obtain ⟨p, d, ru, pt, ps, l, r, kvs, t, wd, rfl, S, g, hl, k⟩ := h
    have hu := hu_of hr
    refine ⟨_, psst_cons (PST.of (ps_if (pt_not (pt_val (pe_cl cT hr (by decide) (by rfl) (pa_cons (pv 1) pa_nil)))) (pss_one ps_never) pss_nil))
      (psst_cons (pst_dput hu (pe_fld (pv 0) rfl) (pet_replC (pv 1)) (pv 1) rfl)
      (psst_one (PST.of (ps_ret (pe_callB call_lenD (by rfl) B.len boot_len (pa_cons (pe_fld (pv 0) rfl) pa_nil)))))), ?_⟩
    refine ⟨_, rfl, t, wd, rfl, g, fun H1 s1 => ⟨_, rfl, iteF ?_⟩⟩
    have S1 := S.same s1
    obtain ⟨⟨dx, h1⟩, hd, _⟩ := id S1
    obtain ⟨n1, n2, n3⟩ := S1.ne
    have gl := g.len
    refine ⟨_, rfl, _, rfl, p, C, dx, _, _, rfl, h1, T.cl, T.nK, flds_known _ _, _, rfl, t, rfl, ?_, ?_⟩
    · show t.length + (t.length + 1) * 0 ≤ 16777216
      omega
    have hw := g.word
    rw [hw]
    refine ⟨d, _, rfl, DPut.k (k := Sum.inr wd) hd (small1000 (by omega)), ?_⟩
    have keep : ∀ b o, H1 b = some o → b ≠ d → (upd H1 d (.dK (putK kvs (Sum.inr wd : Key) (V.str t)))) b = some o := fun b o e hb => (upd_ne hb).trans e
    have S2 := S1.put keep upd_same
    refine ⟨_, rfl, p, C, dx, _, _, rfl, keep _ _ h1 n1, T.cl, T.nK, flds_known _ _, d, _, rfl, upd_same, ?_⟩
    exact k _ S2 fun b o e hb => keep b o (s1 _ _ e) hb
/-! ### remove -/
theorem scRemove : FnScope ["self", "word"] ["self", "word"] (defScope sRemove) := ⟨rfl, rfl, rfl, by decide +kernel, rfl, by decide +kernel, by decide +kernel⟩
structure ExT (K : PySem.W.Frag) (mg : Str → Option Value) (x : Str) (N : Addr) : Prop where
  ex : PySem.W.excIn K N [.type "ValueError", .type "Exception", .type "BaseException", .type "object"] "ValueError.__new__" = true
  g : mg x = some (.ref N)
  k : PySem.W.keepIn K (.ref N) = true
  b : PySem.W.subIn K (.ref N) (.type "BaseException") = some true
  t : PySem.W.typeIn K (.ref N) = some (.type "type")
def spRemove (C N : Addr) : Sp := fun vs H Q E => ∃ (p d ru pt : Addr) (ps : List Str) (l r : Int) (kvs : List (Key × V)) (wd : Str), vs = [.ref p, .str wd] ∧ HyAt C H p d ru pt ps l r kvs ∧ wd.length ≤ 20 ∧ isWord wd 20 = true ∧
  (∀ v, valV kvs (Sum.inr wd : Key) = some v → ∀ H', HyAt C H' p d ru pt ps l r (dropK kvs (Sum.inr wd)) → (∀ b o, H b = some o → b ≠ d → H' b = some o) → Q (.int ((dropK kvs (Sum.inr wd : Key)).length : Nat)) H') ∧
  (valV kvs (Sum.inr wd : Key) = none → ∀ H', Same H H' → E (.ref N) none H')
theorem ok_remove {f N : Addr} {fd : FuncData} (F : Fun K "remove" "Hyphenator.remove" sRemove f fd) (T : Txt K mg C) (B : Bl mg) (cW : Cal P w K mg base 2 "need_word" ["value"] spNeedWord) (tN : ExT K mg "NotThere" N) :
    FnOk P w K mg base (L2.CX P w) 3 f fd ["self", "word"] (spRemove C N) := by
  refine F.okX scRemove (fun vs H Q E h => ?_) (fun cdv A outer s H vs Q E hr h => ?_)
  · obtain ⟨_, _, _, _, _, _, _, _, _, rfl, _⟩ := h
    rfl
  · obtain ⟨p, d, ru, pt, ps, l, r, kvs, wd, rfl, S, hl, hw, k1, k2⟩ := h
    have hu := hu_of hr
    refine ⟨_, pss_cons (ps_expr (pe_cl cW hr (by decide) (by rfl) (pa_cons (pv 1) pa_nil)))
      (pss_cons (ps_if (pt_cmp (pc_dnotin hu (pv 1) (pe_fld (pv 0) rfl))) (pss_one (ps_raise rfl (takes_of rfl rfl rfl rfl) (pmk_own0 PySem.F.excBase_ValueError tN.ex tN.g tN.k (raises_own tN.b tN.t) rfl))) pss_nil)
      (pss_cons (ps_expr (pe_dpop1 (pe_fld (pv 0) rfl) (pv 1) ⟨rfl, rfl, rfl, rfl⟩))
      (pss_one (ps_ret (pe_callB call_lenD (by rfl) B.len boot_len (pa_cons (pe_fld (pv 0) rfl) pa_nil)))))), ?_⟩
    refine ⟨_, rfl, wd, rfl, by omega, hw, fun H1 s1 => ?_⟩
    have S1 := S.same s1
    obtain ⟨⟨dx, h1⟩, hd, _⟩ := id S1
    obtain ⟨n1, n2, n3⟩ := S1.ne
    refine ⟨_, rfl, _, rfl, p, C, dx, _, _, rfl, h1, T.cl, T.nK, flds_known _ _, d, _, rfl, DGet.k (k := Sum.inr wd) hd, _, rfl, ?_⟩
    cases e : valV kvs (Sum.inr wd : Key) with
    | none => exact iteT (k2 e H1 s1)
    | some v =>
      refine iteF ?_
      have keep : ∀ b o, H1 b = some o → b ≠ d → (upd H1 d (.dK (dropK kvs (Sum.inr wd : Key)))) b = some o := fun b o e hb => (upd_ne hb).trans e
      have S2 := S1.put keep upd_same
      refine ⟨_, rfl, p, C, dx, _, _, rfl, h1, T.cl, T.nK, flds_known _ _, d, rfl, ?_, _, rfl, kvs, Sum.inr wd, v, hd, rfl, e, ?_⟩
      · exact .inl ⟨kvs, .inl hd⟩
      refine ⟨_, rfl, p, C, dx, _, _, rfl, keep _ _ h1 n1, T.cl, T.nK, flds_known _ _, d, _, rfl, upd_same, ?_⟩
      exact k1 v e _ S2 fun b o e hb => keep b o (s1 _ _ e) hb
end
end Hy
set_option Elab.async false
set_option linter.all false
set_option maxRecDepth 100000
set_option maxHeartbeats 4000000
namespace Hy
open PySem PySem.Spec PyProof.Rows L2 CwR
section
variable {P : Program} {w : World} {K : PySem.W.Frag} {mg : Str → Option Value} {base : Heap} {C : Addr}
/-! ### gaps, breaks -/
theorem scGaps : FnScope ["self", "word"] ["self", "word"] (defScope sGaps) := ⟨rfl, rfl, rfl, by decide +kernel, rfl, by decide +kernel, by decide +kernel⟩
def spGaps (C : Addr) : Sp := fun vs H Q _ => ∃ (p d ru pt : Addr) (ps : List Str) (l r : Int) (kvs : List (Key × V)) (wd : Str), vs = [.ref p, .str wd] ∧ HyAt C H p d ru pt ps l r kvs ∧ GoodR ps l r ∧ KV kvs ∧ wd.length ≤ 20 ∧ isWord wd 20 = true ∧ GoodW ps wd ∧
  ∀ H' D, Same H H' → H D = none → H' D = some (.lst ((gapsOf kvs ps l r wd).map V.int)) → Q (.ref D) H'
theorem ok_gaps {f : Addr} {fd : FuncData} (F : Fun K "gaps" "Hyphenator.gaps" sGaps f fd) (T : Txt K mg C) (cT : Cal P w K mg base 1 "told_breaks" ["told"] spToldBreaks) (cB : Cal P w K mg base 4 "breaks_of" ["rules", "word"] spBreaksOf) :
    FnOk P w K mg base CX0 5 f fd ["self", "word"] (spGaps C) := by
  refine F.ok scGaps (fun vs H Q E h => ?_) (fun cdv A outer s H vs Q E hr h => ?_)
  · obtain ⟨_, _, _, _, _, _, _, _, _, rfl, _⟩ := h
    rfl
  · obtain ⟨p, d, ru, pt, ps, l, r, kvs, wd, rfl, S, g, kv, hl, hw, gw, k⟩ := h
    have hu := hu_of hr
    refine ⟨_, pss_one (ps_ret (pe_ifExp (pt_cmp (pc_din hu (pv 1) (pe_fld (pv 0) rfl))) (pe_cl cT hr (by decide) (by rfl) (pa_cons (pe_dget hu (pe_fld (pv 0) rfl) (pv 1) (fun _ _ => rfl)) pa_nil)) (pe_cl cB hr (by decide) (by rfl) (pa_cons (pe_fld (pv 0) rfl) (pa_cons (pv 1) pa_nil))))), ?_⟩
    obtain ⟨⟨dx, h1⟩, hd, ra⟩ := id S
    refine ⟨_, rfl, _, rfl, p, C, dx, _, _, rfl, h1, T.cl, T.nK, flds_known _ _, d, _, rfl, DGet.k (k := Sum.inr wd) hd, _, rfl, ?_⟩
    have kk := k
    unfold gapsOf at kk
    cases e : valV kvs (Sum.inr wd : Key) with
    | none =>
      rw [e] at kk
      refine iteF ⟨_, rfl, p, C, dx, _, _, rfl, h1, T.cl, T.nR, flds_rules _ _, _, rfl, ru, pt, ps, l, r, wd, rfl, ra, g, hl, gw, kk⟩
    | some v =>
      rw [e] at kk
      obtain ⟨t, rfl, gt⟩ := kv.val e
      refine iteT ⟨_, rfl, p, C, dx, _, _, rfl, h1, T.cl, T.nK, flds_known _ _, _, rfl, d, .str t, rfl, ?_, t, wd, rfl, gt, kk⟩
      have := DGet.k (k := (Sum.inr wd : Key)) hd
      rw [e] at this
      exact this
theorem scBreaks : FnScope ["self", "word"] ["self", "word"] (defScope sBreaks) := ⟨rfl, rfl, rfl, by decide +kernel, rfl, by decide +kernel, by decide +kernel⟩
theorem ok_breaks {f : Addr} {fd : FuncData} (F : Fun K "breaks" "Hyphenator.breaks" sBreaks f fd) (T : Txt K mg C) (cW : Cal P w K mg base 2 "need_word" ["value"] spNeedWord) (mG : Mth P w K mg base CX0 C 5 "gaps" ["self", "word"] (spGaps C)) :
    FnOk P w K mg base CX0 6 f fd ["self", "word"] (spGaps C) := by
  refine F.ok scBreaks (fun vs H Q E h => ?_) (fun cdv A outer s H vs Q E hr h => ?_)
  · obtain ⟨_, _, _, _, _, _, _, _, _, rfl, _⟩ := h
    rfl
  · obtain ⟨p, d, ru, pt, ps, l, r, kvs, wd, rfl, S, g, kv, hl, hw, gw, k⟩ := h
    obtain ⟨fG, fdG, GG, mm, bG⟩ := mG
    refine ⟨_, pss_cons (ps_expr (pe_cl cW hr (by decide) (by rfl) (pa_cons (pv 1) pa_nil))) (pss_one (ps_ret (pe_meth (pv 0) T.cl mm GG hr bG .nil pass0 (pa_cons (pv 1) pa_nil)))), ?_⟩
    refine ⟨_, rfl, wd, rfl, by omega, hw, fun H1 s1 => ?_⟩
    have S1 := S.same s1
    obtain ⟨⟨dx, h1⟩, hd, ra⟩ := id S1
    exact ⟨_, rfl, p, dx, _, rfl, h1, flds_no _ _ (by decide +kernel) (by decide +kernel), _, rfl, p, d, ru, pt, ps, l, r, kvs, wd, rfl, S1, g, kv, hl, hw, gw, fun H2 D s2 n2 e2 => k H2 D (s1.trans s2) (Same.free s1 n2) e2⟩
/-! ### exceptions -/
theorem scExceptions : FnScope ["self", "word"] ["self"] (defScope sExceptions) := ⟨rfl, rfl, rfl, by decide +kernel, rfl, by decide +kernel, by decide +kernel⟩
def keysS (kvs : List (Key × V)) : List Str := kvs.filterMap fun q => match q.1 with | Sum.inr w => some w | _ => none
theorem keysS_eq : ∀ {kvs : List (Key × V)}, KV kvs → kvs.map (·.1) = (keysS kvs).map Sum.inr
  | [], _ => rfl
  | q :: kvs, h => by
    obtain ⟨w, t, rfl, _⟩ := h q List.mem_cons_self
    have ih := keysS_eq (kvs := kvs) fun x hx => h x (List.mem_cons_of_mem _ hx)
    rw [List.map_cons, ih]
    rfl
theorem keysS_len {kvs : List (Key × V)} (h : KV kvs) : (keysS kvs).length = kvs.length := by
  have := congrArg List.length (keysS_eq h)
  rw [List.length_map, List.length_map] at this
  exact this.symm
theorem keyIn {kvs : List (Key × V)} {k : Key} (h : k ∈ kvs.map (·.1)) : ∃ v, valV kvs k = some v := by
  have h1 : (kvs.any fun kv => decide (kv.1 = k)) = true := by
    obtain ⟨q, hq, e⟩ := List.mem_map.mp h
    exact List.any_eq_true.mpr ⟨q, hq, decide_eq_true e⟩
  rw [valV_any] at h1
  exact Option.isSome_iff_exists.mp h1
theorem keysS_at {kvs : List (Key × V)} (h : KV kvs) {w : Str} (hm : w ∈ keysS kvs) : ∃ v, valV kvs (Sum.inr w) = some v := keyIn (by rw [keysS_eq h]; exact List.mem_map_of_mem hm)
def spExc (C : Addr) : Sp := fun vs H Q _ => ∃ (p d ru pt : Addr) (ps : List Str) (l r : Int) (kvs : List (Key × V)), vs = [.ref p] ∧ HyAt C H p d ru pt ps l r kvs ∧ KV kvs ∧ kvs.length ≤ 60 ∧
  ∀ ys H' D, ys.Perm (keysS kvs) → sortedS ys = true → Same H H' → H D = none → H' D = some (.lst (ys.map (atK kvs))) → Q (.ref D) H'
theorem ok_exceptions {f : Addr} {fd : FuncData} (F : Fun K "exceptions" "Hyphenator.exceptions" sExceptions f fd) (T : Txt K mg C) (B : Bl mg) : FnOk P w K mg base CX0 1 f fd ["self"] (spExc C) := by
  refine F.ok scExceptions (fun vs H Q E h => ?_) (fun cdv A outer s H vs Q E hr h => ?_)
  · obtain ⟨_, _, _, _, _, _, _, _, rfl, _⟩ := h
    rfl
  · obtain ⟨p, d, ru, pt, ps, l, r, kvs, rfl, S, kv, hl, k⟩ := h
    have hu := hu_of hr
    have nd := scExceptions.nd
    refine ⟨_, pss_one (ps_ret (pe_lc (own := [("word", 1)]) (g := gName 1) (by rfl) nd (pi_list (pe_callB (call_sortedD rfl) (by rfl) B.sorted boot_sorted (pa_cons (pe_fld (pv 0) rfl) pa_nil)))
      (blkOk_by (own := [("word", 1)]) (N := ["self", "word"]) (sc := defScope sExceptions) (by decide +kernel))
      (fun _ _ _ _ _ => pg_name (i := 1) nd rfl (Or.inl rfl)) (fun _ _ _ _ _ => pts_nil) (fun _ _ _ _ _ => pe_dget hu (pe_fldK (K := K) rfl (pv 0) rfl) (pv 1) (fun _ _ => rfl)))), ?_⟩
    obtain ⟨⟨dx, h1⟩, hd, ra⟩ := id S
    refine ⟨_, rfl, p, C, dx, _, _, rfl, h1, T.cl, T.nK, flds_known _ _, d, kvs, keysS kvs, rfl, .inl hd, keysS_eq kv, by rw [keysS_len kv]; omega, fun ys q hy hs hq => ⟨q, rfl, ⟨_, SqL.of upd_same⟩, fun D hD => ?_⟩⟩
    have s0 : Same H (upd H q (.lst (ys.map V.str))) := same_new hq (Same.refl H)
    refine lc_list (xs := ys.map V.str) (fun i H' => Same (upd H q (.lst (ys.map V.str))) H' ∧ H' D = some (.lst ((ys.take i).map (atK kvs)))) ⟨same_new hD (Same.refl _), upd_same⟩ (fun i H' _ hP => SqL.of (hP.1 _ _ upd_same)) ?_ ?_
    · rintro i x H1 hi ⟨s1, d1⟩
      rw [List.getElem?_map] at hi
      obtain ⟨wd, hwd, rfl⟩ := Option.map_eq_some_iff.mp hi
      have hm : wd ∈ keysS kvs := hy.mem_iff.mp (List.mem_of_getElem? hwd)
      obtain ⟨v, hv⟩ := keysS_at kv hm
      have s2 := s0.trans s1
      have hg := DGet.k (k := (Sum.inr wd : Key)) (s2 _ _ hd)
      rw [hv] at hg
      refine ⟨rfl, _, rfl, p, C, dx, _, _, rfl, s2 _ _ h1, T.cl, T.nK, flds_known _ _, _, rfl, d, v, rfl, hg, _, d1, ?_, same_new hD s1, ?_⟩
      · rw [List.length_map]
        have h2 := List.length_take_le' i ys
        have h3 := hy.length_eq
        rw [keysS_len kv] at h3
        exact small1000 (by omega)
      · rw [upd_same, take_next hwd, List.map_append]
        show some (HO.lst (_ ++ [v])) = some (HO.lst (_ ++ [(valV kvs (Sum.inr wd)).getD .non]))
        rw [hv]
        rfl
    · rintro H1 ⟨s1, d1⟩
      rw [List.length_map, List.take_length] at d1
      exact k ys H1 D hy hs (s0.trans s1) (Same.free s0 hD) d1
/-! ### copy, len -/
theorem scCopy : FnScope ["self", "other"] ["self"] (defScope sCopy) := ⟨rfl, rfl, rfl, by decide +kernel, rfl, by decide +kernel, by decide +kernel⟩
def spCopy (C : Addr) : Sp := fun vs H Q _ => ∃ (p d ru pt : Addr) (ps : List Str) (l r : Int) (kvs : List (Key × V)), vs = [.ref p] ∧ HyAt C H p d ru pt ps l r kvs ∧ GoodR ps l r ∧
  ∀ H' p' d', Same H H' → H p' = none → H d' = none → HyAt C H' p' d' ru pt ps l r kvs → Q (.ref p') H'
theorem ok_copy {f : Addr} {fd : FuncData} (F : Fun K "copy" "Hyphenator.copy" sCopy f fd) (T : Txt K mg C) (B : Bl mg) {fI : Addr} {fdI : FuncData} (M : Mk K C fI) (bI : Binds K fdI ["self", "rules"] []) (GI : FnOk P w K mg base CX0 5 fI fdI ["self", "rules"] (spInit C)) :
    FnOk P w K mg base CX0 7 f fd ["self"] (spCopy C) := by
  refine F.ok scCopy (fun vs H Q E h => ?_) (fun cdv A outer s H vs Q E hr h => ?_)
  · obtain ⟨_, _, _, _, _, _, _, _, rfl, _⟩ := h
    rfl
  · obtain ⟨p, d, ru, pt, ps, l, r, kvs, rfl, S, g, k⟩ := h
    have hu := hu_of hr
    have nd := scCopy.nd
    refine ⟨_, pss_cons (ps_set (i := 1) nd rfl (.inl rfl) (pe_make M GI hr (by rfl) T.mgC bI .nil pass0 (pa_cons (pe_fld (pv 0) rfl) pa_nil)))
      (pss_cons (ps_fld (pv 1) (pe_callTy call_dictD (by rfl) B.dict boot_dict (pa_cons (pe_fld (pv 0) rfl) pa_nil)) rfl)
      (pss_one (ps_ret (pv 1)))), ?_⟩
    obtain ⟨⟨dx, h1⟩, hd, ra⟩ := id S
    refine ⟨_, rfl, p, C, dx, _, _, rfl, h1, T.cl, T.nR, flds_rules _ _, ?_⟩
    intro x dy nx ndy ney
    have s0 : Same H (upd (upd H dy (.own x)) x (.ins C dy [])) := fun b o e => by
      rw [upd_ne (ne_of_none e nx), upd_ne (ne_of_none e ndy)]
      exact e
    refine ⟨x, dy, ru, pt, ps, l, r, rfl, upd_same, ra.same s0, g, fun H1 d1 n1 S1 keep => ⟨rfl, ?_⟩⟩
    have s1 : Same H H1 := fun b o e => keep b o (s0 b o e) (ne_of_none e nx)
    refine ⟨_, rfl, p, C, dx, _, _, rfl, s1 _ _ h1, T.cl, T.nK, flds_known _ _, d, kvs, rfl, .inl (s1 _ _ hd), fun e he => ?_⟩
    obtain ⟨⟨dz, g1⟩, _, _⟩ := id S1
    have hxe : x ≠ e := ne_of_none g1 he
    refine ⟨_, rfl, x, C, dz, _, rfl, (upd_ne hxe).trans g1, T.cl, T.nK, (by rw [flds_eq]; show 2 < 1000; decide), _, rfl, ?_⟩
    have s2 : Same H (upd (upd H1 e (.dK kvs)) x (.ins C dz (flds ru e))) := fun b o q => by
      rw [upd_ne (ne_of_none q nx), upd_ne (ne_of_none (s1 _ _ q) he)]
      exact s1 _ _ q
    rw [flds_put]
    exact k _ x e s2 nx (Same.free s1 he) ⟨⟨dz, upd_same⟩, (upd_ne (Ne.symm hxe)).trans upd_same, ra.same s2⟩
theorem scLen : FnScope ["self"] ["self"] (defScope sLen) := ⟨rfl, rfl, rfl, by decide +kernel, rfl, by decide +kernel, by decide +kernel⟩
def spLen (C : Addr) : Sp := fun vs H Q _ => ∃ (p d ru pt : Addr) (ps : List Str) (l r : Int) (kvs : List (Key × V)), vs = [.ref p] ∧ HyAt C H p d ru pt ps l r kvs ∧ Q (.int (kvs.length : Nat)) H
theorem ok_len {f : Addr} {fd : FuncData} (F : Fun K "__len__" "Hyphenator.__len__" sLen f fd) (T : Txt K mg C) (B : Bl mg) : FnOk P w K mg base CX0 1 f fd ["self"] (spLen C) := by
  refine F.ok scLen (fun vs H Q E h => ?_) (fun cdv A outer s H vs Q E hr h => ?_)
  · obtain ⟨_, _, _, _, _, _, _, _, rfl, _⟩ := h
    rfl
  · obtain ⟨p, d, ru, pt, ps, l, r, kvs, rfl, S, k⟩ := h
    refine ⟨_, pss_one (ps_ret (pe_callB call_lenD (by rfl) B.len boot_len (pa_cons (pe_fld (pv 0) rfl) pa_nil))), ?_⟩
    obtain ⟨⟨dx, h1⟩, hd, ra⟩ := id S
    exact ⟨_, rfl, p, C, dx, _, _, rfl, h1, T.cl, T.nK, flds_known _ _, d, _, rfl, hd, k⟩
end
end Hy
set_option Elab.async false
set_option linter.all false
set_option maxRecDepth 100000
set_option maxHeartbeats 4000000
namespace Hy
open PySem PySem.Spec PyProof.Rows L2 CwR
/-! ### _law_draw, _law_pick -/
abbrev dInts (ns : List Int) : List PyData := ns.map PyData.int
theorem dp_ints {K : PySem.W.Frag} {H : Hp} : ∀ ns : List Int, DpAll K H (ns.map V.int) (dInts ns)
  | [] => .nil
  | n :: ns => .cons (.int n) (dp_ints ns)
theorem shaped_ints (ns : List Int) : SeqAt.shaped (.list (dInts ns)) = true := by
  have h1 : ∀ ns : List Int, PyData.canLayAll0 (dInts ns) = true := by
    intro ns
    induction ns with
    | nil => rfl
    | cons n ns ih =>
      show (PyData.canLay0 (.int n) && PyData.canLayAll0 (dInts ns)) = true
      rw [ih]; rfl
  have h2 : ∀ ns : List Int, PyData.depthAll (dInts ns) = 0 := by
    intro ns
    induction ns with
    | nil => rfl
    | cons n ns ih =>
      show max (PyData.depth (.int n)) (PyData.depthAll (dInts ns)) = 0
      rw [ih]; rfl
  unfold SeqAt.shaped
  rw [Bool.and_eq_true]
  refine ⟨h1 ns, decide_eq_true ?_⟩
  show PyData.depthAll (dInts ns) + 1 ≤ 64
  rw [h2]
  decide
theorem eqv_nil (ns : List Int) : PyData.eqv (.list (dInts ns)) (.list []) = ns.isEmpty := by
  cases ns <;> rfl
theorem emod_pos {a b : Int} (h : 0 < b) : 0 ≤ a % b ∧ a % b < b := ⟨Int.emod_nonneg _ (by omega), Int.emod_lt_of_pos _ h⟩
theorem cpow5 (y : Int) : CPow (y % 2147483647) 5 := ⟨by decide, by decide, by
  have := emod_pos (a := y) (b := 2147483647) (by decide)
  omega⟩
/-- the town: where the script is read -/
def Town (H : Hp) (T : Addr) : Prop := ∃ a c : Int, H T = some (.lst [.int a, .int c]) ∧ 0 ≤ a
/-- all but what is at T stands -/
def But (T : Addr) (H H' : Hp) : Prop := ∀ b o, H b = some o → b ≠ T → H' b = some o
theorem But.refl {T : Addr} (H : Hp) : But T H H := fun _ _ e _ => e
theorem But.trans {T : Addr} {H H' H'' : Hp} (x : But T H H') (y : But T H' H'') : But T H H'' := fun b o e n => y b o (x b o e n) n
theorem Same.but {T : Addr} {H H' : Hp} (x : Same H H') : But T H H' := fun b o e _ => x b o e
theorem But.upd {T : Addr} {H H' : Hp} (x : But T H H') (o : HO) : But T H (upd H' T o) := fun b u e n => (upd_ne n).trans (x b u e n)
theorem Town.some {H : Hp} {T : Addr} (t : Town H T) : ∃ o, H T = some o := let ⟨_, _, e, _⟩ := t; ⟨_, e⟩
theorem But.free {T : Addr} {H H' : Hp} (x : But T H H') (t : Town H' T) {D : Addr} (h : H' D = none) : H D = none := by
  cases e : H D with
  | none => rfl
  | some o =>
    by_cases n : D = T
    · subst n
      obtain ⟨o, q⟩ := t.some
      rw [q] at h; cases h
    · rw [x D o e n] at h; cases h
theorem SqL.keep {K : PySem.W.Frag} {H H' : Hp} {a : Addr} {xs : List V} (h : SqL K H a xs) (k : ∀ o, H a = some o → H' a = some o) : SqL K H' a xs := by
  rcases h with (h | ⟨o, h⟩) | h
  · exact .inl (.inl (k _ h))
  · exact .inl (.inr ⟨o, k _ h⟩)
  · exact .inr h
theorem But.upSame {T : Addr} {H H' H'' : Hp} (x : But T H H') (y : Same H' H'') : But T H H'' := x.trans (Same.but y)
section
variable {P : Program} {w : World} {K : PySem.W.Frag} {mg : Str → Option Value} {base : Heap} {C : Addr}
/-- the script at s, apart from the town -/
def Scr (K : PySem.W.Frag) (H : Hp) (s T : Addr) (ns : List Int) : Prop := (s ≠ T ∧ SqL K H s (ns.map V.int)) ∨ ∀ H : Hp, SqL K H s (ns.map V.int)
theorem Scr.sq {H : Hp} {s T : Addr} {ns : List Int} (x : Scr K H s T ns) : SqL K H s (ns.map V.int) := by
  rcases x with x | x
  · exact x.2
  · exact x H
theorem Scr.but {H H' : Hp} {s T : Addr} {ns : List Int} (x : Scr K H s T ns) (b : But T H H') : Scr K H' s T ns := by
  rcases x with x | x
  · exact .inl ⟨x.1, SqL.keep x.2 fun o e => b s o e x.1⟩
  · exact .inr x
theorem Scr.new {H H' : Hp} {s T : Addr} {ns : List Int} (x : SqL K H s (ns.map V.int)) (n : H T = none) (k : Same H H') : Scr K H' s T ns := by
  rcases x with (h | ⟨o, h⟩) | h
  · exact .inl ⟨ne_of_none h n, .inl (.inl (k _ _ h))⟩
  · exact .inl ⟨ne_of_none h n, .inl (.inr ⟨o, k _ _ h⟩)⟩
  · exact .inr fun H => .inr h
abbrev nDraw : List Str := ["_law_script", "_law_town", "_law_many", "_law_one", "_law_at", "_law_mixed"]
theorem scDraw : FnScope nDraw ["_law_script", "_law_town", "_law_many"] (defScope sDraw) := ⟨rfl, rfl, rfl, by decide +kernel, rfl, by decide +kernel, by decide +kernel⟩
def spDraw (K : PySem.W.Frag) : Sp := fun vs H Q _ => ∃ (s T : Addr) (ns : List Int) (m : Int), vs = [.ref s, .ref T, .int m] ∧ Scr K H s T ns ∧ Town H T ∧ 0 < m ∧ m < 1000 ∧
  ∀ (r : Int) H', 0 ≤ r → r < m → But T H H' → Town H' T → Q (.int r) H'
theorem ok_draw (D : Df K mg "_law_draw" sDraw ["_law_script", "_law_town", "_law_many"]) (B : Bl mg) : Cal P w K mg base 1 "_law_draw" ["_law_script", "_law_town", "_law_many"] (spDraw K) := by
  refine Cal.of D fun f fd F => F.ok scDraw (fun vs H Q E h => ?_) (fun cdv A outer s H vs Q E hr h => ?_)
  · obtain ⟨_, _, _, _, rfl, _⟩ := h
    rfl
  · obtain ⟨sc, T, ns, m, rfl, hS, ⟨a, c, hT, ha⟩, m0, m1, q⟩ := h
    have nd := scDraw.nd
    have hu : (A.deeper (envOfC "_law_draw" (defScope sDraw) s.heap.objs.size f cdv)).units + 64 < cLine := by have := hr.un; omega
    refine ⟨_, pss_cons (ps_if (pt_cmpR op_gt (pe_ix ix_list (pv 1) pe_int (fun _ _ => rfl)) pe_int (nomark _))
        (pss_cons (ps_set (i := 3) nd rfl (.inl rfl) (pe_op op_mod (pe_ix ix_list (pv 1) pe_int (fun _ _ => rfl)) (pv 2)))
        (pss_cons (ps_asg (pe_op op_fdiv (pe_ix ix_list (pv 1) pe_int (fun _ _ => rfl)) (pv 2)) (pg_sub (pv 1) pe_int set_list))
        (pss_one (ps_ret (pv 3))))) pss_nil)
      (pss_cons (ps_set (i := 4) nd rfl (.inl rfl) (pe_ix ix_list (pv 1) pe_int (fun _ _ => rfl)))
      (pss_cons (ps_augS (pv 1) pe_int get_list pe_int ip_add set_list)
      (pss_cons (ps_if (pt_cmpR (op_eqD hu) (pv 0) (pe_lst pa_nil) (nomark _)) (pss_one (ps_ret (pe_op op_mod (pv 4) (pv 2)))) pss_nil)
      (pss_cons (ps_if (PW.pt (pw_and (pt_cmpR op_lt (pv 4) (pe_callB call_len_seq (by rfl) B.len boot_len (pa_cons (pv 0) pa_nil)) (nomark _))
          (pw_and1 (pt_cmpR op_ge (pe_ix ix_list (pv 0) (pv 4) (fun _ _ => rfl)) (pe_op op_pow pe_int pe_int) (nomark _)))))
        (pss_cons (ps_asg (pe_op op_mod (pe_op op_fdiv (pe_ix ix_list (pv 0) (pv 4) (fun _ _ => rfl)) (pv 2)) (pe_op op_mulW (pe_op op_pow pe_int pe_int) (pe_op op_pow pe_int pe_int))) (pg_sub (pv 1) pe_int set_list))
        (pss_one (ps_ret (pe_op op_mod (pe_ix ix_list (pv 0) (pv 4) (fun _ _ => rfl)) (pv 2))))) pss_nil)
      (pss_cons (ps_set (i := 5) nd rfl (.inl rfl) (pe_op op_mod (pe_op op_add (pe_op op_add (pe_op op_mul (pe_ix ix_list (pv 0) (pe_op op_mod (pv 4) (pe_callB call_len_seq (by rfl) B.len boot_len (pa_cons (pv 0) pa_nil))) (fun _ _ => rfl)) pe_int) (pe_op op_mul pe_int (pv 4))) pe_int) pe_int))
      (pss_one (ps_ret (pe_op op_mod (pe_op op_mod (pe_op op_mod (pe_op op_pow (pv 5) pe_int) pe_int) pe_int) (pv 2))))))))), ?_⟩
    refine ⟨_, rfl, T, _, 1, .int c, rfl, rfl, SqL.of hT, rfl, _, _, rfl, rfl, _, rfl, ?_⟩
    refine ite2 (fun hb => ?_) fun hb => ?_
    · have hc : (0 : Int) < c := of_decide_eq_true hb
      have hm := emod_pos (a := c) m0
      refine ⟨_, rfl, T, _, 1, .int c, rfl, rfl, SqL.of hT, rfl, _, rfl, _, _, rfl, rfl, m0, ?_⟩
      refine ⟨_, rfl, T, _, 1, .int c, rfl, rfl, SqL.of hT, rfl, _, rfl, _, _, rfl, rfl, ⟨m0, by omega⟩, ?_⟩
      refine ⟨_, rfl, T, _, 1, 1, rfl, rfl, hT, rfl, _, rfl, ?_⟩
      exact q _ _ hm.1 hm.2 ((But.refl H).upd _) ⟨a, c / m, upd_same, ha⟩
    refine ⟨_, rfl, T, _, 0, .int a, rfl, rfl, SqL.of hT, rfl, ?_⟩
    refine ⟨_, rfl, T, _, 0, .int a, rfl, rfl, SqL.of hT, rfl, _, _, rfl, rfl, T, _, 0, 0, rfl, rfl, hT, rfl, ?_⟩
    have eH1 : (upd H T (HO.lst ([V.int a, V.int c].set 0 (V.int ((fun i j => i + j) a 1))))) = upd H T (.lst [.int (a + 1), .int c]) := rfl
    rw [eH1]
    have bT : But T H (upd H T (.lst [.int (a + 1), .int c])) := (But.refl H).upd _
    have hS1 : SqL K (upd H T (.lst [.int (a + 1), .int c])) sc (ns.map V.int) := (hS.but bT).sq
    have tw1 : Town (upd H T (.lst [.int (a + 1), .int c])) T := ⟨a + 1, c, upd_same, by omega⟩
    refine ⟨_, rfl, Nat.zero_le _, fun L hL => ⟨.list (dInts ns), .list [], .lst (SqL.keep hS1 fun o e => (upd_ne (ne_of_none e hL)).trans e) (dp_ints ns), .lst (SqL.of upd_same) .nil, shaped_ints ns, by decide +kernel, _, rfl, ?_⟩⟩
    rw [eqv_nil]
    have b2 : But T H (upd (upd H T (.lst [.int (a + 1), .int c])) L (.lst [])) := bT.upSame (same_new hL (Same.refl _))
    have hTL : T ≠ L := ne_of_none (show upd H T (.lst [.int (a + 1), .int c]) T = some _ from upd_same) hL
    have eT2 : upd (upd H T (.lst [.int (a + 1), .int c])) L (.lst []) T = some (.lst [.int (a + 1), .int c]) := (upd_ne hTL).trans upd_same
    generalize upd (upd H T (.lst [.int (a + 1), .int c])) L (.lst []) = H2 at b2 eT2 ⊢
    have tw2 : Town H2 T := ⟨a + 1, c, eT2, by omega⟩
    have hS2 : SqL K H2 sc (ns.map V.int) := (hS.but b2).sq
    refine ite2 (fun hb2 => ?_) fun hb2 => ?_
    · have hm := emod_pos (a := a) m0
      exact ⟨_, rfl, _, rfl, _, _, rfl, rfl, m0, q _ _ hm.1 hm.2 b2 tw2⟩
    have hn : 0 < ns.length := by
      cases ns with
      | nil => exact absurd rfl hb2
      | cons x xs => exact Nat.succ_pos _
    have hat : ∀ k : Int, 0 ≤ k → k < (ns.length : Int) → atI (ns.map V.int) k = some (.int (ns.getD k.toNat 0)) := fun k h0 h1 => by
      have hk : k.toNat < ns.length := by omega
      have ek : k = ((k.toNat : Nat) : Int) := by omega
      have hget : (ns.map V.int)[k.toNat]? = some (.int (ns.getD k.toNat 0)) := by
        rw [List.getElem?_map, List.getElem?_eq_getElem hk, List.getD_eq_getElem?_getD, List.getElem?_eq_getElem hk]; rfl
      rw [ek]
      exact atI_nat hget
    refine ⟨_, rfl, _, rfl, sc, _, rfl, .inl hS2, _, _, rfl, rfl, _, rfl, ite2 (fun h1 => ?_) fun h1 => ?_⟩
    · have h1' : a < (ns.length : Int) := by
        have := of_decide_eq_true h1
        rw [List.length_map] at this
        exact this
      refine ⟨_, rfl, _, rfl, sc, _, a, _, rfl, rfl, hS2, hat a ha h1', _, _, rfl, rfl, ⟨by decide, by decide, by decide⟩, _, _, rfl, rfl, _, rfl, ite2 (fun h2 => ?_) fun h2 => ?_⟩
      · have hp : (0 : Int) < 10 ^ (60 : Int).toNat * 10 ^ (60 : Int).toNat := Int.mul_pos (Int.pow_pos (by decide)) (Int.pow_pos (by decide))
        have hw : ((10 : Int) ^ (60 : Int).toNat).natAbs < 2 ^ 200 := by decide +kernel
        have hm := emod_pos (a := ns.getD a.toNat 0) m0
        refine ⟨_, rfl, _, rfl, sc, _, a, _, rfl, rfl, hS2, hat a ha h1', _, rfl, _, _, rfl, rfl, ⟨m0, by omega⟩, _, _, rfl, rfl, ⟨by decide, by decide, by decide⟩, _, _, rfl, rfl, ⟨by decide, by decide, by decide⟩,
          _, _, rfl, rfl, wide_mul hw hw (by decide) (by decide) (by decide), _, _, rfl, rfl, hp, _, rfl, T, _, 1, 1, rfl, rfl, eT2, rfl, ?_⟩
        have b3 := b2.upd (T := T) (.lst [.int (a + 1), .int (ns.getD a.toNat 0 / m % (10 ^ (60 : Int).toNat * 10 ^ (60 : Int).toNat))])
        refine ⟨_, rfl, _, rfl, sc, _, a, _, rfl, rfl, (hS.but b3).sq, hat a ha h1', _, rfl, _, _, rfl, rfl, m0, ?_⟩
        exact q _ _ hm.1 hm.2 b3 ⟨a + 1, _, upd_same, by omega⟩
      · have hk := emod_pos (a := a) (b := (ns.length : Int)) (by omega)
        refine ⟨_, rfl, _, rfl, _, rfl, sc, _, rfl, .inl hS2, _, _, rfl, rfl, (by show (0 : Int) < ((ns.map V.int).length : Nat); rw [List.length_map]; omega), sc, _, a % ((ns.map V.int).length : Nat), .int (ns.getD (a % (ns.length : Int)).toNat 0), rfl, rfl, hS2, (by rw [List.length_map]; exact hat _ hk.1 hk.2),
          _, _, rfl, rfl, .inr (by decide), _, rfl, _, _, rfl, rfl, .inl (by decide), _, _, rfl, rfl, _, _, rfl, rfl, _, _, rfl, rfl, (by show (0 : Int) < 2147483647; decide), ?_⟩
        refine ⟨_, rfl, _, _, rfl, rfl, cpow5 _, _, _, rfl, rfl, (by show (0 : Int) < 2147483647; decide), _, _, rfl, rfl, (by show (0 : Int) < 999983; decide), _, rfl, _, _, rfl, rfl, m0, ?_⟩
        exact q _ _ (emod_pos m0).1 (emod_pos m0).2 b2 tw2
    · have hk := emod_pos (a := a) (b := (ns.length : Int)) (by omega)
      refine ⟨_, rfl, _, rfl, _, rfl, sc, _, rfl, .inl hS2, _, _, rfl, rfl, (by show (0 : Int) < ((ns.map V.int).length : Nat); rw [List.length_map]; omega), sc, _, a % ((ns.map V.int).length : Nat), .int (ns.getD (a % (ns.length : Int)).toNat 0), rfl, rfl, hS2, (by rw [List.length_map]; exact hat _ hk.1 hk.2),
        _, _, rfl, rfl, .inr (by decide), _, rfl, _, _, rfl, rfl, .inl (by decide), _, _, rfl, rfl, _, _, rfl, rfl, _, _, rfl, rfl, (by show (0 : Int) < 2147483647; decide), ?_⟩
      refine ⟨_, rfl, _, _, rfl, rfl, cpow5 _, _, _, rfl, rfl, (by show (0 : Int) < 2147483647; decide), _, _, rfl, rfl, (by show (0 : Int) < 999983; decide), _, rfl, _, _, rfl, rfl, m0, ?_⟩
      exact q _ _ (emod_pos m0).1 (emod_pos m0).2 b2 tw2
/-! ### _law_pick -/
theorem atI_int {α : Type} {xs : List α} {r : Int} {v : α} (h0 : 0 ≤ r) (h : xs[r.toNat]? = some v) : atI xs r = some v := by
  obtain ⟨n, rfl⟩ := Int.eq_ofNat_of_zero_le h0
  exact atI_nat h
theorem scPick : FnScope ["_law_script", "_law_town", "_law_some"] ["_law_script", "_law_town", "_law_some"] (defScope sPick) := ⟨rfl, rfl, rfl, by decide +kernel, rfl, by decide +kernel, by decide +kernel⟩
/-- one of a list, or a sign of a text -/
def spPick (K : PySem.W.Frag) : Sp := fun vs H Q _ => ∃ (s T : Addr) (ns : List Int), Scr K H s T ns ∧ Town H T ∧
  ((∃ (L : Addr) (xs : List V), vs = [.ref s, .ref T, .ref L] ∧ H L = some (.lst xs) ∧ L ≠ T ∧ 0 < xs.length ∧ xs.length < 1000 ∧ ∀ x H', x ∈ xs → But T H H' → Town H' T → Q x H') ∨
   (∃ z : Str, vs = [.ref s, .ref T, .str z] ∧ 0 < z.length ∧ z.length < 1000 ∧ ∀ c H', c ∈ tl z → But T H H' → Town H' T → Q (.str (S [c])) H'))
theorem ok_pick (D : Df K mg "_law_pick" sPick ["_law_script", "_law_town", "_law_some"]) (B : Bl mg) (cD : Cal P w K mg base 1 "_law_draw" ["_law_script", "_law_town", "_law_many"] (spDraw K)) :
    Cal P w K mg base 2 "_law_pick" ["_law_script", "_law_town", "_law_some"] (spPick K) := by
  refine Cal.of D fun f fd F => F.ok scPick (fun vs H Q E h => ?_) (fun cdv A outer s H vs Q E hr h => ?_)
  · obtain ⟨_, _, _, _, _, ⟨_, _, rfl, _⟩ | ⟨_, rfl, _⟩⟩ := h <;> rfl
  · obtain ⟨sc, T, ns, hS, tw, ⟨L, xs, rfl, hL, hLT, x0, x1, q⟩ | ⟨z, rfl, z0, z1, q⟩⟩ := h
    · refine ⟨_, pss_one (ps_ret (pe_ix ix_list (pv 2) (pe_cl cD hr (by decide) (by rfl) (pa_cons (pv 0) (pa_cons (pv 1) (pa_cons (pe_callB call_len_seq (by rfl) B.len boot_len (pa_cons (pv 2) pa_nil)) pa_nil)))) (fun _ _ => rfl))), ?_⟩
      refine ⟨_, rfl, _, rfl, _, rfl, _, rfl, L, xs, rfl, .inl (SqL.of hL), sc, T, ns, _, rfl, hS, tw, by omega, by omega, fun r H' r0 r1 b t => ?_⟩
      have hk : r.toNat < xs.length := by omega
      have ek : r = ((r.toNat : Nat) : Int) := by omega
      exact ⟨L, xs, r, xs[r.toNat], rfl, rfl, SqL.of (b L _ hL hLT), atI_int r0 (List.getElem?_eq_getElem hk), q _ _ (List.getElem_mem hk) b t⟩
    · refine ⟨_, pss_one (ps_ret (pe_ix ix_str (pv 2) (pe_cl cD hr (by decide) (by rfl) (pa_cons (pv 0) (pa_cons (pv 1) (pa_cons (pe_callB call_len_str (by rfl) B.len boot_len (pa_cons (pv 2) pa_nil)) pa_nil)))) (fun _ _ => rfl))), ?_⟩
      have hz : z.length ≤ sizeLine := Nat.le_of_lt (small1000 (by omega))
      refine ⟨_, rfl, _, rfl, _, rfl, _, rfl, z, rfl, hz, sc, T, ns, _, rfl, hS, tw, by omega, by omega, fun r H' r0 r1 b t => ?_⟩
      have hk : r.toNat < (tl z).length := by rw [← len_tl]; omega
      have ek : r = ((r.toNat : Nat) : Int) := by omega
      exact ⟨z, r, (tl z)[r.toNat], rfl, rfl, hz, atI_int r0 (List.getElem?_eq_getElem hk), q _ _ (List.getElem_mem hk) b t⟩
end
end Hy
set_option Elab.async false
set_option linter.all false
set_option maxRecDepth 100000
set_option maxHeartbeats 4000000
namespace Hy
open PySem PySem.Spec PyProof.Rows L2 CwR
/-! ### what _law_pattern makes -/
def na : Bool → List Nat → Bool
  | _, [] => true
  | b, c :: r => !(b && decide (c ∈ digs)) && na (decide (c ∈ digs)) r
def lastD (b : Bool) (l : List Nat) : Bool := l.foldl (fun _ c => decide (c ∈ digs)) b
theorem na_app : ∀ (l : List Nat) (b : Bool) (r : List Nat), na b (l ++ r) = (na b l && na (lastD b l) r)
  | [], b, r => by show na b r = (true && na b r); rw [Bool.true_and]
  | c :: l, b, r => by
    show (!(b && decide (c ∈ digs)) && na (decide (c ∈ digs)) (l ++ r)) = (!(b && decide (c ∈ digs)) && na (decide (c ∈ digs)) l && na (lastD (decide (c ∈ digs)) l) r)
    rw [na_app l, Bool.and_assoc]
theorem lastD_snoc (b : Bool) (l : List Nat) (c : Nat) : lastD b (l ++ [c]) = decide (c ∈ digs) := by
  unfold lastD
  rw [List.foldl_append]; rfl
abbrev notD (c : Nat) : Bool := !decide (c ∈ digs)
structure PT (m i : Nat) (l : List Nat) : Prop where
  al : ∀ c ∈ l, c = 97 ∨ c = 98 ∨ c ∈ digs
  cnt : (l.filter notD).length = min i m
  ad : na false l = true
  ed : i ≤ m → lastD false l = false
  len : l.length ≤ 2 * i
  dig : i = m + 1 → l.any (fun c => decide (c ∈ digs)) = true
theorem PT.zero {m : Nat} : PT m 0 [] := ⟨fun _ h => (nomatch h), (by rw [Nat.zero_min]; rfl), rfl, fun _ => rfl, Nat.zero_le _, fun h => by omega⟩
theorem mem_ab {c : Nat} (h : c = 97 ∨ c = 98) : c ∉ digs := by
  rcases h with rfl | rfl <;> decide
/-- a turn: a digit or none, then a letter -/
theorem PT.letter {m i : Nat} {l : List Nat} (p : PT m i l) (hi : i < m) {x : Nat} (hx : x = 97 ∨ x = 98) : PT m (i + 1) (l ++ [x]) := by
  have hn := mem_ab hx
  refine ⟨fun c hc => ?_, ?_, ?_, fun _ => ?_, ?_, fun h => by omega⟩
  · rcases List.mem_append.mp hc with h | h
    · exact p.al c h
    · rw [List.mem_singleton] at h
      subst h
      rcases hx with h | h
      · exact .inl h
      · exact .inr (.inl h)
  · rw [List.filter_append, List.length_append, p.cnt]
    have : [x].filter notD = [x] := by
      rw [List.filter_cons_of_pos (by simpa using hn)]; rfl
    rw [this, List.length_singleton]
    omega
  · rw [na_app, p.ad, p.ed (by omega)]
    show (true && (!(false && decide (x ∈ digs)) && true)) = true
    simp
  · rw [lastD_snoc, decide_eq_false hn]
  · rw [List.length_append, List.length_singleton]
    have := p.len
    omega
theorem PT.digitLetter {m i : Nat} {l : List Nat} (p : PT m i l) (hi : i < m) {d x : Nat} (hd : d ∈ digs) (hx : x = 97 ∨ x = 98) : PT m (i + 1) (l ++ [d] ++ [x]) := by
  have hn := mem_ab hx
  refine ⟨fun c hc => ?_, ?_, ?_, fun _ => ?_, ?_, fun h => by omega⟩
  · rcases List.mem_append.mp hc with h | h
    · rcases List.mem_append.mp h with h | h
      · exact p.al c h
      · rw [List.mem_singleton] at h
        subst h
        exact .inr (.inr hd)
    · rw [List.mem_singleton] at h
      subst h
      rcases hx with h | h
      · exact .inl h
      · exact .inr (.inl h)
  · rw [List.filter_append, List.filter_append, List.length_append, List.length_append, p.cnt]
    have h1 : [x].filter notD = [x] := by
      rw [List.filter_cons_of_pos (by simpa using hn)]; rfl
    have h2 : [d].filter notD = [] := by
      rw [List.filter_cons_of_neg (by show ¬ (!decide (d ∈ digs)) = true; rw [decide_eq_true hd]; decide)]; rfl
    rw [h1, h2, List.length_singleton, List.length_nil]
    omega
  · rw [na_app, na_app, p.ad, p.ed (by omega), lastD_snoc]
    show (true && (!(false && decide (d ∈ digs)) && true) && (!(decide (d ∈ digs) && decide (x ∈ digs)) && true)) = true
    rw [decide_eq_false hn]
    simp
  · rw [lastD_snoc, decide_eq_false hn]
  · rw [List.length_append, List.length_append, List.length_singleton, List.length_singleton]
    have := p.len
    omega
theorem PT.lastNone {m : Nat} {l : List Nat} (p : PT m m l) (h : l.any (fun c => decide (c ∈ digs)) = true) : PT m (m + 1) l :=
  ⟨p.al, by rw [p.cnt]; omega, p.ad, fun h => by omega, by have := p.len; omega, fun _ => h⟩
theorem PT.lastDigit {m : Nat} {l : List Nat} (p : PT m m l) {d : Nat} (hd : d ∈ digs) : PT m (m + 1) (l ++ [d]) := by
  refine ⟨fun c hc => ?_, ?_, ?_, fun h => by omega, ?_, fun _ => ?_⟩
  · rcases List.mem_append.mp hc with h | h
    · exact p.al c h
    · rw [List.mem_singleton] at h
      subst h
      exact .inr (.inr hd)
  · rw [List.filter_append, List.length_append, p.cnt]
    have h2 : [d].filter notD = [] := by
      rw [List.filter_cons_of_neg (by show ¬ (!decide (d ∈ digs)) = true; rw [decide_eq_true hd]; decide)]; rfl
    rw [h2, List.length_nil]
    omega
  · rw [na_app, p.ad, p.ed (by omega)]
    show (true && (!(false && decide (d ∈ digs)) && true)) = true
    simp
  · rw [List.length_append, List.length_singleton]
    have := p.len
    omega
  · rw [List.any_append]
    show (_ || (decide (d ∈ digs) || false)) = true
    rw [decide_eq_true hd]
    simp
def dt (b : Bool) : List Nat := if b then [46] else []
def Shape (p : Str) : Prop := ∃ (m : Nat) (l : List Nat) (x y : Bool), 1 ≤ m ∧ m ≤ 4 ∧ PT m (m + 1) l ∧ p = S (dt x ++ l ++ dt y)
theorem str_app (a b : List Nat) : S a ++ S b = S (a ++ b) := by
  refine str_tl.mpr ?_
  show ((S a).cps ++ (S b).cps).toList = a ++ b
  simp
theorem len_S (l : List Nat) : (S l).length = l.length := by rw [len_tl]
section
variable {P : Program} {w : World} {K : PySem.W.Frag} {mg : Str → Option Value} {base : Heap} {C : Addr}
abbrev nPattern : List Str := ["_law_script", "_law_town", "_law_letters", "_law_text", "_law_many", "_law_at", "_law_where", "_law_char"]
theorem scPattern : FnScope nPattern ["_law_script", "_law_town", "_law_letters"] (defScope sPattern) := ⟨rfl, rfl, rfl, by decide +kernel, rfl, by decide +kernel, by decide +kernel⟩
def spPattern (K : PySem.W.Frag) : Sp := fun vs H Q _ => ∃ (s T : Addr) (ns : List Int), vs = [.ref s, .ref T, .str "ab"] ∧ Scr K H s T ns ∧ Town H T ∧ ∀ p H', Shape p → But T H H' → Town H' T → Q (.str p) H'
theorem ok_pattern (D : Df K mg "_law_pattern" sPattern ["_law_script", "_law_town", "_law_letters"]) (B : Bl mg) (cD : Cal P w K mg base 1 "_law_draw" ["_law_script", "_law_town", "_law_many"] (spDraw K))
    (cP : Cal P w K mg base 2 "_law_pick" ["_law_script", "_law_town", "_law_some"] (spPick K)) : Cal P w K mg base 3 "_law_pattern" ["_law_script", "_law_town", "_law_letters"] (spPattern K) := by
  refine Cal.of D fun f fd F => F.ok scPattern (fun vs H Q E h => ?_) (fun cdv A outer s H vs Q E hr h => ?_)
  · obtain ⟨_, _, _, rfl, _⟩ := h
    rfl
  · obtain ⟨sc, T, ns, rfl, hS, tw, q⟩ := h
    have nd := scPattern.nd
    refine ⟨_, pss_cons (ps_par (i := 3) (j := 4) rfl nd rfl rfl (by decide) rfl rfl (pa_cons pe_str (pa_cons (pe_cl cP hr (by decide) (by rfl) (pa_cons (pv 0) (pa_cons (pv 1) (pa_cons (pe_lst (pa_cons pe_int (pa_cons pe_int (pa_cons pe_int (pa_cons pe_int (pa_cons pe_int (pa_cons pe_int pa_nil))))))) pa_nil)))) pa_nil)) rfl)
      (pss_cons (ps_for PassesOwn.never rfl (pi_range1 (by rfl) B.range (pa_cons (pe_op op_add (pv 4) pe_int) pa_nil)) (pg_name (i := 5) nd rfl (.inl rfl))
        (pss_cons (ps_if (PW.pt (pw_or (pt_cmpR op_eq (pv 5) (pe_cl cD hr (by decide) (by rfl) (pa_cons (pv 0) (pa_cons (pv 1) (pa_cons pe_int pa_nil)))) (nomark _))
            (pw_or1 (PW.pt (pw_and (pt_cmpR op_eq (pv 5) (pv 4) (nomark _)) (pw_and1 (pt_not (pt_val (pe_callB (cr_any rfl) (by rfl) B.any boot_any (pa_cons (pe_lc (own := [("_law_char", 7)]) (g := gName 7) (by rfl) nd (pi_str (pv 3))
              (blkOk_by (own := [("_law_char", 7)]) (N := nPattern) (sc := defScope sPattern) (by decide +kernel)) (fun _ _ _ _ _ => pg_name (i := 7) nd rfl (Or.inl rfl)) (fun _ _ _ _ _ => pts_nil) (fun _ _ _ _ _ => pe_cmpR op_in_sign (pv 7) pe_str rfl)) pa_nil))))))))))
          (pss_one (ps_set (i := 3) nd rfl (.inl rfl) (pe_op op_add_str (pv 3) (pe_cl cP hr (by decide) (by rfl) (pa_cons (pv 0) (pa_cons (pv 1) (pa_cons pe_str pa_nil))))))) pss_nil)
        (pss_one (ps_if (pt_cmpR op_lt (pv 5) (pv 4) (nomark _)) (pss_one (ps_set (i := 3) nd rfl (.inl rfl) (pe_op op_add_str (pv 3) (pe_cl cP hr (by decide) (by rfl) (pa_cons (pv 0) (pa_cons (pv 1) (pa_cons (pv 2) pa_nil))))))) pss_nil))))
      (pss_cons (ps_set (i := 6) nd rfl (.inl rfl) (pe_cl cD hr (by decide) (by rfl) (pa_cons (pv 0) (pa_cons (pv 1) (pa_cons pe_int pa_nil)))))
      (pss_one (ps_ret (pe_op op_add_str (pe_op op_add_str (pe_ifExp (pt_cmpR op_in_seq (pv 6) (pe_tup (pa_cons pe_int (pa_cons pe_int pa_nil))) rfl) pe_str pe_str) (pv 3)) (pe_ifExp (pt_cmpR op_in_seq (pv 6) (pe_tup (pa_cons pe_int (pa_cons pe_int pa_nil))) rfl) pe_str pe_str)))))), ?_⟩
    have h6 : ∀ n : Nat, n ≤ 1000 → n ≤ sizeLine := fun n h => Nat.le_of_lt (small1000 h)
    refine ⟨_, rfl, _, rfl, by show 6 ≤ sizeLine; decide, fun L hL => ⟨sc, T, ns, hS.but (Same.but (same_new hL (Same.refl H))), ?_, .inl ⟨L, _, rfl, upd_same, ?_, by show 0 < 6; decide, by show 6 < 1000; decide, fun x H1 hx b1 t1 => ?_⟩⟩⟩
    · obtain ⟨a, c, e, h⟩ := tw
      exact ⟨a, c, (upd_ne (ne_of_none e hL)).trans e, h⟩
    · obtain ⟨a, c, e, h⟩ := tw
      exact Ne.symm (ne_of_none e hL)
    obtain ⟨m, rfl, m1, m4⟩ : ∃ m : Nat, x = .int (m : Int) ∧ 1 ≤ m ∧ m ≤ 4 := by
      simp only [List.mem_cons, List.not_mem_nil, or_false] at hx
      rcases hx with rfl | rfl | rfl | rfl | rfl | rfl
      · exact ⟨1, rfl, by decide, by decide⟩
      · exact ⟨1, rfl, by decide, by decide⟩
      · exact ⟨2, rfl, by decide, by decide⟩
      · exact ⟨2, rfl, by decide, by decide⟩
      · exact ⟨3, rfl, by decide, by decide⟩
      · exact ⟨4, rfl, by decide, by decide⟩
    have bH1 : But T H H1 := (Same.but (same_new hL (Same.refl H))).trans b1
    refine ⟨_, _, rfl, ?_⟩
    refine ⟨_, rfl, _, _, rfl, rfl, _, rfl, by omega, by omega, ?_⟩
    have eN : ((m : Int) + 1).toNat = m + 1 := by omega
    rw [eN]
    refine for_range (fun i σ H' => ∃ (l : List Nat) (v5 : Option V), σ = [some (.ref sc), some (.ref T), some (.str "ab"), some (.str (S l)), some (.int (m : Int)), v5, none, none] ∧ But T H H' ∧ Town H' T ∧ PT m i l) ⟨[], none, rfl, bH1, t1, PT.zero⟩ ?_ ?_
    · rintro i σ H2 hi ⟨l, v5, rfl, b2, t2, p2⟩
      have e0 : (0 : Int) + (i : Int) = i := Int.zero_add _
      rw [e0]
      have hll := p2.len
      -- the second if, whatever the first has left
      have tail : ∀ (l1 : List Nat) (H3 : Hp) (D : Ends), (l1 = l ∨ ∃ d, d ∈ digs ∧ l1 = l ++ [d]) → (i = m → l1.any (fun c => decide (c ∈ digs)) = true) → But T H H3 → Town H3 T →
          (∀ l2 H4, PT m (i + 1) l2 → But T H H4 → Town H4 T → D.nx [some (.ref sc), some (.ref T), some (.str "ab"), some (.str (S l2)), some (.int (m : Int)), some (.int (i : Int)), none, none] H4) →
          tIfS (tTest (tOp (rI0 fun i j => .bl (decide (i < j))) (tVar 5) (tVar 4))) (tAsg (tOp (fun x y H Q => ∃ i j, x = .str i ∧ y = .str j ∧ i.length + j.length ≤ sizeLine ∧ Q (.str (i ++ j)) H) (tVar 3)
            (tCall (spPick K) [] E0 (tCons (tVar 0) (tCons (tVar 1) (tCons (tVar 2) tNil))))) (gName 3)) tNext D [some (.ref sc), some (.ref T), some (.str "ab"), some (.str (S l1)), some (.int (m : Int)), some (.int (i : Int)), none, none] H3 := by
        intro l1 H3 D h1 h2 b3 t3 k
        have hl1 : l1.length ≤ 2 * i + 1 := by
          rcases h1 with rfl | ⟨d, _, rfl⟩
          · omega
          · rw [List.length_append, List.length_singleton]; omega
        refine ⟨_, rfl, _, rfl, _, _, rfl, rfl, _, rfl, ite2 (fun hb => ?_) fun hb => ?_⟩
        · have hlt : i < m := by have := of_decide_eq_true hb; omega
          refine ⟨_, rfl, _, rfl, _, rfl, _, rfl, sc, T, ns, hS.but b3, t3, .inr ⟨"ab", rfl, by decide +kernel, by decide +kernel, fun c H4 hc b4 t4 => ?_⟩⟩
          have hab : c = 97 ∨ c = 98 := by
            have e : tl (Str.ofString "ab") = [97, 98] := by decide +kernel
            rw [e] at hc
            simpa using hc
          refine ⟨_, _, rfl, rfl, ?_, ?_⟩
          · rw [len_S, len_S]
            exact h6 _ (by rw [List.length_singleton]; omega)
          · show D.nx [some (.ref sc), some (.ref T), some (.str "ab"), some (.str (S l1 ++ S [c])), some (.int (m : Int)), some (.int (i : Int)), none, none] H4
            rw [str_app]
            refine k _ H4 ?_ (b3.trans b4) t4
            rcases h1 with rfl | ⟨d, hd, rfl⟩
            · exact p2.letter hlt hab
            · exact p2.digitLetter hlt hd hab
        · have hge : i = m := by
            have : ¬ (i : Int) < (m : Int) := fun h => hb (decide_eq_true h)
            omega
          subst hge
          refine k _ H3 ?_ b3 t3
          rcases h1 with rfl | ⟨d, hd, rfl⟩
          · exact p2.lastNone (h2 rfl)
          · exact p2.lastDigit hd
      have nxt : ∀ l2 H4, PT m (i + 1) l2 → But T H H4 → Town H4 T → ∃ (l : List Nat) (v5 : Option V), [some (.ref sc), some (.ref T), some (.str "ab"), some (.str (S l2)), some (.int (m : Int)), some (.int (i : Int)), none, none] = [some (.ref sc), some (.ref T), some (.str "ab"), some (.str (S l)), some (.int (m : Int)), v5, none, none] ∧ But T H H4 ∧ Town H4 T ∧ PT m (i + 1) l :=
        fun l2 H4 h1 h2 h3 => ⟨l2, _, rfl, h2, h3, h1⟩
      -- a digit is added
      have digit : ∀ (H3 : Hp) (D : Ends), But T H H3 → Town H3 T → (∀ d H4, d ∈ digs → But T H H4 → Town H4 T → D.nx [some (.ref sc), some (.ref T), some (.str "ab"), some (.str (S (l ++ [d]))), some (.int (m : Int)), some (.int (i : Int)), none, none] H4) →
          tAsg (tOp (fun x y H Q => ∃ i j, x = .str i ∧ y = .str j ∧ i.length + j.length ≤ sizeLine ∧ Q (.str (i ++ j)) H) (tVar 3)
            (tCall (spPick K) [] E0 (tCons (tVar 0) (tCons (tVar 1) (tCons (tC (.str "1212345")) tNil))))) (gName 3) D [some (.ref sc), some (.ref T), some (.str "ab"), some (.str (S l)), some (.int (m : Int)), some (.int (i : Int)), none, none] H3 := by
        intro H3 D b3 t3 k
        refine ⟨_, rfl, _, rfl, _, rfl, sc, T, ns, hS.but b3, t3, .inr ⟨"1212345", rfl, by decide +kernel, by decide +kernel, fun c H4 hc b4 t4 => ?_⟩⟩
        have hd : c ∈ digs := by
          have e : tl (Str.ofString "1212345") = [49, 50, 49, 50, 51, 52, 53] := by decide +kernel
          rw [e] at hc
          simp only [List.mem_cons, List.not_mem_nil, or_false] at hc
          rcases hc with rfl | rfl | rfl | rfl | rfl | rfl | rfl <;> decide
        refine ⟨_, _, rfl, rfl, ?_, ?_⟩
        · rw [len_S, len_S]
          exact h6 _ (by rw [List.length_singleton]; omega)
        · show D.nx [some (.ref sc), some (.ref T), some (.str "ab"), some (.str (S l ++ S [c])), some (.int (m : Int)), some (.int (i : Int)), none, none] H4
          rw [str_app]
          exact k c H4 hd (b3.trans b4) t4
      refine ⟨_, rfl, _, rfl, _, rfl, sc, T, ns, 5, rfl, hS.but b2, t2, by decide, by decide, fun r H3 r0 r1 b3 t3 => ?_⟩
      refine ⟨rfl, _, rfl, ite2 (fun hb => ?_) fun hb => ?_⟩
      · refine iteT (digit _ _ (b2.trans b3) t3 fun d H4 hd b4 t4 => ?_)
        exact tail _ H4 _ (.inr ⟨d, hd, rfl⟩) (fun _ => by rw [List.any_append]; show (_ || (decide (d ∈ digs) || false)) = true; rw [decide_eq_true hd]; simp) b4 t4 nxt
      refine ⟨_, rfl, _, rfl, rfl, _, rfl, ite2 (fun hb1 => ?_) fun hb1 => ?_⟩
      · refine ⟨_, rfl, S l, rfl, fun D hD => lc_it walk_str (fun j H' => Same H3 H' ∧ H' D = some (.lst (((l.take j).map fun c => decide (c ∈ digs)).map V.bl))) ⟨same_new hD (Same.refl _), upd_same⟩ (fun _ _ _ _ => trivial) ?_ ?_⟩
        · rintro j x H4 H5 hj ⟨s4, d4⟩ ⟨rfl, c, hc, rfl⟩
          have hc' : l[j]? = some c := by simpa using hc
          refine ⟨rfl, _, rfl, c, Str.ofString "123456789", rfl, rfl, _, d4, ?_, same_new hD s4, ?_⟩
          · rw [List.length_map, List.length_map]
            have := List.length_take_le' j l
            exact small1000 (by omega)
          · have e : decide (c ∈ (Str.ofString "123456789").cps.toList) = decide (c ∈ digs) := by rw [digs_eq]
            rw [upd_same, e, take_next hc', List.map_append, List.map_append]
            rfl
        · rintro H4 ⟨s4, d4⟩
          have ez : l.take (S l).cps.size = l := List.take_of_length_le (by show l.length ≤ l.toArray.size; simp)
          rw [ez] at d4
          refine ⟨D, _, rfl, .inl (.inl d4), _, rfl, ?_⟩
          rw [List.any_map]
          show (if (!(l.any fun c => decide (c ∈ digs))) = true then _ else _)
          have b4 := b2.trans (b3.upSame s4)
          have t4 : Town H4 T := by
            obtain ⟨a, c, e, h⟩ := t3
            exact ⟨a, c, s4 _ _ e, h⟩
          cases ha : l.any fun c => decide (c ∈ digs) with
          | false =>
            refine iteT (digit _ _ b4 t4 fun d H5 hd b5 t5 => ?_)
            exact tail _ H5 _ (.inr ⟨d, hd, rfl⟩) (fun _ => by rw [List.any_append]; show (_ || (decide (d ∈ digs) || false)) = true; rw [decide_eq_true hd]; simp) b5 t5 nxt
          | true => exact iteF (tail _ H4 _ (.inl rfl) (fun _ => ha) b4 t4 nxt)
      · refine iteF (tail _ H3 _ (.inl rfl) (fun e => absurd (decide_eq_true (by rw [e])) hb1) (b2.trans b3) t3 nxt)
    · rintro σ H2 ⟨l, v5, rfl, b2, t2, p2⟩
      have hll := p2.len
      refine ⟨_, rfl, _, rfl, sc, T, ns, 8, rfl, hS.but b2, t2, by decide, by decide, fun r H3 r0 r1 b3 t3 => ?_⟩
      have b4 := b2.trans b3
      refine ⟨_, rfl, by show 2 ≤ sizeLine; decide, fun p hp => ⟨p, _, rfl, .inr (SqT.of upd_same), rfl, rfl, _, rfl, ?_⟩⟩
      have b5 := b4.upSame (same_new (o := .tup [V.int 0, V.int 2]) hp (Same.refl H3))
      have t5 : Town (upd H3 p (.tup [V.int 0, V.int 2])) T := by
        obtain ⟨a, c, e, h⟩ := t3
        exact ⟨a, c, (upd_ne (ne_of_none e hp)).trans e, h⟩
      generalize upd H3 p (.tup [V.int 0, V.int 2]) = H4 at b5 t5 ⊢
      -- behind the first part
      have fin : ∀ (x : Bool) (R : VK), (∀ y H5, But T H H5 → Town H5 T → R (.str (S (dt x ++ l ++ dt y))) H5) →
          tIf (tTest (tOp (rIn K false) (tVar 6) (tTup (tCons (tC (.int 1)) (tCons (tC (.int 2)) tNil))))) (tC (.str ".")) (tC (.str ""))
            [some (.ref sc), some (.ref T), some (.str "ab"), some (.str (S l)), some (.int (m : Int)), v5, some (.int r), none] H4 fun y H => ∃ i j, V.str (S (dt x ++ l)) = .str i ∧ y = .str j ∧ i.length + j.length ≤ sizeLine ∧ R (.str (i ++ j)) H := by
        intro x R k
        refine ⟨_, rfl, by show 2 ≤ sizeLine; decide, fun p2 hp2 => ⟨p2, _, rfl, .inr (SqT.of upd_same), rfl, rfl, _, rfl, ?_⟩⟩
        have b6 := b5.upSame (same_new (o := .tup [V.int 1, V.int 2]) hp2 (Same.refl H4))
        have t6 : Town (upd H4 p2 (.tup [V.int 1, V.int 2])) T := by
          obtain ⟨a, c, e, h⟩ := t5
          exact ⟨a, c, (upd_ne (ne_of_none e hp2)).trans e, h⟩
        have hx : (dt x).length ≤ 1 := by cases x <;> decide
        refine ite2 (fun _ => ⟨_, _, rfl, rfl, ?_, ?_⟩) fun _ => ⟨_, _, rfl, rfl, ?_, ?_⟩
        · rw [len_S, List.length_append]
          show _ + 1 ≤ sizeLine
          exact h6 _ (by omega)
        · have e : S (dt x ++ l) ++ Str.ofString "." = S (dt x ++ l ++ dt true) := by
            have e0 : Str.ofString "." = S (dt true) := by decide +kernel
            rw [e0, str_app]
          show R (.str (S (dt x ++ l) ++ Str.ofString ".")) _
          rw [e]
          exact k true _ b6 t6
        · rw [len_S, List.length_append]
          show _ + 0 ≤ sizeLine
          exact h6 _ (by omega)
        · have e : S (dt x ++ l) ++ Str.ofString "" = S (dt x ++ l ++ dt false) := by
            have e0 : Str.ofString "" = S (dt false) := by decide +kernel
            rw [e0, str_app]
          show R (.str (S (dt x ++ l) ++ Str.ofString "")) _
          rw [e]
          exact k false _ b6 t6
      have emp : ∀ x : Bool, (if x = true then Str.ofString "." else Str.ofString "") ++ S l = S (dt x ++ l) := fun x => by
        cases x
        · have e0 : Str.ofString "" = S (dt false) := by decide +kernel
          show Str.ofString "" ++ S l = _
          rw [e0, str_app]
        · have e0 : Str.ofString "." = S (dt true) := by decide +kernel
          show Str.ofString "." ++ S l = _
          rw [e0, str_app]
      have done : ∀ x y H5, But T H H5 → Town H5 T → Q (.str (S (dt x ++ l ++ dt y))) H5 := fun x y H5 h1 h2 => q _ H5 ⟨m, l, x, y, m1, m4, p2, rfl⟩ h1 h2
      refine ite2 (fun _ => ⟨_, rfl, _, _, rfl, rfl, ?_, ?_⟩) fun _ => ⟨_, rfl, _, _, rfl, rfl, ?_, ?_⟩
      · show 1 + (S l).length ≤ sizeLine
        rw [len_S]
        exact h6 _ (by omega)
      · have := fin true Q (done true)
        rw [← emp true] at this
        exact this
      · show 0 + (S l).length ≤ sizeLine
        rw [len_S]
        exact h6 _ (by omega)
      · have := fin false Q (done false)
        rw [← emp false] at this
        exact this
end
end Hy
set_option Elab.async false
set_option linter.all false
set_option maxRecDepth 100000
set_option maxHeartbeats 4000000
namespace Hy
open PySem PySem.Spec PyProof.Rows L2 CwR
/-! ### _law_rules -/
theorem flat_strs (l : List Str) : (l.map V.str).all flatV = true := by
  rw [List.all_map]
  exact List.all_eq_true.mpr fun _ _ => rfl
theorem in_strs (b : Str) : ∀ l : List Str, inV (.str b) (l.map V.str) = decide (b ∈ l)
  | [] => by simp [inV]
  | a :: l => by
    have ih := in_strs b l
    show (eqV (.str a) (.str b) || inV (.str b) (l.map V.str)) = _
    rw [ih]
    show ((a == b) || decide (b ∈ l)) = _
    by_cases e : a = b
    · subst e; simp
    · have e' : ¬ b = a := fun h => e h.symm
      simp [e, e']
/-- the patterns that are made so far -/
structure Made (ps : List Str) (n : Nat) : Prop where
  sh : ∀ p ∈ ps, Shape p
  nd : (ps.map (strip digs10)).Nodup
  len : ps.length ≤ n
theorem shape_len {p : Str} (h : Shape p) : p.length ≤ 12 := by
  obtain ⟨m, l, x, y, m1, m4, pt, rfl⟩ := h
  have := pt.len
  rw [len_S, List.length_append, List.length_append]
  have hx : ∀ b, (dt b).length ≤ 1 := fun b => by cases b <;> decide
  have h1 := hx x
  have h2 := hx y
  omega
theorem But.new {T M : Addr} {H H' : Hp} (b : But T H H') (n : H M = none) (o : HO) : But T H (L2.upd H' M o) := fun c u e h => (upd_ne (ne_of_none e n)).trans (b c u e h)
theorem Town.ne {H : Hp} {T M : Addr} (t : Town H T) (n : H M = none) : T ≠ M := by
  obtain ⟨o, e⟩ := t.some
  exact ne_of_none e n
theorem Town.upd {H : Hp} {T M : Addr} (t : Town H T) (n : T ≠ M) (o : HO) : Town (L2.upd H M o) T := by
  obtain ⟨a, c, e, h⟩ := t
  exact ⟨a, c, (upd_ne n).trans e, h⟩
theorem town_same {H H' : Hp} {T : Addr} (t : Town H T) (s : Same H H') : Town H' T := by
  obtain ⟨a, c, e, h⟩ := t
  exact ⟨a, c, s _ _ e, h⟩
section
variable {P : Program} {w : World} {K : PySem.W.Frag} {mg : Str → Option Value} {base : Heap} {C : Addr}
abbrev nRules : List Str := ["_law_script", "_law_town", "_law_most", "_law_letters", "_law_made", "_law_seen", "_law_k", "_law_pattern_here"]
theorem scRules : FnScope nRules ["_law_script", "_law_town", "_law_most", "_law_letters"] (defScope sRules) := ⟨rfl, rfl, rfl, by decide +kernel, rfl, by decide +kernel, by decide +kernel⟩
def spRules (K : PySem.W.Frag) : Sp := fun vs H Q _ => ∃ (s T : Addr) (ns : List Int), vs = [.ref s, .ref T, .int 4, .str "ab"] ∧ Scr K H s T ns ∧ Town H T ∧
  ∀ ru pt ps l r H', Made ps 4 → 1 ≤ l → l ≤ 3 → 1 ≤ r → r ≤ 3 → RulesAt H' ru pt ps l r → But T H H' → Town H' T → Q (.ref ru) H'
theorem ok_rules (D : Df K mg "_law_rules" sRules ["_law_script", "_law_town", "_law_most", "_law_letters"]) (B : Bl mg) (cD : Cal P w K mg base 1 "_law_draw" ["_law_script", "_law_town", "_law_many"] (spDraw K))
    (cP : Cal P w K mg base 2 "_law_pick" ["_law_script", "_law_town", "_law_some"] (spPick K)) (cM : Cal P w K mg base 3 "_law_pattern" ["_law_script", "_law_town", "_law_letters"] (spPattern K))
    (cB : Cal P w K mg base 1 "_law_bare" ["_law_pattern_here"] (spStrip digs10)) : Cal P w K mg base 4 "_law_rules" ["_law_script", "_law_town", "_law_most", "_law_letters"] (spRules K) := by
  refine Cal.of D fun f fd F => F.ok scRules (fun vs H Q E h => ?_) (fun cdv A outer s H vs Q E hr h => ?_)
  · obtain ⟨_, _, _, rfl, _⟩ := h
    rfl
  · obtain ⟨sc, T, ns, rfl, hS, tw, q⟩ := h
    have nd := scRules.nd
    refine ⟨_, pss_cons (ps_par (i := 4) (j := 5) rfl nd rfl rfl (by decide) rfl rfl (pa_cons (pe_lst pa_nil) (pa_cons (pe_lst pa_nil) pa_nil)) rfl)
      (pss_cons (ps_for PassesOwn.never rfl (pi_range1 (by rfl) B.range (pa_cons (pe_cl cD hr (by decide) (by rfl) (pa_cons (pv 0) (pa_cons (pv 1) (pa_cons (pe_op op_add (pv 2) pe_int) pa_nil)))) pa_nil)) (pg_name (i := 6) nd rfl (.inl rfl))
        (pss_cons (ps_set (i := 7) nd rfl (.inl rfl) (pe_cl cM hr (by decide) (by rfl) (pa_cons (pv 0) (pa_cons (pv 1) (pa_cons (pv 3) pa_nil)))))
        (pss_one (ps_if (pt_cmpR op_notIn_seq (pe_cl cB hr (by decide) (by rfl) (pa_cons (pv 7) pa_nil)) (pv 5) rfl)
          (pss_cons (ps_expr (pe_bm PySem.F.plainAttrs_list PySem.F.slot_list_append PySem.F.type_list_append mt_append (pv 4) (pa_cons (pv 7) pa_nil)))
          (pss_one (ps_expr (pe_bm PySem.F.plainAttrs_list PySem.F.slot_list_append PySem.F.type_list_append mt_append (pv 5) (pa_cons (pe_cl cB hr (by decide) (by rfl) (pa_cons (pv 7) pa_nil)) pa_nil))))) pss_nil))))
      (pss_one (ps_ret (pe_tup (pa_cons (pe_callTy call_tuple_of (by rfl) B.tuple boot_tTuple (pa_cons (pv 4) pa_nil))
        (pa_cons (pe_cl cP hr (by decide) (by rfl) (pa_cons (pv 0) (pa_cons (pv 1) (pa_cons (pe_lst (pa_cons pe_int (pa_cons pe_int (pa_cons pe_int (pa_cons pe_int pa_nil))))) pa_nil))))
        (pa_cons (pe_cl cP hr (by decide) (by rfl) (pa_cons (pv 0) (pa_cons (pv 1) (pa_cons (pe_lst (pa_cons pe_int (pa_cons pe_int (pa_cons pe_int (pa_cons pe_int pa_nil))))) pa_nil)))) pa_nil))))))), ?_⟩
    have h6 : ∀ n : Nat, n ≤ 1000 → n ≤ sizeLine := fun n h => Nat.le_of_lt (small1000 h)
    refine ⟨Nat.zero_le _, fun M hM => ⟨Nat.zero_le _, fun N hN => ⟨_, _, rfl, ?_⟩⟩⟩
    have tw1 := tw.upd (tw.ne hM) (.lst [])
    have hMN : M ≠ N := ne_of_none (show upd H M (.lst []) M = some (.lst []) from upd_same) hN
    have hTM := tw.ne hM
    have hTN := tw1.ne hN
    have hN0 : H N = none := by rw [upd_ne (Ne.symm hMN)] at hN; exact hN
    have b1 : But T H (upd (upd H M (.lst [])) N (.lst [])) := ((But.refl H).new hM _).new hN0 _
    have t1 : Town (upd (upd H M (.lst [])) N (.lst [])) T := tw1.upd hTN _
    have m1 : upd (upd H M (.lst [])) N (.lst []) M = some (.lst []) := (upd_ne hMN).trans upd_same
    have n1 : upd (upd H M (.lst [])) N (.lst []) N = some (.lst []) := upd_same
    generalize upd (upd H M (.lst [])) N (.lst []) = H1 at b1 t1 m1 n1 ⊢
    refine ⟨_, rfl, _, rfl, _, rfl, _, _, rfl, rfl, sc, T, ns, 5, rfl, hS.but b1, t1, by decide, by decide, fun k H2 k0 k1 b2 t2 => ?_⟩
    refine ⟨_, rfl, by omega, by omega, ?_⟩
    refine for_range (fun i σ H' => ∃ (ps : List Str) (v6 v7 : Option V), σ = [some (.ref sc), some (.ref T), some (.int 4), some (.str "ab"), some (.ref M), some (.ref N), v6, v7] ∧ But T H H' ∧ Town H' T ∧ Made ps i ∧ H' M = some (.lst (ps.map V.str)) ∧ H' N = some (.lst ((ps.map (strip digs10)).map V.str)))
      ⟨[], none, none, rfl, b1.trans b2, t2, ⟨fun _ h => (nomatch h), List.nodup_nil, Nat.zero_le _⟩, b2 M _ m1 (Ne.symm hTM), b2 N _ n1 (Ne.symm hTN)⟩ ?_ ?_
    · rintro i σ H3 hi ⟨ps, v6, v7, rfl, b3, t3, mk, m3, n3⟩
      have hi4 : i < 5 := by omega
      refine ⟨_, rfl, _, rfl, _, rfl, sc, T, ns, rfl, hS.but b3, t3, fun p H4 sh b4 t4 => ?_⟩
      have pl := shape_len sh
      have mlen := mk.len
      refine ⟨_, rfl, p, rfl, by omega, fun H5 s5 => ?_⟩
      have b5 := b3.trans (b4.upSame s5)
      have t5 := town_same t4 s5
      have m5 := s5 _ _ (b4 M _ m3 (Ne.symm hTM))
      have n5 := s5 _ _ (b4 N _ n3 (Ne.symm hTN))
      refine ⟨_, rfl, N, _, rfl, .inl (SqL.of n5), rfl, flat_strs _, _, rfl, ?_⟩
      rw [in_strs]
      by_cases hb : strip digs10 p ∈ ps.map (strip digs10)
      · rw [decide_eq_true hb]
        exact iteF ⟨ps, _, _, rfl, b5, t5, ⟨mk.sh, mk.nd, by omega⟩, m5, n5⟩
      · rw [decide_eq_false hb]
        refine iteT ⟨_, rfl, .inl ⟨rfl, _, SqL.of m5⟩, _, rfl, M, _, _, rfl, rfl, m5, ?_, ?_⟩
        · rw [List.length_map]; exact small1000 (by omega)
        have n6 : upd H5 M (.lst (ps.map V.str ++ [V.str p])) N = some (.lst ((ps.map (strip digs10)).map V.str)) := (upd_ne (Ne.symm hMN)).trans n5
        refine ⟨_, rfl, .inl ⟨rfl, _, SqL.of n6⟩, _, rfl, p, rfl, by omega, fun H6 s6 => ?_⟩
        have n7 := s6 _ _ n6
        have m7 := s6 _ _ (upd_same (H := H5) (a := M) (o := .lst (ps.map V.str ++ [V.str p])))
        refine ⟨N, _, _, rfl, rfl, n7, ?_, ?_⟩
        · rw [List.length_map, List.length_map]; exact small1000 (by omega)
        refine ⟨ps ++ [p], _, _, rfl, ((b5.new hM _).upSame s6).new hN0 _, (town_same (t5.upd hTM _) s6).upd hTN _, ⟨?_, ?_, ?_⟩, ?_, ?_⟩
        · intro x hx
          rcases List.mem_append.mp hx with h | h
          · exact mk.sh x h
          · rw [List.mem_singleton] at h; subst h; exact sh
        · rw [List.map_append, List.map_singleton]
          refine List.nodup_append.mpr ⟨mk.nd, List.pairwise_singleton _ _, fun a ha c hc e => ?_⟩
          rw [List.mem_singleton] at hc
          subst hc
          subst e
          exact hb ha
        · rw [List.length_append, List.length_singleton]; omega
        · rw [upd_ne hMN, m7, List.map_append]; rfl
        · rw [upd_same, List.map_append, List.map_append]; rfl
    · rintro σ H3 ⟨ps, v6, v7, rfl, b3, t3, mk, m3, n3⟩
      have mk4 : Made ps 4 := ⟨mk.sh, mk.nd, by have := mk.len; omega⟩
      refine ⟨_, rfl, M, _, rfl, .inl ⟨SqL.of m3, fun pt hpt => ?_⟩⟩
      have b4 := b3.upSame (same_new (o := .tup (ps.map V.str)) hpt (Same.refl H3))
      have t4 := t3.upd (t3.ne hpt) (.tup (ps.map V.str))
      have hTpt := t3.ne hpt
      have p4 : upd H3 pt (.tup (ps.map V.str)) pt = some (.tup (ps.map V.str)) := upd_same
      generalize upd H3 pt (.tup (ps.map V.str)) = H4 at b4 t4 p4 ⊢
      have num : ∀ x, x ∈ [V.int 1, V.int 1, V.int 2, V.int 3] → ∃ n : Int, x = .int n ∧ 1 ≤ n ∧ n ≤ 3 := fun x hx => by
        simp only [List.mem_cons, List.not_mem_nil, or_false] at hx
        rcases hx with rfl | rfl | rfl | rfl
        · exact ⟨1, rfl, by decide, by decide⟩
        · exact ⟨1, rfl, by decide, by decide⟩
        · exact ⟨2, rfl, by decide, by decide⟩
        · exact ⟨3, rfl, by decide, by decide⟩
      refine ⟨_, rfl, _, rfl, by show 4 ≤ sizeLine; decide, fun L hL => ⟨sc, T, ns, hS.but (b4.upSame (same_new hL (Same.refl H4))), t4.upd (t4.ne hL) _, .inl ⟨L, _, rfl, upd_same, Ne.symm (t4.ne hL), by show 0 < 4; decide, by show 4 < 1000; decide, fun x H5 hx b5 t5 => ?_⟩⟩⟩
      obtain ⟨l, rfl, l1, l3⟩ := num x hx
      have p5 := b5 pt _ ((same_new (o := .lst [V.int 1, V.int 1, V.int 2, V.int 3]) hL (Same.refl H4)) _ _ p4) (Ne.symm hTpt)
      have b5' := (b4.upSame (same_new (o := .lst [V.int 1, V.int 1, V.int 2, V.int 3]) hL (Same.refl H4))).trans b5
      refine ⟨_, rfl, _, rfl, by show 4 ≤ sizeLine; decide, fun L2 hL2 => ⟨sc, T, ns, hS.but (b5'.upSame (same_new hL2 (Same.refl H5))), t5.upd (t5.ne hL2) _, .inl ⟨L2, _, rfl, upd_same, Ne.symm (t5.ne hL2), by show 0 < 4; decide, by show 4 < 1000; decide, fun y H6 hy b6 t6 => ?_⟩⟩⟩
      obtain ⟨r, rfl, r1, r3⟩ := num y hy
      have p6 := b6 pt _ ((same_new (o := .lst [V.int 1, V.int 1, V.int 2, V.int 3]) hL2 (Same.refl H5)) _ _ p5) (Ne.symm hTpt)
      have b6' := (b5'.upSame (same_new (o := .lst [V.int 1, V.int 1, V.int 2, V.int 3]) hL2 (Same.refl H5))).trans b6
      refine ⟨by show 3 ≤ sizeLine; decide, fun ru hru => ?_⟩
      exact q ru pt ps l r _ mk4 l1 l3 r1 r3 ⟨upd_same, (upd_ne (ne_of_none p6 hru)).trans p6⟩ (b6'.upSame (same_new hru (Same.refl H6))) (t6.upd (t6.ne hru) _)
end
end Hy
set_option Elab.async false
set_option linter.all false
set_option maxRecDepth 100000
set_option maxHeartbeats 4000000
namespace Hy
open PySem PySem.Spec PyProof.Rows L2 CwR
/-! ### _law_levels, _law_breaks -/
def lstep (a : List Int × Nat) (c : Nat) : List Int × Nat :=
  if c ∈ digs then (a.1.set a.2 (if (c : Int) - 48 > a.1.getD a.2 0 then (c : Int) - 48 else a.1.getD a.2 0), a.2) else (a.1, a.2 + 1)
def lawTo (T B p : List Nat) (X : List Int) : Nat → List Int
  | 0 => X
  | n + 1 => if (T.drop n).take B.length = B then (p.foldl lstep (lawTo T B p X n, n)).1 else lawTo T B p X n
def lawLevFrom (word : Str) (X : List Int) (ps : List Str) : List Int := ps.foldl (fun X p => lawTo (tl (dotted word)) (tl (strip digs10 p)) (tl p) X (tl (dotted word)).length) X
def lawLev (ps : List Str) (word : Str) : List Int := lawLevFrom word (List.replicate (word.length + 3) 0) ps
theorem lfold_len : ∀ (r : List Nat) (a : List Int × Nat), (r.foldl lstep a).1.length = a.1.length
  | [], _ => rfl
  | c :: r, a => by
    rw [List.foldl_cons, lfold_len r]
    unfold lstep
    split
    · exact List.length_set
    · rfl
theorem lfold_at : ∀ (r : List Nat) (a : List Int × Nat), (r.foldl lstep a).2 = a.2 + (r.filter notD).length
  | [], _ => rfl
  | c :: r, a => by
    rw [List.foldl_cons, lfold_at r]
    unfold lstep
    by_cases h : c ∈ digs
    · rw [if_pos h, List.filter_cons_of_neg (by show ¬ (!decide (c ∈ digs)) = true; rw [decide_eq_true h]; decide)]
    · rw [if_neg h, List.filter_cons_of_pos (by show (!decide (c ∈ digs)) = true; rw [decide_eq_false h]; rfl), List.length_cons]
      show a.2 + 1 + _ = _
      omega
theorem lawTo_len (T B p : List Nat) (X : List Int) : ∀ n, (lawTo T B p X n).length = X.length
  | 0 => rfl
  | n + 1 => by
    unfold lawTo
    split
    · rw [lfold_len, lawTo_len T B p X n]
    · exact lawTo_len T B p X n
theorem lawLev_len (word : Str) : ∀ (ps : List Str) (X : List Int), (lawLevFrom word X ps).length = X.length
  | [], _ => rfl
  | p :: ps, X => by
    show (lawLevFrom word (lawTo _ _ _ X _) ps).length = _
    rw [lawLev_len word ps, lawTo_len]
theorem sw3 (x y : Str) (s : Nat) (hs : s ≤ (tl x).length) : Txt.startswith3 x y (s : Int) = decide (((tl x).drop s).take (tl y).length = tl y) := by
  unfold Txt.startswith3
  have e : fromIndex x.length (s : Int) = s := by
    unfold fromIndex
    rw [if_neg (by omega)]
    omega
  rw [e, PySem.StrLaws.subAt_eq]
  show (decide (s + y.length ≤ x.length) && ((((tl x).drop s).take y.length) == tl y)) = _
  rw [len_tl, len_tl]
  by_cases h : ((tl x).drop s).take (tl y).length = tl y
  · have h1 := congrArg List.length h
    rw [List.length_take, List.length_drop] at h1
    rw [decide_eq_true h, h, decide_eq_true (show s + (tl y).length ≤ (tl x).length by omega)]
    simp
  · rw [decide_eq_false h]
    have : ((((tl x).drop s).take (tl y).length) == tl y) = false := by simpa using h
    rw [this, Bool.and_false]
section
variable {P : Program} {w : World} {K : PySem.W.Frag} {mg : Str → Option Value} {base : Heap} {C : Addr}
abbrev nLawLevels : List Str := ["_law_rules_here", "_law_word", "_law_known", "_law_text", "_law_pattern_here", "_law_bare_here", "_law_start", "_law_at", "_law_char"]
theorem scLawLevels : FnScope nLawLevels ["_law_rules_here", "_law_word"] (defScope sLawLevels) := ⟨rfl, rfl, rfl, by decide +kernel, rfl, by decide +kernel, by decide +kernel⟩
def spLawLevels : Sp := fun vs H Q _ => ∃ (ru pt : Addr) (ps : List Str) (l r : Int) (word : Str), vs = [.ref ru, .str word] ∧ RulesAt H ru pt ps l r ∧ (∀ p ∈ ps, p.length ≤ 100 ∧ (strip digs10 p).length = ((tl p).filter notD).length) ∧ word.length ≤ 20 ∧
  ∀ H' D, Same H H' → H D = none → H' D = some (.lst ((((lawLev ps word).drop 1).take (word.length + 1)).map V.int)) → Q (.ref D) H'
theorem ok_lawLevels (D : Df K mg "_law_levels" sLawLevels ["_law_rules_here", "_law_word"]) (B : Bl mg) (cB : Cal P w K mg base 1 "_law_bare" ["_law_pattern_here"] (spStrip digs10)) :
    Cal P w K mg base 2 "_law_levels" ["_law_rules_here", "_law_word"] spLawLevels := by
  refine Cal.of D fun f fd F => F.ok scLawLevels (fun vs H Q E h => ?_) (fun cdv A outer s H vs Q E hr h => ?_)
  · obtain ⟨_, _, _, _, _, _, rfl, _⟩ := h
    rfl
  · obtain ⟨ru, pt, ps, l, r, wd, rfl, R, g, hw, q⟩ := h
    have nd := scLawLevels.nd
    refine ⟨_, pss_cons (ps_par (i := 2) (j := 3) rfl nd rfl rfl (by decide) rfl rfl (pa_cons (pe_op op_rep (pe_lst (pa_cons pe_int pa_nil)) (pe_op op_add (pe_callB call_len_str (by rfl) B.len boot_len (pa_cons (pv 1) pa_nil)) pe_int)) (pa_cons (pe_op op_add_str (pe_op op_add_str pe_str (pv 1)) pe_str) pa_nil)) rfl)
      (pss_cons (ps_for PassesOwn.never rfl (pi_tup (pe_ix ix_tup (pv 0) pe_int (fun _ _ => rfl))) (pg_name (i := 4) nd rfl (.inl rfl))
        (pss_cons (ps_set (i := 5) nd rfl (.inl rfl) (pe_cl cB hr (by decide) (by rfl) (pa_cons (pv 4) pa_nil)))
        (pss_one (ps_for PassesOwn.never rfl (pi_range1 (by rfl) B.range (pa_cons (pe_callB call_len_str (by rfl) B.len boot_len (pa_cons (pv 3) pa_nil)) pa_nil)) (pg_name (i := 6) nd rfl (.inl rfl))
          (pss_cons (ps_set (i := 7) nd rfl (.inl rfl) (pv 6))
          (pss_one (ps_for PassesOwn.never rfl (pi_str (pe_ifExp (pt_val (pe_bm PySem.F.plainAttrs_str PySem.F.slot_str_startswith PySem.F.type_str_startswith mt_startswith3 (pv 3) (pa_cons (pv 5) (pa_cons (pv 6) pa_nil)))) (pv 4) pe_str)) (pg_name (i := 8) nd rfl (.inl rfl))
            (pss_one (ps_if (pt_cmpR op_in_sign (pv 8) pe_str rfl)
              (pss_one (ps_asg (pe_callB (call_max2 rfl) (by rfl) B.max boot_max (pa_cons (pe_ix ix_list (pv 2) (pv 7) (fun _ _ => rfl)) (pa_cons (pe_callTy call_int_str (by rfl) B.int boot_tInt (pa_cons (pv 8) pa_nil)) pa_nil))) (pg_sub (pv 2) (pv 7) set_list)))
              (pss_one (ps_set (i := 7) nd rfl (.inl rfl) (pe_op op_add (pv 7) pe_int))))))))))))
      (pss_one (ps_ret (pe_slice sl_list (pv 2) (po_some pe_int) (po_some (pe_op op_add (pe_callB call_len_str (by rfl) B.len boot_len (pa_cons (pv 1) pa_nil)) pe_int)))))), ?_⟩
    have hRa := R.a
    have hRb := R.b
    have h6 : ∀ n : Nat, n ≤ 1000 → n ≤ sizeLine := fun n h => Nat.le_of_lt (small1000 h)
    have e1 : (Str.ofString ".").length = 1 := by decide +kernel
    have e2 : (Str.ofString "." ++ wd).length = 1 + wd.length := by
      show ((Str.ofString ".").cps ++ wd.cps).size = _
      rw [Array.size_append]
      show (Str.ofString ".").length + wd.length = _
      rw [e1]
    have hT := dotted_len wd
    have hT' : (tl (dotted wd)).length = wd.length + 2 := by rw [← len_tl]; exact hT
    refine ⟨by show 1 ≤ sizeLine; decide, fun D0 hD0 => ?_⟩
    refine ⟨_, rfl, wd, rfl, h6 _ (by omega), _, _, rfl, rfl, D0, _, _, rfl, rfl, upd_same, by omega, by omega, ?_, fun D hD => ?_⟩
    · show 1 * ((wd.length : Int) + 3).toNat ≤ sizeLine
      exact h6 _ (by omega)
    have eN : ((wd.length : Int) + 3).toNat = wd.length + 3 := by omega
    rw [eN, flat_rep]
    have s0 : Same H (upd (upd H D0 (.lst [V.int 0])) D (.lst ((List.replicate (wd.length + 3) (0 : Int)).map V.int))) := same_new (Same.free (same_new (o := .lst [V.int 0]) hD0 (Same.refl H)) hD) (same_new hD0 (Same.refl H))
    have hDn : H D = none := Same.free (same_new (o := .lst [V.int 0]) hD0 (Same.refl H)) hD
    have d0 : upd (upd H D0 (.lst [V.int 0])) D (.lst ((List.replicate (wd.length + 3) (0 : Int)).map V.int)) D = some (.lst ((List.replicate (wd.length + 3) (0 : Int)).map V.int)) := upd_same
    generalize upd (upd H D0 (.lst [V.int 0])) D (.lst ((List.replicate (wd.length + 3) (0 : Int)).map V.int)) = H1 at s0 d0 ⊢
    refine ⟨_, rfl, _, _, rfl, rfl, by rw [e1]; exact h6 _ (by omega), _, _, rfl, rfl, by rw [e1]; show (Str.ofString "." ++ wd).length + 1 ≤ _; rw [e2]; exact h6 _ (by omega), _, _, rfl, ?_⟩
    have eT : Str.ofString "." ++ wd ++ Str.ofString "." = dotted wd := rfl
    rw [eT]
    refine ⟨_, rfl, ru, _, 0, _, rfl, rfl, SqT.of (s0 _ _ hRa), atI_nat (j := 0) rfl, pt, rfl, ⟨_, SqT.of (s0 _ _ hRb)⟩, ?_⟩
    refine for_tup (xs := ps.map V.str) (fun i σ H' => ∃ v4 v5 v6 v7 v8 : Option V, σ = [some (.ref ru), some (.str wd), some (.ref D), some (.str (dotted wd)), v4, v5, v6, v7, v8] ∧ Same H H' ∧ H' D = some (.lst ((lawLevFrom wd (List.replicate (wd.length + 3) 0) (ps.take i)).map V.int)))
      ⟨none, none, none, none, none, rfl, s0, d0⟩ (fun i σ H' _ hP => by obtain ⟨_, _, _, _, _, _, s1, _⟩ := hP; exact SqT.of (s1 _ _ hRb)) ?_ ?_
    · rintro i x σ H2 hi ⟨v4, v5, v6, v7, v8, rfl, s2, d2⟩
      rw [List.getElem?_map] at hi
      obtain ⟨p, hp, rfl⟩ := Option.map_eq_some_iff.mp hi
      obtain ⟨hpl, hpb⟩ := g p (List.mem_of_getElem? hp)
      have nx : lawLevFrom wd (List.replicate (wd.length + 3) 0) (ps.take (i + 1)) = lawTo (tl (dotted wd)) (tl (strip digs10 p)) (tl p) (lawLevFrom wd (List.replicate (wd.length + 3) 0) (ps.take i)) (tl (dotted wd)).length := by
        rw [take_next hp]
        unfold lawLevFrom
        rw [List.foldl_append]
        rfl
      have hXl : (lawLevFrom wd (List.replicate (wd.length + 3) 0) (ps.take i)).length = wd.length + 3 := by rw [lawLev_len, List.length_replicate]
      generalize lawLevFrom wd (List.replicate (wd.length + 3) 0) (ps.take i) = X at d2 nx hXl
      refine ⟨_, rfl, p, rfl, by omega, fun H3 s3 => ?_⟩
      have d3 := s3 _ _ d2
      refine ⟨_, rfl, dotted wd, rfl, h6 _ (by omega), _, rfl, by omega, by omega, ?_⟩
      have eT2 : (((dotted wd).length : Nat) : Int).toNat = (tl (dotted wd)).length := by rw [← len_tl]; exact Int.toNat_natCast _
      rw [eT2]
      refine for_range (fun n σ H' => ∃ v6 v7 v8 : Option V, σ = [some (.ref ru), some (.str wd), some (.ref D), some (.str (dotted wd)), some (.str p), some (.str (strip digs10 p)), v6, v7, v8] ∧ Same H H' ∧ H' D = some (.lst ((lawTo (tl (dotted wd)) (tl (strip digs10 p)) (tl p) X n).map V.int)))
        ⟨_, _, _, rfl, s2.trans s3, d3⟩ ?_ ?_
      · rintro n σ H4 hn ⟨v6, v7, v8, rfl, s4, d4⟩
        have e0 : (0 : Int) + (n : Int) = n := Int.zero_add _
        rw [e0]
        have nx2 : lawTo (tl (dotted wd)) (tl (strip digs10 p)) (tl p) X (n + 1) = if ((tl (dotted wd)).drop n).take (tl (strip digs10 p)).length = tl (strip digs10 p) then ((tl p).foldl lstep (lawTo (tl (dotted wd)) (tl (strip digs10 p)) (tl p) X n, n)).1 else lawTo (tl (dotted wd)) (tl (strip digs10 p)) (tl p) X n := rfl
        have hYl : (lawTo (tl (dotted wd)) (tl (strip digs10 p)) (tl p) X n).length = wd.length + 3 := by rw [lawTo_len, hXl]
        generalize lawTo (tl (dotted wd)) (tl (strip digs10 p)) (tl p) X n = Y at d4 nx2 hYl
        refine ⟨_, rfl, _, rfl, rfl, _, rfl, _, rfl, dotted wd, strip digs10 p, (n : Int), rfl, rfl, _, rfl, ?_⟩
        rw [sw3 _ _ n (by omega)]
        by_cases hm : ((tl (dotted wd)).drop n).take (tl (strip digs10 p)).length = tl (strip digs10 p)
        · rw [if_pos hm] at nx2
          rw [decide_eq_true hm]
          have hml := congrArg List.length hm
          rw [List.length_take, List.length_drop] at hml
          have hbl : (tl (strip digs10 p)).length = ((tl p).filter notD).length := by rw [← len_tl]; exact hpb
          refine iteT ⟨_, rfl, p, rfl, ?_⟩
          refine for_it walk_str (fun j σ H' => ∃ v8 : Option V, σ = [some (.ref ru), some (.str wd), some (.ref D), some (.str (dotted wd)), some (.str p), some (.str (strip digs10 p)), some (.int (n : Int)), some (.int ((((tl p).take j).foldl lstep (Y, n)).2 : Nat)), v8] ∧ Same H H' ∧
            H' D = some (.lst ((((tl p).take j).foldl lstep (Y, n)).1.map V.int))) ⟨_, rfl, s4, d4⟩ (fun _ _ _ _ _ => trivial) ?_ ?_
          · rintro j x σ H5 H6 hj ⟨v8, rfl, s5, d5⟩ ⟨rfl, c, hc, rfl⟩
            have hc' : (tl p)[j]? = some c := by simpa using hc
            have nx3 := take_next hc'
            have ha := lfold_at ((tl p).take j) (Y, n)
            have hL := lfold_len ((tl p).take j) (Y, n)
            have hfl : (((tl p).take j).filter notD).length ≤ ((tl p).filter notD).length := (List.Sublist.filter _ (List.take_sublist j (tl p))).length_le
            have step : ((tl p).take (j + 1)).foldl lstep (Y, n) = lstep (((tl p).take j).foldl lstep (Y, n)) c := by rw [nx3, List.foldl_append]; rfl
            generalize ((tl p).take j).foldl lstep (Y, n) = a at d5 ha hL step ⊢
            have hk : a.2 < a.1.length := by
              rw [hL, ha]
              show n + _ < Y.length
              omega
            refine ⟨_, rfl, c, Str.ofString "123456789", rfl, rfl, _, rfl, ite2 (fun hb => ?_) fun hb => ?_⟩
            · have hcd : c ∈ digs := by
                have := of_decide_eq_true hb
                rw [digs_eq] at this
                exact this
              have hget : (a.1.map V.int)[a.2]? = some (.int (a.1.getD a.2 0)) := by
                rw [List.getElem?_map, List.getElem?_eq_getElem hk, List.getD_eq_getElem?_getD, List.getElem?_eq_getElem hk]; rfl
              refine ⟨_, rfl, _, rfl, D, _, (a.2 : Int), .int (a.1.getD a.2 0), rfl, rfl, SqL.of d5, atI_nat hget, _, rfl, S [c], _, rfl, int_sign c hcd, by show 1 ≤ 640; decide, _, _, rfl, ?_⟩
              refine ⟨_, rfl, _, rfl, D, _, (a.2 : Int), a.2, rfl, rfl, d5, ?_, ?_⟩
              · unfold ixN
                rw [List.length_map, if_pos (by omega), if_pos (by omega), Int.toNat_natCast]
              · refine ⟨some (.str (S [c])), ?_, same_new hDn s5, ?_⟩
                · rw [step]
                  unfold lstep
                  rw [if_pos hcd]
                  rfl
                · rw [upd_same, step]
                  unfold lstep
                  rw [if_pos hcd, ← List.map_set]
            · have hcd : ¬ c ∈ digs := by
                intro hh
                refine hb (decide_eq_true ?_)
                rw [digs_eq]
                exact hh
              refine ⟨_, rfl, _, _, rfl, rfl, ?_⟩
              refine ⟨some (.str (S [c])), ?_, s5, ?_⟩
              · rw [step]
                unfold lstep
                rw [if_neg hcd]
                rfl
              · rw [step]
                unfold lstep
                rw [if_neg hcd]
                exact d5
          · rintro σ H5 ⟨v8, rfl, s5, d5⟩
            have ez : (tl p).take p.cps.size = tl p := List.take_of_length_le (by simp)
            rw [ez] at d5
            exact ⟨_, _, _, rfl, s5, by rw [nx2]; exact d5⟩
        · rw [if_neg hm] at nx2
          rw [decide_eq_false hm]
          refine iteF ⟨Str.ofString "", rfl, ?_⟩
          refine for_it walk_str (fun j σ H' => ∃ v7 v8 : Option V, σ = [some (.ref ru), some (.str wd), some (.ref D), some (.str (dotted wd)), some (.str p), some (.str (strip digs10 p)), some (.int (n : Int)), v7, v8] ∧ Same H H' ∧ H' D = some (.lst (Y.map V.int))) ⟨_, _, rfl, s4, d4⟩ (fun _ _ _ _ _ => trivial) ?_ ?_
          · intro j x σ H5 H6 hj _ _
            exact absurd hj (by show ¬ j < (Str.ofString "").cps.size; rw [show (Str.ofString "").cps.size = 0 from by decide +kernel]; omega)
          · rintro σ H5 ⟨v7, v8, rfl, s5, d5⟩
            exact ⟨_, _, _, rfl, s5, by rw [nx2]; exact d5⟩
      · rintro σ H4 ⟨v6, v7, v8, rfl, s4, d4⟩
        exact ⟨_, _, _, _, _, rfl, s4, by rw [nx]; exact d4⟩
    · rintro σ H2 ⟨v4, v5, v6, v7, v8, rfl, s2, d2⟩
      rw [List.length_map, List.take_length] at d2
      have hXl : (lawLevFrom wd (List.replicate (wd.length + 3) 0) ps).length = wd.length + 3 := by rw [lawLev_len, List.length_replicate]
      refine ⟨_, rfl, 1, rfl, _, rfl, wd, rfl, h6 _ (by omega), _, _, rfl, rfl, _, rfl, D, _, rfl, SqL.of d2, fun q0 hq0 => ?_⟩
      refine q _ q0 (same_new (Same.free s2 hq0) s2) (Same.free s2 hq0) ?_
      rw [upd_same]
      unfold lawLev
      generalize lawLevFrom wd (List.replicate (wd.length + 3) 0) ps = X at hXl
      congr 2
      unfold cutV
      show ((X.map V.int).drop (HT.sIx _ 0 (some ((1 : Nat) : Int)))).take (HT.sIx _ _ (some ((wd.length : Int) + ((2 : Nat) : Int))) - HT.sIx _ 0 (some ((1 : Nat) : Int))) = _
      rw [← Int.natCast_add, HT.sIx_nat, HT.sIx_nat, List.length_map, hXl, Nat.min_eq_left (by omega), Nat.min_eq_left (by omega), List.map_take, List.map_drop]
      rfl
end
end Hy
set_option Elab.async false
set_option linter.all false
set_option maxRecDepth 100000
set_option maxHeartbeats 4000000
namespace Hy
open PySem PySem.Spec PyProof.Rows L2 CwR
def lawBr (L : List Int) (l r : Int) (n : Nat) : Nat → List Int
  | 0 => []
  | m + 1 => lawBr L l r n m ++ (if L.getD m 0 % 2 = 1 ∧ l ≤ (m : Int) ∧ r ≤ (n : Int) - (m : Int) then [(m : Int)] else [])
theorem lawBr_len (L : List Int) (l r : Int) (n : Nat) : ∀ m, (lawBr L l r n m).length ≤ m
  | 0 => Nat.le_refl _
  | m + 1 => by
    have := lawBr_len L l r n m
    unfold lawBr
    rw [List.length_append]
    split <;> simp <;> omega
def lawLv (ps : List Str) (word : Str) : List Int := ((lawLev ps word).drop 1).take (word.length + 1)
theorem lawLv_len (ps : List Str) (word : Str) : (lawLv ps word).length = word.length + 1 := by
  unfold lawLv
  rw [List.length_take, List.length_drop]
  have : (lawLev ps word).length = word.length + 3 := by unfold lawLev; rw [lawLev_len, List.length_replicate]
  omega
theorem ix_tupK {X : Cx} {K : PySem.W.Frag} (h : X.K = K) : IxR X (rIxT K) := h ▸ ix_tup
section
variable {P : Program} {w : World} {K : PySem.W.Frag} {mg : Str → Option Value} {base : Heap} {C : Addr}
abbrev nLawBreaks : List Str := ["_law_rules_here", "_law_word", "_law_known", "_law_at"]
theorem scLawBreaks : FnScope nLawBreaks ["_law_rules_here", "_law_word"] (defScope sLawBreaks) := ⟨rfl, rfl, rfl, by decide +kernel, rfl, by decide +kernel, by decide +kernel⟩
def spLawBreaks : Sp := fun vs H Q _ => ∃ (ru pt : Addr) (ps : List Str) (l r : Int) (word : Str), vs = [.ref ru, .str word] ∧ RulesAt H ru pt ps l r ∧ (∀ p ∈ ps, p.length ≤ 100 ∧ (strip digs10 p).length = ((tl p).filter notD).length) ∧ word.length ≤ 20 ∧
  ∀ H' D, Same H H' → H D = none → H' D = some (.lst ((lawBr (lawLv ps word) l r word.length (word.length + 1)).map V.int)) → Q (.ref D) H'
theorem ok_lawBreaks (D : Df K mg "_law_breaks" sLawBreaks ["_law_rules_here", "_law_word"]) (B : Bl mg) (cL : Cal P w K mg base 2 "_law_levels" ["_law_rules_here", "_law_word"] spLawLevels) :
    Cal P w K mg base 3 "_law_breaks" ["_law_rules_here", "_law_word"] spLawBreaks := by
  refine Cal.of D fun f fd F => F.ok scLawBreaks (fun vs H Q E h => ?_) (fun cdv A outer s H vs Q E hr h => ?_)
  · obtain ⟨_, _, _, _, _, _, rfl, _⟩ := h
    rfl
  · obtain ⟨ru, pt, ps, l, r, wd, rfl, R, g, hw, q⟩ := h
    have nd := scLawBreaks.nd
    refine ⟨_, pss_cons (ps_set (i := 2) nd rfl (.inr rfl) (pe_cl cL hr (by decide) (by rfl) (pa_cons (pv 0) (pa_cons (pv 1) pa_nil))))
      (pss_one (ps_ret (pe_lc (own := [("_law_at", 3)]) (g := gName 3) (by rfl) nd (pi_range1 (by rfl) B.range (pa_cons (pe_op op_add (pe_callB call_len_str (by rfl) B.len boot_len (pa_cons (pv 1) pa_nil)) pe_int) pa_nil))
        (blkOk_by (own := [("_law_at", 3)]) (N := nLawBreaks) (sc := defScope sLawBreaks) (by decide +kernel))
        (fun _ _ _ _ _ => pg_name (i := 3) nd rfl (Or.inl rfl))
        (fun _ _ _ _ _ => pts_one (PW.pt (pw_and (pt_cmpR op_eq (pe_op op_mod (pe_ix (ix_listK (K := K) rfl) (pv 2) (pv 3) (fun _ _ => rfl)) pe_int) pe_int (nomark _))
          (pw_and (pt_cmpR op_ge (pv 3) (pe_ix (ix_tupK (K := K) rfl) (pv 0) pe_int (fun _ _ => rfl)) (nomark _))
          (pw_and1 (pt_cmpR op_ge (pe_op op_sub (pe_callB call_len_str (by rfl) B.len boot_len (pa_cons (pv 1) pa_nil)) (pv 3)) (pe_ix (ix_tupK (K := K) rfl) (pv 0) pe_int (fun _ _ => rfl)) (nomark _)))))))
        (fun _ _ _ _ _ => pv 3)))), ?_⟩
    have h6 : ∀ n : Nat, n ≤ 1000 → n ≤ sizeLine := fun n h => Nat.le_of_lt (small1000 h)
    have hRa := R.a
    refine ⟨_, rfl, _, rfl, ru, pt, ps, l, r, wd, rfl, R, g, hw, fun H1 L s1 nL l1 => ?_⟩
    have hRa1 := s1 _ _ hRa
    refine ⟨_, rfl, wd, rfl, h6 _ (by omega), _, _, rfl, rfl, _, rfl, by omega, by omega, fun D hD => ?_⟩
    have eN : ((wd.length : Int) + 1).toNat = wd.length + 1 := by omega
    rw [eN]
    have hLl := lawLv_len ps wd
    have l1' : H1 L = some (.lst ((lawLv ps wd).map V.int)) := l1
    refine lc_range (fun i H' => Same H1 H' ∧ H' D = some (.lst ((lawBr (lawLv ps wd) l r wd.length i).map V.int))) ⟨same_new hD (Same.refl _), upd_same⟩ ?_ ?_
    · rintro i H2 hi ⟨s2, d2⟩
      have e0 : (0 : Int) + (i : Int) = i := Int.zero_add _
      rw [e0]
      have nx : lawBr (lawLv ps wd) l r wd.length (i + 1) = lawBr (lawLv ps wd) l r wd.length i ++ (if (lawLv ps wd).getD i 0 % 2 = 1 ∧ l ≤ (i : Int) ∧ r ≤ (wd.length : Int) - (i : Int) then [(i : Int)] else []) := rfl
      have hk : i < (lawLv ps wd).length := by omega
      have hget : ((lawLv ps wd).map V.int)[i]? = some (.int ((lawLv ps wd).getD i 0)) := by
        rw [List.getElem?_map, List.getElem?_eq_getElem hk, List.getD_eq_getElem?_getD, List.getElem?_eq_getElem hk]; rfl
      have hlen := lawBr_len (lawLv ps wd) l r wd.length i
      refine ⟨rfl, _, rfl, _, rfl, L, _, (i : Int), _, rfl, rfl, SqL.of (s2 _ _ l1'), atI_nat hget, _, _, rfl, rfl, by show (0 : Int) < 2; decide, rfl, _, rfl, ite2 (fun h1 => ?_) fun h1 => ?_⟩
      · have h1' := V.int.inj (of_decide_eq_true h1)
        refine ⟨_, rfl, _, rfl, ru, _, 1, _, rfl, rfl, SqT.of (s2 _ _ hRa1), atI_nat (j := 1) rfl, _, _, rfl, rfl, _, rfl, ite2 (fun h2 => ?_) fun h2 => ?_⟩
        · have h2' : l ≤ (i : Int) := of_decide_eq_true h2
          refine ⟨_, rfl, wd, rfl, h6 _ (by omega), _, rfl, _, _, rfl, rfl, _, rfl, ru, _, 2, _, rfl, rfl, SqT.of (s2 _ _ hRa1), atI_nat (j := 2) rfl, _, _, rfl, rfl, _, rfl, ite2 (fun h3 => ?_) fun h3 => ?_⟩
          · have h3' : r ≤ (wd.length : Int) - (i : Int) := of_decide_eq_true h3
            rw [if_pos ⟨h1', h2', h3'⟩] at nx
            refine ⟨_, rfl, _, d2, by rw [List.length_map]; exact small1000 (by omega), same_new hD s2, ?_⟩
            rw [upd_same, nx, List.map_append]
            rfl
          · rw [if_neg (fun h => h3 (decide_eq_true h.2.2)), List.append_nil] at nx
            exact ⟨s2, by rw [nx]; exact d2⟩
        · rw [if_neg (fun h => h2 (decide_eq_true h.2.1)), List.append_nil] at nx
          exact ⟨s2, by rw [nx]; exact d2⟩
      · rw [if_neg (fun h => h1 (decide_eq_true (congrArg V.int h.1))), List.append_nil] at nx
        exact ⟨s2, by rw [nx]; exact d2⟩
    · rintro H2 ⟨s2, d2⟩
      exact q H2 D (s1.trans s2) (Same.free s1 hD) d2
end
end Hy
set_option Elab.async false
set_option linter.all false
set_option maxRecDepth 100000
set_option maxHeartbeats 4000000
namespace Hy
open PySem PySem.Spec PyProof.Rows L2 CwR L2H
/-! ### _law_which -/
/-- the class x of the module, and whether an error of class D is one -/
def Kd (K : PySem.W.Frag) (mg : Str → Option Value) (D : Addr) (x : Str) (b : Bool) : Prop := ∃ u, mg x = some (.ref u) ∧ PySem.W.kitOne K (.ref D) (.ref u) = some b
structure Nine (K : PySem.W.Frag) (mg : Str → Option Value) (D : Addr) : Prop where
  ex : ExcC K D
  k0 : Kd K mg D "InvalidRules" false
  k1 : Kd K mg D "InvalidWord" false
  k2 : Kd K mg D "InvalidContext" false
  k3 : Kd K mg D "InvalidLetters" false
  k4 : Kd K mg D "InvalidSize" false
  k5 : Kd K mg D "InvalidTold" false
  k6 : Kd K mg D "InvalidText" false
  k7 : Kd K mg D "NotThere" true
  k8 : Kd K mg D "InvalidFormat" false
  vn : mg "ValueError" = none
  vk : PySem.W.kitOne K (.ref D) (.type "ValueError") = some true
theorem boot_tValueError : bootBuiltins "ValueError" = some (.type "ValueError") := by decide +kernel
theorem pe_cls {X : Cx} {x : Str} {u : Addr} {pos : Pos} (hg : Gl X x) (h : X.mg x = some (.ref u)) (hd : (x == ("__debug__" : Str)) = false := by decide) : PE X (.Name x pos) (tC (.ref u)) := pe_glob hg h rfl hd
theorem pe_isP {X : Cx} {a D : Addr} {oe : Obj} {n x : Str} {p q r pos : Pos} {i : Nat} {u : Addr} (hp : (a, oe) ∈ X.pn) (C : ExcC X.K D) (ho : ExOb D oe) (hgi : Gl X "isinstance") (hmi : X.mg "isinstance" = none) (hv : PE X (.Name n q) (tVar i)) (hg : Gl X x) (h : X.mg x = some (.ref u)) (hd : (x == ("__debug__" : Str)) = false := by decide)
    (he : starEach [.Name n q, .Name x r] X.env = (false, eval (.Name n q) X.env) :: starEach [.Name x r] X.env := by rfl) (he2 : starEach [.Name x r] X.env = (false, eval (.Name x r) X.env) :: starEach [] X.env := by rfl) (hpl : (backTo pos (starEach [.Name x r] X.env)).any (·.1) = false := by rfl) :
    PE X (.Call (.Name "isinstance" p) [.Name n q, .Name x r] [] pos) (tCB (rIsE X.K D a) (tCons (tVar i) (tCons (tC (.ref u)) tNil))) :=
  pe_callB (call_isP hp C ho.cls ho.dic ho.dat) hgi hmi boot_isinstance (pa_cons hv (pa_cons (pe_cls hg h hd) pa_nil he2) he) (by decide) (by decide) he hpl
section
variable {P : Program} {w : World} {K : PySem.W.Frag} {mg : Str → Option Value} {base : Heap} {D : Addr}
abbrev nWhich : List Str := ["_law_error", "_law_own"]
theorem scWhich : FnScope nWhich ["_law_error"] (defScope sWhich) := ⟨rfl, rfl, rfl, by decide +kernel, rfl, by decide +kernel, by decide +kernel⟩
def spWhich : Addr → Hp → VK → Prop := fun _ H Q => ∀ H' t, Same H H' → H t = none → H' t = some (.tup [.str "raised", .int 7]) → Q (.ref t) H'
theorem ok_which {f : Addr} {fd : FuncData} (F : Fun K "_law_which" "_law_which" sWhich f fd) (B : Bl mg) (N : Nine K mg D) : FnE P w K mg base 1 f fd "_law_error" D spWhich := by
  obtain ⟨oc, od, kV, doc, pm, an, cdv, ct, osl, rfl, lk, hcd⟩ := F.ex
  refine fnE_of lk hcd scWhich fun A outer s H Q p ho hr h => ?_
  have nd := scWhich.nd
  obtain ⟨c0, g0, e0⟩ := N.k0
  obtain ⟨c1, g1, e1⟩ := N.k1
  obtain ⟨c2, g2, e2⟩ := N.k2
  obtain ⟨c3, g3, e3⟩ := N.k3
  obtain ⟨c4, g4, e4⟩ := N.k4
  obtain ⟨c5, g5, e5⟩ := N.k5
  obtain ⟨c6, g6, e6⟩ := N.k6
  obtain ⟨c7, g7, e7⟩ := N.k7
  obtain ⟨c8, g8, e8⟩ := N.k8
  have hm : (p.1, p.2) ∈ (cxH CX0 P w K mg base nWhich "_law_which" (defScope sWhich) f cdv A outer s H E0 p).pn := List.mem_singleton.mpr rfl
  refine ⟨_, pss_cons (ps_set (i := 1) nd rfl (.inl rfl) (pe_lst (pa_cons (pe_isP hm N.ex ho (by rfl) B.isi (pv 0) (by rfl) g0) (pa_cons (pe_isP hm N.ex ho (by rfl) B.isi (pv 0) (by rfl) g1) pa_nil))))
    (pss_cons (ps_expr (pe_bm PySem.F.plainAttrs_list PySem.F.slot_list_extend PySem.F.type_list_extend mt_extend (pv 1) (pa_cons (pe_lst (pa_cons (pe_isP hm N.ex ho (by rfl) B.isi (pv 0) (by rfl) g2) pa_nil)) pa_nil)))
    (pss_cons (ps_expr (pe_bm PySem.F.plainAttrs_list PySem.F.slot_list_extend PySem.F.type_list_extend mt_extend (pv 1) (pa_cons (pe_lst (pa_cons (pe_isP hm N.ex ho (by rfl) B.isi (pv 0) (by rfl) g3) (pa_cons (pe_isP hm N.ex ho (by rfl) B.isi (pv 0) (by rfl) g4) pa_nil))) pa_nil)))
    (pss_cons (ps_expr (pe_bm PySem.F.plainAttrs_list PySem.F.slot_list_extend PySem.F.type_list_extend mt_extend (pv 1) (pa_cons (pe_lst (pa_cons (pe_isP hm N.ex ho (by rfl) B.isi (pv 0) (by rfl) g5) pa_nil)) pa_nil)))
    (pss_cons (ps_expr (pe_bm PySem.F.plainAttrs_list PySem.F.slot_list_extend PySem.F.type_list_extend mt_extend (pv 1) (pa_cons (pe_lst (pa_cons (pe_isP hm N.ex ho (by rfl) B.isi (pv 0) (by rfl) g6) (pa_cons (pe_isP hm N.ex ho (by rfl) B.isi (pv 0) (by rfl) g7) pa_nil))) pa_nil)))
    (pss_cons (ps_expr (pe_bm PySem.F.plainAttrs_list PySem.F.slot_list_extend PySem.F.type_list_extend mt_extend (pv 1) (pa_cons (pe_lst (pa_cons (pe_isP hm N.ex ho (by rfl) B.isi (pv 0) (by rfl) g8) pa_nil)) pa_nil)))
    (pss_cons (ps_if (PW.pt (pw_or (pt_cmpR op_ne (pe_bm PySem.F.plainAttrs_list PySem.F.slot_list_count PySem.F.type_list_count mt_countF (pv 1) (pa_cons pe_bl pa_nil)) pe_int (nomark _))
        (pw_or1 (pt_not (pt_val (pe_callB (call_isP hm N.ex ho.cls ho.dic ho.dat) (by rfl) B.isi boot_isinstance (pa_cons (pv 0) (pa_cons (pe_ty (by rfl) N.vn boot_tValueError) pa_nil)))))))) (pss_one (ps_ret (pe_tup (pa_cons pe_str (pa_cons (pe_un un_neg pe_int) pa_nil))))) pss_nil)
    (pss_one (ps_ret (pe_tup (pa_cons pe_str (pa_cons (pe_bm PySem.F.plainAttrs_list PySem.F.slot_list_index PySem.F.type_list_index mt_index (pv 1) (pa_cons pe_bl pa_nil)) pa_nil))))))))))), ?_⟩
  refine ⟨_, rfl, _, _, _, rfl, fun _ h => h, e0, _, rfl, _, _, _, rfl, fun _ h => h, e1, by show 2 ≤ sizeLine; decide, fun L hL => ?_⟩
  have st : ∀ (Hk : Hp) (P : Addr) (ys zs : List V), Same H Hk → Hk P = none → Same H (upd (upd Hk P (.lst ys)) L (.lst zs)) := fun Hk P ys zs s hP => same_new hL (same_new (Same.free s hP) s)
  have s0 : Same H (upd H L (.lst [.bl false, .bl false])) := same_new hL (Same.refl H)
  have l0 : upd H L (.lst [.bl false, .bl false]) L = some (.lst [.bl false, .bl false]) := upd_same
  generalize upd H L (.lst [.bl false, .bl false]) = H0 at s0 l0 ⊢
  refine ⟨_, rfl, .inl ⟨rfl, _, SqL.of l0⟩, _, rfl, _, _, _, rfl, fun _ h => h, e2, by show 1 ≤ sizeLine; decide, fun P0 hP0 => ⟨L, P0, _, _, rfl, rfl, (upd_ne (ne_of_none l0 hP0)).trans l0, upd_same, by show 2 + 1 ≤ sizeLine; decide, ?_⟩⟩
  have s1 := st H0 P0 [.bl false] [.bl false, .bl false, .bl false] s0 hP0
  have l1 : upd (upd H0 P0 (.lst [.bl false])) L (.lst [.bl false, .bl false, .bl false]) L = some (.lst [.bl false, .bl false, .bl false]) := upd_same
  show tSeq _ _ _ _ (upd (upd H0 P0 (.lst [.bl false])) L (.lst [.bl false, .bl false, .bl false]))
  generalize upd (upd H0 P0 (.lst [.bl false])) L (.lst [.bl false, .bl false, .bl false]) = H1 at s1 l1 ⊢
  refine ⟨_, rfl, .inl ⟨rfl, _, SqL.of l1⟩, _, rfl, _, _, _, rfl, fun _ h => h, e3, _, rfl, _, _, _, rfl, fun _ h => h, e4, by show 2 ≤ sizeLine; decide, fun P1 hP1 => ⟨L, P1, _, _, rfl, rfl, (upd_ne (ne_of_none l1 hP1)).trans l1, upd_same, by show 3 + 2 ≤ sizeLine; decide, ?_⟩⟩
  have s2 := st H1 P1 [.bl false, .bl false] [.bl false, .bl false, .bl false, .bl false, .bl false] s1 hP1
  have l2 : upd (upd H1 P1 (.lst [.bl false, .bl false])) L (.lst [.bl false, .bl false, .bl false, .bl false, .bl false]) L = some (.lst [.bl false, .bl false, .bl false, .bl false, .bl false]) := upd_same
  show tSeq _ _ _ _ (upd (upd H1 P1 (.lst [.bl false, .bl false])) L (.lst [.bl false, .bl false, .bl false, .bl false, .bl false]))
  generalize upd (upd H1 P1 (.lst [.bl false, .bl false])) L (.lst [.bl false, .bl false, .bl false, .bl false, .bl false]) = H2 at s2 l2 ⊢
  refine ⟨_, rfl, .inl ⟨rfl, _, SqL.of l2⟩, _, rfl, _, _, _, rfl, fun _ h => h, e5, by show 1 ≤ sizeLine; decide, fun P2 hP2 => ⟨L, P2, _, _, rfl, rfl, (upd_ne (ne_of_none l2 hP2)).trans l2, upd_same, by show 5 + 1 ≤ sizeLine; decide, ?_⟩⟩
  have s3 := st H2 P2 [.bl false] [.bl false, .bl false, .bl false, .bl false, .bl false, .bl false] s2 hP2
  have l3 : upd (upd H2 P2 (.lst [.bl false])) L (.lst [.bl false, .bl false, .bl false, .bl false, .bl false, .bl false]) L = some (.lst [.bl false, .bl false, .bl false, .bl false, .bl false, .bl false]) := upd_same
  show tSeq _ _ _ _ (upd (upd H2 P2 (.lst [.bl false])) L (.lst [.bl false, .bl false, .bl false, .bl false, .bl false, .bl false]))
  generalize upd (upd H2 P2 (.lst [.bl false])) L (.lst [.bl false, .bl false, .bl false, .bl false, .bl false, .bl false]) = H3 at s3 l3 ⊢
  refine ⟨_, rfl, .inl ⟨rfl, _, SqL.of l3⟩, _, rfl, _, _, _, rfl, fun _ h => h, e6, _, rfl, _, _, _, rfl, fun _ h => h, e7, by show 2 ≤ sizeLine; decide, fun P3 hP3 => ⟨L, P3, _, _, rfl, rfl, (upd_ne (ne_of_none l3 hP3)).trans l3, upd_same, by show 6 + 2 ≤ sizeLine; decide, ?_⟩⟩
  have s4 := st H3 P3 [.bl false, .bl true] [.bl false, .bl false, .bl false, .bl false, .bl false, .bl false, .bl false, .bl true] s3 hP3
  have l4 : upd (upd H3 P3 (.lst [.bl false, .bl true])) L (.lst [.bl false, .bl false, .bl false, .bl false, .bl false, .bl false, .bl false, .bl true]) L = some (.lst [.bl false, .bl false, .bl false, .bl false, .bl false, .bl false, .bl false, .bl true]) := upd_same
  show tSeq _ _ _ _ (upd (upd H3 P3 (.lst [.bl false, .bl true])) L (.lst [.bl false, .bl false, .bl false, .bl false, .bl false, .bl false, .bl false, .bl true]))
  generalize upd (upd H3 P3 (.lst [.bl false, .bl true])) L (.lst [.bl false, .bl false, .bl false, .bl false, .bl false, .bl false, .bl false, .bl true]) = H4 at s4 l4 ⊢
  refine ⟨_, rfl, .inl ⟨rfl, _, SqL.of l4⟩, _, rfl, _, _, _, rfl, fun _ h => h, e8, by show 1 ≤ sizeLine; decide, fun P4 hP4 => ⟨L, P4, _, _, rfl, rfl, (upd_ne (ne_of_none l4 hP4)).trans l4, upd_same, by show 8 + 1 ≤ sizeLine; decide, ?_⟩⟩
  have s5 := st H4 P4 [.bl false] [.bl false, .bl false, .bl false, .bl false, .bl false, .bl false, .bl false, .bl true, .bl false] s4 hP4
  have l5 : upd (upd H4 P4 (.lst [.bl false])) L (.lst [.bl false, .bl false, .bl false, .bl false, .bl false, .bl false, .bl false, .bl true, .bl false]) L = some (.lst [.bl false, .bl false, .bl false, .bl false, .bl false, .bl false, .bl false, .bl true, .bl false]) := upd_same
  show tSeq _ _ _ _ (upd (upd H4 P4 (.lst [.bl false])) L (.lst [.bl false, .bl false, .bl false, .bl false, .bl false, .bl false, .bl false, .bl true, .bl false]))
  generalize upd (upd H4 P4 (.lst [.bl false])) L (.lst [.bl false, .bl false, .bl false, .bl false, .bl false, .bl false, .bl false, .bl true, .bl false]) = H5 at s5 l5 ⊢
  refine ⟨_, rfl, .inl ⟨rfl, _, SqL.of l5⟩, L, _, _, rfl, rfl, SqL.of l5, rfl, rfl, rfl, _, rfl, ?_⟩
  refine iteNS rfl ?_
  refine ⟨_, rfl, _, _, _, rfl, fun _ h => h, N.vk, _, rfl, iteF ?_⟩
  refine ⟨_, rfl, .inl ⟨rfl, _, SqL.of l5⟩, L, _, _, 7, _, rfl, rfl, SqL.of l5, rfl, rfl, rfl, rfl, fun m z hm hz => ?_, ?_⟩
  · have h7 : m = 0 ∨ m = 1 ∨ m = 2 ∨ m = 3 ∨ m = 4 ∨ m = 5 ∨ m = 6 := by omega
    rcases h7 with rfl | rfl | rfl | rfl | rfl | rfl | rfl <;> (cases hz; rfl)
  refine ⟨by show 2 ≤ sizeLine; decide, fun t ht => ?_⟩
  exact h _ t (same_new (Same.free s5 ht) s5) (Same.free s5 ht) upd_same
end
end Hy
set_option Elab.async false
set_option linter.all false
set_option maxRecDepth 100000
set_option maxHeartbeats 4000000
namespace Hy
open PySem PySem.Spec PyProof.Rows L2 CwR L2H
/-! ### _law_do, _law_gaps -/
/-- the class HyphenError, and that NotThere is under it -/
structure HE (K : PySem.W.Frag) (mg : Str → Option Value) (N CH : Addr) : Prop where
  g : mg "HyphenError" = some (.ref CH)
  e : PySem.W.exmOne K (.ref N) (.ref CH) = some true
section
variable {P : Program} {w : World} {K : PySem.W.Frag} {mg : Str → Option Value} {base : Heap} {C N CH : Addr}
def Wh (P : Program) (w : World) (K : PySem.W.Frag) (mg : Str → Option Value) (base : Heap) (D : Addr) : Prop :=
  ∃ f fd, FnE P w K mg base 1 f fd "_law_error" D spWhich ∧ mg "_law_which" = some (.ref f) ∧ PySem.W.keepIn K (.ref f) = true ∧ Binds K fd ["_law_error"] []
abbrev nDo : List Str := ["_law_hyphenator", "_law_what", "_law_text", "_law_error"]
theorem scDo : FnScope nDo ["_law_hyphenator", "_law_what", "_law_text"] (defScope sDo) := ⟨rfl, rfl, rfl, by decide +kernel, rfl, by decide +kernel, by decide +kernel⟩
def spDo (C : Addr) : Sp := fun vs H Q _ => ∃ (p d ru pt : Addr) (ps : List Str) (l r : Int) (kvs : List (Key × V)) (wh t wd : Str), vs = [.ref p, .str wh, .str t] ∧ HyAt C H p d ru pt ps l r kvs ∧ kvs.length ≤ 100 ∧
  ((wh = "add" ∧ GoodT t wd ∧ ∀ H', HyAt C H' p d ru pt ps l r (putK kvs (Sum.inr wd) (.str t)) → (∀ b o, H b = some o → b ≠ d → H' b = some o) → Q (.int ((putK kvs (Sum.inr wd : Key) (V.str t)).length : Nat)) H') ∨
   (wh = "remove" ∧ t = wd ∧ wd.length ≤ 20 ∧ isWord wd 20 = true ∧
    (∀ v, valV kvs (Sum.inr wd : Key) = some v → ∀ H', HyAt C H' p d ru pt ps l r (dropK kvs (Sum.inr wd)) → (∀ b o, H b = some o → b ≠ d → H' b = some o) → Q (.int ((dropK kvs (Sum.inr wd : Key)).length : Nat)) H') ∧
    (valV kvs (Sum.inr wd : Key) = none → ∀ H' e, Same H H' → H e = none → H' e = some (.tup [.str "raised", .int 7]) → Q (.ref e) H')))
theorem ok_do (D : Df K mg "_law_do" sDo ["_law_hyphenator", "_law_what", "_law_text"]) (T : Txt K mg C) (B : Bl mg) (mA : Mth P w K mg base CX0 C 3 "add" ["self", "told"] (spAdd C)) (mR : Mth P w K mg base (L2.CX P w) C 3 "remove" ["self", "word"] (spRemove C N))
    (h : HE K mg N CH) (W : Wh P w K mg base N) : Cal P w K mg base 4 "_law_do" ["_law_hyphenator", "_law_what", "_law_text"] (spDo C) := by
  refine Cal.of D fun f fd F => F.ok scDo (fun vs H Q E h => ?_) (fun cdv A outer s H vs Q E hr hsp => ?_)
  · obtain ⟨_, _, _, _, _, _, _, _, _, _, _, rfl, _⟩ := h
    rfl
  · obtain ⟨p, d, ru, pt, ps, l, r, kvs, wh, t, wd, rfl, S, hl, k⟩ := hsp
    have nd := scDo.nd
    obtain ⟨fA, fdA, GA, mmA, bA⟩ := mA
    obtain ⟨fR, fdR, GR, mmR, bR⟩ := mR
    obtain ⟨fW, fdW, GW, gW, kW, bW⟩ := W
    refine ⟨_, pss_one (ps_try_as (i := 3) rfl rfl nd rfl rfl ⟨rfl, by decide, .inl h.g⟩ takes0
      (fun W pn xe tk _ => pss_one (ps_ret (pe_ifExp (pt_cmpR op_eq (pv 1) pe_str (nomark _)) (pe_meth (pv 0) T.cl mmA GA hr bA .nil pass0 (pa_cons (pv 2) pa_nil)) (pe_methS (pv 0) T.cl mmR GR hr bR (fun σ => passAt tk σ) (pa_cons (pv 2) pa_nil)))))
      (fun a oe cls d pn hz hf => pss_one (ps_ret (pe_callE (D := N) hz hf GW ((roomH_of hr).mono (by decide)) (by rfl) gW kW bW (pv 3))))), ?_⟩
    obtain ⟨⟨dx, h1⟩, hd, _⟩ := id S
    rcases k with ⟨rfl, gt, k⟩ | ⟨rfl, rfl, wl, iw, k1, k2⟩
    · refine ⟨_, rfl, rfl, _, rfl, iteT ?_⟩
      exact ⟨_, rfl, p, dx, _, rfl, h1, flds_no _ _ (by decide +kernel) (by decide +kernel), _, rfl, p, d, ru, pt, ps, l, r, kvs, t, wd, rfl, S, gt, hl, k⟩
    · refine ⟨_, rfl, rfl, _, rfl, ?_⟩
      have hne : ¬ V.str (Str.ofString "remove") = V.str (Str.ofString "add") := fun e => absurd (V.str.inj e) (by decide +kernel)
      rw [decide_eq_false hne]
      refine iteF ⟨_, rfl, p, dx, _, rfl, h1, flds_no _ _ (by decide +kernel) (by decide +kernel), _, rfl, p, d, ru, pt, ps, l, r, kvs, t, rfl, S, wl, iw, k1, fun hn H' s' => ?_⟩
      refine ⟨true, h.e, fun _ a ha => ?_, fun q => nomatch q⟩
      exact ⟨rfl, rfl, rfl, fun H2 e s2 n2 e2 => k2 hn H2 e (s'.trans s2) (Same.free s' n2) e2⟩
/-! _law_gaps -/
def lawGapsTo (t : Str) : Nat → List Int
  | 0 => []
  | m + 1 => lawGapsTo t m ++ (if (tl t)[m]? = some 45 then [(m : Int) - (Txt.count (cutS t none (some (m : Int))) dash)] else [])
def lawGaps (t : Str) : List Int := lawGapsTo t t.length
theorem lawGapsTo_len (t : Str) : ∀ m, (lawGapsTo t m).length ≤ m
  | 0 => Nat.le_refl _
  | m + 1 => by
    have := lawGapsTo_len t m
    unfold lawGapsTo
    rw [List.length_append]
    split <;> simp <;> omega
theorem scLawGaps : FnScope ["_law_told", "_law_at"] ["_law_told"] (defScope sLawGaps) := ⟨rfl, rfl, rfl, by decide +kernel, rfl, by decide +kernel, by decide +kernel⟩
def spLawGaps : Sp := fun vs H Q _ => ∃ t : Str, vs = [.str t] ∧ t.length ≤ 100 ∧ ∀ H' D, Same H H' → H D = none → H' D = some (.lst ((lawGaps t).map V.int)) → Q (.ref D) H'
theorem ok_lawGaps (D : Df K mg "_law_gaps" sLawGaps ["_law_told"]) (B : Bl mg) : Cal P w K mg base 1 "_law_gaps" ["_law_told"] spLawGaps := by
  refine Cal.of D fun f fd F => F.ok scLawGaps (fun vs H Q E h => ?_) (fun cdv A outer s H vs Q E hr h => ?_)
  · obtain ⟨_, rfl, _⟩ := h
    rfl
  · obtain ⟨t, rfl, ht, q⟩ := h
    have nd := scLawGaps.nd
    refine ⟨_, pss_one (ps_ret (pe_lc (own := [("_law_at", 1)]) (g := gName 1) (by rfl) nd (pi_range1 (by rfl) B.range (pa_cons (pe_callB call_len_str (by rfl) B.len boot_len (pa_cons (pv 0) pa_nil)) pa_nil))
        (blkOk_by (own := [("_law_at", 1)]) (N := ["_law_told", "_law_at"]) (sc := defScope sLawGaps) (by decide +kernel))
        (fun _ _ _ _ _ => pg_name (i := 1) nd rfl (Or.inl rfl))
        (fun _ _ _ _ _ => pts_one (pt_cmpR op_eq (pe_ix ix_str (pv 0) (pv 1) (fun _ _ => rfl)) pe_str (nomark _)))
        (fun _ _ _ _ _ => pe_op op_sub (pv 1) (pe_m1 PySem.F.slot_str_count PySem.F.type_str_count mt_count (pe_slice sl_str (pv 0) po_none (po_some (pv 1))) pe_str)))), ?_⟩
    have h6 : ∀ n : Nat, n ≤ 1000 → n ≤ sizeLine := fun n h => Nat.le_of_lt (small1000 h)
    refine ⟨_, rfl, t, rfl, h6 _ (by omega), _, rfl, by omega, by omega, fun D hD => ?_⟩
    rw [Int.toNat_natCast]
    refine lc_range (fun i H' => Same H H' ∧ H' D = some (.lst ((lawGapsTo t i).map V.int))) ⟨same_new hD (Same.refl _), upd_same⟩ ?_ ?_
    · rintro i H2 hi ⟨s2, d2⟩
      have e0 : (0 : Int) + (i : Int) = i := Int.zero_add _
      rw [e0]
      have hi' : i < (tl t).length := by rw [← len_tl]; exact hi
      have nx : lawGapsTo t (i + 1) = lawGapsTo t i ++ (if (tl t)[i]? = some 45 then [(i : Int) - (Txt.count (cutS t none (some (i : Int))) dash)] else []) := rfl
      have hlen := lawGapsTo_len t i
      refine ⟨rfl, _, rfl, _, rfl, t, (i : Int), (tl t)[i], rfl, rfl, h6 _ (by omega), atI_nat (List.getElem?_eq_getElem hi'), rfl, _, rfl, ?_⟩
      by_cases hc : (tl t)[i] = 45
      · have e1 : V.str (S [(tl t)[i]]) = V.str (Str.ofString "-") := by rw [hc]; decide +kernel
        rw [decide_eq_true e1]
        rw [if_pos (by rw [List.getElem?_eq_getElem hi', hc])] at nx
        refine iteT ⟨_, rfl, _, rfl, _, rfl, (i : Int), rfl, t, rfl, h6 _ (by omega), ⟨_, rfl⟩, _, _, rfl, rfl, _, _, rfl, rfl, _, d2, by rw [List.length_map]; exact small1000 (by omega), same_new hD s2, ?_⟩
        rw [upd_same, nx, List.map_append]
        rfl
      · have e1 : ¬ V.str (S [(tl t)[i]]) = V.str (Str.ofString "-") := fun e => hc (by
          have := congrArg tl (V.str.inj e)
          have e3 : tl (Str.ofString "-") = [45] := by decide +kernel
          rw [e3] at this
          exact (List.cons.inj this).1)
        rw [decide_eq_false e1]
        rw [if_neg (by rw [List.getElem?_eq_getElem hi']; exact fun e => hc (Option.some.inj e)), List.append_nil] at nx
        exact iteF ⟨s2, by rw [nx]; exact d2⟩
    · rintro H2 ⟨s2, d2⟩
      exact q H2 D s2 hD d2
end
end Hy
set_option Elab.async false
set_option linter.all false
set_option maxRecDepth 100000
set_option maxHeartbeats 4000000
namespace Hy
open PySem PySem.Spec PyProof.Rows L2 CwR
/-! ### the mathematics: the patterns that the law makes -/
theorem Shape.mem {p : Str} (h : Shape p) : ∀ c ∈ tl p, c = 46 ∨ c = 97 ∨ c = 98 ∨ c ∈ digs := by
  obtain ⟨m, l, x, y, m1, m4, pt, rfl⟩ := h
  intro c hc
  have hd : ∀ b, c ∈ dt b → c = 46 := fun b hb => by
    cases b with
    | false => cases hb
    | true => exact List.mem_singleton.mp hb
  rcases List.mem_append.mp hc with h | h
  · rcases List.mem_append.mp h with h | h
    · exact .inl (hd x h)
    · exact .inr (pt.al c h)
  · exact .inl (hd y h)
theorem Shape.strip_eq {p : Str} (h : Shape p) : strip digs10 p = strip digs p := by
  unfold strip
  congr 1
  refine List.filter_congr fun c hc => ?_
  rcases h.mem c hc with rfl | rfl | rfl | h
  · decide
  · decide
  · decide
  · have h10 : c ∈ digs10 := by
      simp only [List.mem_cons, List.not_mem_nil, or_false] at h ⊢
      omega
    rw [decide_eq_true h, decide_eq_true h10]
theorem strip_notD (p : Str) : tl (strip digs p) = (tl p).filter notD := rfl
theorem Shape.bare {p : Str} (h : Shape p) : p.length ≤ 100 ∧ (strip digs10 p).length = ((tl p).filter notD).length := by
  refine ⟨Nat.le_trans (shape_len h) (by decide), ?_⟩
  rw [h.strip_eq, len_tl, strip_notD]
theorem filter_lt : ∀ {l : List Nat}, l.any (fun c => decide (c ∈ digs)) = true → (l.filter notD).length < l.length
  | [], h => by cases h
  | c :: l, h => by
    have hle := List.length_filter_le notD l
    rw [List.any_cons, Bool.or_eq_true] at h
    by_cases hc : c ∈ digs
    · rw [List.filter_cons_of_neg (by show ¬ (!decide (c ∈ digs)) = true; rw [decide_eq_true hc]; decide), List.length_cons]
      omega
    · have h' := h.resolve_left (by simpa using hc)
      rw [List.filter_cons_of_pos (by show (!decide (c ∈ digs)) = true; rw [decide_eq_false hc]; rfl), List.length_cons, List.length_cons]
      have := filter_lt h'
      omega
theorem na_at : ∀ {l : List Nat} {b : Bool}, na b l = true → ∀ (i : Nat) (x y : Nat), l[i]? = some x → l[i + 1]? = some y → (decide (x ∈ digs) && decide (y ∈ digs)) = false
  | [], _, _, i, x, y, h, _ => by cases h
  | [c], _, _, i, x, y, _, h => by cases i <;> cases h
  | c :: d :: l, b, h, i, x, y, hx, hy => by
    have h1 : (!(b && decide (c ∈ digs)) && na (decide (c ∈ digs)) (d :: l)) = true := h
    rw [Bool.and_eq_true] at h1
    cases i with
    | zero =>
      cases hx
      cases hy
      have h2 : (!(decide (c ∈ digs) && decide (d ∈ digs)) && na (decide (d ∈ digs)) l) = true := h1.2
      rw [Bool.and_eq_true, Bool.not_eq_true'] at h2
      exact h2.1
    | succ i => exact na_at h1.2 i x y hx hy
theorem ends_dot (l : List Nat) : Txt.endswith (S l) (Str.ofString ".") = decide (l.getLast? = some 46) := by
  unfold Txt.endswith
  rw [PySem.StrLaws.subAt_eq]
  have e1 : (Str.ofString ".").length = 1 := by decide +kernel
  have e2 : (Str.ofString ".").cps.toList = [46] := by decide +kernel
  rw [e1, e2, len_S]
  show (decide (0 + 1 ≤ l.length) && ((l.drop (l.length - 1)).take 1 == [46])) = _
  rcases List.eq_nil_or_concat l with rfl | ⟨r, c, rfl⟩
  · rfl
  · rw [List.concat_eq_append]
    rw [List.length_append, List.length_singleton, Nat.add_sub_cancel, List.drop_left, List.getLast?_append]
    show (decide (0 + 1 ≤ r.length + 1) && ([c] == [46])) = decide (some c = some 46)
    rw [decide_eq_true (show 0 + 1 ≤ r.length + 1 by omega), Bool.true_and]
    by_cases h : c = 46
    · subst h; rfl
    · rw [decide_eq_false (fun e => h (Option.some.inj e))]
      simpa using h
theorem cut_init (l : List Nat) : cutS (S l) none (some (-1)) = S l.dropLast := by
  refine str_tl.mpr ?_
  unfold cutS
  show (l.drop (HT.sIx (S l).length 0 none)).take (HT.sIx (S l).length (S l).length (some (-1)) - HT.sIx (S l).length 0 none) = l.dropLast
  rw [HT.sIx_none, len_S]
  have e : HT.sIx l.length l.length (some (-1)) = l.length - 1 := by
    show (if (-1 : Int) < 0 then ((-1 : Int) + (l.length : Int)).toNat else min (-1 : Int).toNat l.length) = _
    rw [if_pos (by decide)]
    omega
  rw [e, List.drop_zero, Nat.sub_zero, List.dropLast_eq_take]
theorem PT.ne {m : Nat} {l : List Nat} (p : PT m (m + 1) l) (h : 1 ≤ m) : l ≠ [] := fun e => by
  have := p.cnt
  rw [e] at this
  have h2 : (0 : Nat) = min (m + 1) m := this
  omega
theorem PT.no46 {m i : Nat} {l : List Nat} (p : PT m i l) : (46 : Nat) ∉ l := fun h => by
  rcases p.al 46 h with h | h | h
  · cases h
  · cases h
  · revert h; decide
theorem inside_shape {m : Nat} {l : List Nat} {x y : Bool} (pt : PT m (m + 1) l) (m1 : 1 ≤ m) : inside (S (dt x ++ l ++ dt y)) = S l := by
  have hne := pt.ne m1
  have h46 := pt.no46
  obtain ⟨c, r, rfl⟩ : ∃ c r, l = c :: r := by
    cases l with
    | nil => exact absurd rfl hne
    | cons c r => exact ⟨c, r, rfl⟩
  have e1 : in1 (S (dt x ++ (c :: r) ++ dt y)) = S ((c :: r) ++ dt y) := by
    unfold in1
    cases x with
    | true =>
      show (if (some 46 : Option Nat) = some 46 then cutS (S (46 :: ((c :: r) ++ dt y))) (some 1) none else _) = _
      rw [if_pos rfl]
      refine str_tl.mpr ?_
      rw [cut_tail]
      rfl
    | false =>
      show (if (some c : Option Nat) = some 46 then _ else S ((c :: r) ++ dt y)) = _
      rw [if_neg]
      intro e
      exact h46 (by rw [← Option.some.inj e]; exact List.mem_cons_self)
  unfold inside
  rw [e1]
  unfold in2
  rw [ends_dot]
  cases y with
  | true =>
    show (if decide (((c :: r) ++ [46]).getLast? = some 46) = true then cutS (S ((c :: r) ++ [46])) none (some (-1)) else _) = _
    rw [List.getLast?_append]
    show (if decide ((some 46 : Option Nat) = some 46) = true then cutS (S ((c :: r) ++ [46])) none (some (-1)) else _) = _
    rw [if_pos (by decide), cut_init, List.dropLast_concat]
  | false =>
    show (if decide (((c :: r) ++ []).getLast? = some 46) = true then _ else S ((c :: r) ++ [])) = _
    rw [List.append_nil, if_neg]
    intro h
    exact h46 (List.mem_of_getLast? (of_decide_eq_true h))
theorem Shape.good {p : Str} (h : Shape p) : GoodP p := by
  have hl := shape_len h
  obtain ⟨m, l, x, y, m1, m4, pt, rfl⟩ := h
  have hi := inside_shape (x := x) (y := y) pt m1
  have hc : (strip digs (S l)).length = m := by
    rw [len_tl, strip_notD]
    show (l.filter notD).length = m
    rw [pt.cnt]; omega
  refine ⟨by omega, ?_, ?_, ?_, ?_, ?_, ?_⟩
  · intro e
    have e' : dt x ++ l ++ dt y = [] := e
    rw [List.append_eq_nil_iff, List.append_eq_nil_iff] at e'
    exact pt.ne m1 e'.1.2
  · rw [hi]
    refine List.all_eq_true.mpr fun c hc => decide_eq_true ?_
    rcases pt.al c hc with rfl | rfl | h
    · decide
    · decide
    · exact List.mem_append_right _ h
  · rw [hi]
    exact na_at pt.ad
  · rw [hi, hc]; exact m1
  · rw [hi, hc]; exact m4
  · rw [hi, len_tl, len_S, strip_notD]
    exact filter_lt (pt.dig rfl)
end Hy
set_option Elab.async false
set_option linter.all false
set_option maxRecDepth 100000
set_option maxHeartbeats 4000000
namespace Hy
open PySem PySem.Spec PyProof.Rows L2 CwR
/-! ### the law's levels are the package's -/
def up1 (L : List Int) (p : Int × Int) : List Int := upL L (p.1 + 1, p.2)
theorem pairsAt_congr {D E : List Int} {s : Nat} : ∀ {n : Nat}, (∀ k, k < n → D.getD k 0 = E.getD k 0) → pairsAt D s n = pairsAt E s n
  | 0, _ => rfl
  | n + 1, h => by
    unfold pairsAt
    rw [pairsAt_congr (n := n) fun k hk => h k (by omega), h n (by omega)]
theorem pd_letter (D : List Int) (s : Nat) : pairsAt (D ++ [0]) s (D ++ [0]).length = pairsAt D s D.length := by
  rw [List.length_append, List.length_singleton]
  show pairsAt (D ++ [0]) s D.length ++ (if 0 < (D ++ [0]).getD D.length 0 then [((s : Int) + (D.length : Int) - 1, (D ++ [0]).getD D.length 0)] else []) = _
  have e : (D ++ [0]).getD D.length 0 = 0 := by rw [List.getD_eq_getElem?_getD, List.getElem?_append_right (Nat.le_refl _), Nat.sub_self]; rfl
  rw [e, if_neg (by decide), List.append_nil]
  exact pairsAt_congr fun k hk => by rw [List.getD_eq_getElem?_getD, List.getD_eq_getElem?_getD, List.getElem?_append_left hk]
theorem pd_digit {D : List Int} {s n : Nat} (hn : D.length = n + 1) (h0 : D.getD n 0 = 0) {d : Int} (hd : 0 < d) : pairsAt (D.set n d) s (D.set n d).length = pairsAt D s D.length ++ [((s : Int) + (n : Int) - 1, d)] := by
  rw [List.length_set, hn]
  show pairsAt (D.set n d) s n ++ (if 0 < (D.set n d).getD n 0 then [((s : Int) + (n : Int) - 1, (D.set n d).getD n 0)] else []) = (pairsAt D s n ++ (if 0 < D.getD n 0 then [((s : Int) + (n : Int) - 1, D.getD n 0)] else [])) ++ _
  have e : (D.set n d).getD n 0 = d := by
    rw [List.getD_eq_getElem?_getD, List.getElem?_set_self (by omega)]; rfl
  rw [e, h0, if_pos hd, if_neg (by decide), List.append_nil]
  congr 1
  exact pairsAt_congr fun k hk => by rw [List.getD_eq_getElem?_getD, List.getD_eq_getElem?_getD, List.getElem?_set_ne (by omega)]
theorem dig_pos {c : Nat} (h : c ∈ digs) : (0 : Int) < (c : Int) - 48 := by
  simp only [List.mem_cons, List.not_mem_nil, or_false] at h
  omega
/-- the law's fold over the signs is the fold over the pairs -/
theorem core (X : List Int) (s : Nat) : ∀ (r : List Nat) (D : List Int) (b : Bool) (n : Nat), D.length = n + 1 → na b r = true → (b = false → D.getD n 0 = 0) →
    r.foldl lstep ((pairsAt D s D.length).foldl up1 X, s + n) = ((pairsAt (r.foldl dstep D) s (r.foldl dstep D).length).foldl up1 X, s + n + (r.filter notD).length)
  | [], _, _, _, _, _, _ => rfl
  | c :: r, D, b, n, hn, h, h0 => by
    have h1 : (!(b && decide (c ∈ digs)) && na (decide (c ∈ digs)) r) = true := h
    rw [Bool.and_eq_true, Bool.not_eq_true'] at h1
    rw [List.foldl_cons, List.foldl_cons]
    by_cases hc : c ∈ digs
    · rw [decide_eq_true hc, Bool.and_true] at h1
      have hz := h0 h1.1
      have ed : dstep D c = D.set n ((c : Int) - 48) := by
        unfold dstep
        rw [if_pos hc, hn, Nat.add_sub_cancel]
      have el : lstep ((pairsAt D s D.length).foldl up1 X, s + n) c = ((pairsAt (D.set n ((c : Int) - 48)) s (D.set n ((c : Int) - 48)).length).foldl up1 X, s + n) := by
        rw [pd_digit hn hz (dig_pos hc), List.foldl_append]
        unfold lstep
        rw [if_pos hc]
        show _ = (up1 _ _, _)
        unfold up1 upL
        have ek : ((s : Int) + (n : Int) - 1 + 1).toNat = s + n := by omega
        dsimp only
        rw [ek]
      rw [ed, el]
      rw [core X s r (D.set n ((c : Int) - 48)) true n (by rw [List.length_set]; exact hn) h1.2 (fun e => by cases e)]
      rw [List.filter_cons_of_neg (by show ¬ (!decide (c ∈ digs)) = true; rw [decide_eq_true hc]; decide)]
    · rw [decide_eq_false hc] at h1
      have ed : dstep D c = D ++ [0] := by
        unfold dstep
        rw [if_neg hc]
      have el : lstep ((pairsAt D s D.length).foldl up1 X, s + n) c = ((pairsAt (D ++ [0]) s (D ++ [0]).length).foldl up1 X, s + (n + 1)) := by
        rw [pd_letter]
        unfold lstep
        rw [if_neg hc]
        rfl
      rw [ed, el]
      rw [core X s r (D ++ [0]) false (n + 1) (by rw [List.length_append, List.length_singleton, hn]) h1.2 (fun _ => by rw [List.getD_eq_getElem?_getD, List.getElem?_append_right (by omega), hn, Nat.sub_self]; rfl)]
      rw [List.filter_cons_of_pos (by show (!decide (c ∈ digs)) = true; rw [decide_eq_false hc]; rfl), List.length_cons]
      congr 1
      omega
theorem core0 (X : List Int) (s : Nat) (p : Str) (h : na false (tl p) = true) : ((tl p).foldl lstep (X, s)).1 = (pairsAt (digsOf p) s (digsOf p).length).foldl up1 X := by
  have := core X s (tl p) [0] false 0 rfl h (fun _ => rfl)
  have e : pairsAt [0] s ([0] : List Int).length = [] := rfl
  rw [e] at this
  have e2 : (([] : List (Int × Int)).foldl up1 X, s + 0) = (X, s) := rfl
  rw [e2] at this
  rw [this]
  rfl
theorem dlen (r : List Nat) : ∀ D : List Int, (r.foldl dstep D).length = D.length + (r.filter notD).length := by
  induction r with
  | nil => intro D; rfl
  | cons c r ih =>
    intro D
    rw [List.foldl_cons, ih]
    unfold dstep
    by_cases h : c ∈ digs
    · rw [if_pos h, List.length_set, List.filter_cons_of_neg (by show ¬ (!decide (c ∈ digs)) = true; rw [decide_eq_true h]; decide)]
    · rw [if_neg h, List.length_append, List.length_singleton, List.filter_cons_of_pos (by show (!decide (c ∈ digs)) = true; rw [decide_eq_false h]; rfl), List.length_cons]
      omega
/-- with a 0 ahead and behind -/
def padded (L : List Int) : List Int := 0 :: (L ++ [0])
theorem up1_pad {L : List Int} {q : Int × Int} (h0 : 0 ≤ q.1) (h1 : q.1 < (L.length : Int)) : up1 (padded L) q = padded (upL L q) := by
  obtain ⟨k, hk⟩ := Int.eq_ofNat_of_zero_le h0
  obtain ⟨g, d⟩ := q
  dsimp only at hk h1
  subst hk
  have hk : k < L.length := by omega
  unfold up1 upL padded
  have e : ((k : Int) + 1).toNat = k + 1 := by omega
  dsimp only
  rw [e, Int.toNat_natCast]
  have e2 : (0 :: (L ++ [0])).getD (k + 1) 0 = L.getD k 0 := by
    rw [List.getD_eq_getElem?_getD, List.getD_eq_getElem?_getD, List.getElem?_cons_succ, List.getElem?_append_left hk]
  rw [e2, List.set_cons_succ, List.set_append_left _ _ hk]
theorem upf_pad : ∀ {l : List (Int × Int)} {L : List Int}, (∀ q ∈ l, 0 ≤ q.1 ∧ q.1 < (L.length : Int)) → l.foldl up1 (padded L) = padded (l.foldl upL L)
  | [], _, _ => rfl
  | q :: l, L, h => by
    have h1 := h q List.mem_cons_self
    rw [List.foldl_cons, List.foldl_cons, up1_pad h1.1 h1.2]
    exact upf_pad fun x hx => by rw [upL_len]; exact h x (List.mem_cons_of_mem _ hx)
theorem mem_pairs {D : List Int} {s : Nat} {q : Int × Int} : ∀ {n : Nat}, q ∈ pairsAt D s n → ∃ k, k < n ∧ q.1 = (s : Int) + (k : Int) - 1 ∧ 0 < D.getD k 0
  | 0, h => by cases h
  | n + 1, h => by
    unfold pairsAt at h
    rcases List.mem_append.mp h with h | h
    · obtain ⟨k, hk, e⟩ := mem_pairs h
      exact ⟨k, by omega, e⟩
    · split at h
      · rename_i hd
        rw [List.mem_singleton] at h
        subst h
        exact ⟨n, by omega, rfl, hd⟩
      · cases h
theorem mem_found {T C : List Nat} {D : List Int} {q : Int × Int} : ∀ {n : Nat}, q ∈ foundTo T C D n → ∃ s, s < n ∧ (T.drop s).take C.length = C ∧ q ∈ pairsAt D s D.length
  | 0, h => by cases h
  | n + 1, h => by
    unfold foundTo at h
    rcases List.mem_append.mp h with h | h
    · obtain ⟨s, hs, e⟩ := mem_found h
      exact ⟨s, by omega, e⟩
    · split at h
      · rename_i hm
        exact ⟨n, by omega, hm, h⟩
      · cases h
theorem head_keep : ∀ (r : List Nat) (x : Int) (D : List Int), D ≠ [] → (r.foldl dstep (x :: D)).getD 0 0 = x
  | [], _, _, _ => rfl
  | c :: r, x, D, h => by
    rw [List.foldl_cons]
    unfold dstep
    by_cases hc : c ∈ digs
    · rw [if_pos hc]
      obtain ⟨y, E, rfl⟩ : ∃ y E, D = y :: E := by
        cases D with
        | nil => exact absurd rfl h
        | cons y E => exact ⟨y, E, rfl⟩
      have e : (x :: y :: E).set ((x :: y :: E).length - 1) ((c : Int) - 48) = x :: (y :: E).set E.length ((c : Int) - 48) := by
        rw [List.length_cons, List.length_cons]
        rfl
      rw [e]
      exact head_keep r x _ (by intro e2; have := congrArg List.length e2; rw [List.length_set] at this; cases this)
    · rw [if_neg hc]
      show (r.foldl dstep (x :: (D ++ [0]))).getD 0 0 = x
      exact head_keep r x _ (by simp)
/-- a word between dots, seen as signs -/
theorem dotted_tl (w : Str) : tl (dotted w) = 46 :: (tl w ++ [46]) := by
  unfold dotted
  show ((Str.ofString ".").cps ++ w.cps ++ (Str.ofString ".").cps).toList = _
  have e : (Str.ofString ".").cps.toList = [46] := by decide +kernel
  rw [Array.toList_append, Array.toList_append, e]
  rfl
end Hy
set_option Elab.async false
set_option linter.all false
set_option maxRecDepth 100000
set_option maxHeartbeats 4000000
namespace Hy
open PySem PySem.Spec PyProof.Rows L2 CwR
theorem PT.cons {m : Nat} {l : List Nat} (p : PT m (m + 1) l) (h : 1 ≤ m) : ∃ c r, l.filter notD = c :: r := by
  have := p.cnt
  cases e : l.filter notD with
  | nil => rw [e] at this; have h2 : (0 : Nat) = min (m + 1) m := this; omega
  | cons c r => exact ⟨c, r, rfl⟩
theorem filter_dt (y : Bool) : (dt y).filter notD = dt y := by cases y <;> decide
/-- where a pattern's digit falls -/
theorem bound {p w : Str} (h : Shape p) {s k : Nat} (hm : ((tl (dotted w)).drop s).take (tl (strip digs p)).length = tl (strip digs p)) (hs : s < (dotted w).length + 1 - (strip digs p).length)
    (hk : k < (digsOf p).length) (hd : 0 < (digsOf p).getD k 0) : 0 ≤ (s : Int) + (k : Int) - 1 ∧ (s : Int) + (k : Int) - 1 ≤ (w.length : Int) := by
  have hDl : (digsOf p).length = 1 + (tl (strip digs p)).length := dlen (tl p) [0]
  have hT := dotted_tl w
  have hTl : (tl (dotted w)).length = w.length + 2 := by rw [← len_tl]; exact dotted_len w
  have hs' : s + (tl (strip digs p)).length ≤ (tl (dotted w)).length := by rw [len_tl, len_tl] at hs; omega
  obtain ⟨m, l, x, y, m1, m4, pt, rfl⟩ := h
  have hC : tl (strip digs (S (dt x ++ l ++ dt y))) = dt x ++ l.filter notD ++ dt y := by
    rw [strip_notD]
    show (dt x ++ l ++ dt y).filter notD = _
    rw [List.filter_append, List.filter_append, filter_dt, filter_dt]
  obtain ⟨c, r, hf⟩ := pt.cons m1
  have h46 : (46 : Nat) ∉ l.filter notD := fun h => pt.no46 (List.mem_filter.mp h).1
  constructor
  · by_cases h0 : s + k = 0
    · have hs0 : s = 0 := by omega
      have hk0 : k = 0 := by omega
      subst hs0 hk0
      exfalso
      cases x with
      | true =>
        have e : digsOf (S (dt true ++ l ++ dt y)) = (l ++ dt y).foldl dstep [0, 0] := rfl
        rw [e, head_keep _ 0 [0] (by simp)] at hd
        exact absurd hd (by decide)
      | false =>
        rw [hC, hf, hT] at hm
        have e : (46 :: (tl w ++ [46])).take (c :: (r ++ dt y)).length = c :: (r ++ dt y) := hm
        rw [List.length_cons, List.take_succ_cons] at e
        have e2 := (List.cons.inj e).1
        exact h46 (by rw [hf, e2]; exact List.mem_cons_self)
    · omega
  · by_cases h1 : k = (tl (strip digs (S (dt x ++ l ++ dt y)))).length ∧ s + (tl (strip digs (S (dt x ++ l ++ dt y)))).length = (tl (dotted w)).length
    · exfalso
      obtain ⟨hk1, hs1⟩ := h1
      cases y with
      | true =>
        have e : digsOf (S (dt x ++ l ++ dt true)) = (dt x ++ l).foldl dstep [0] ++ [0] := by
          show (dt x ++ l ++ [46]).foldl dstep [0] = _
          rw [List.foldl_append]
          rfl
        have e2 : ((dt x ++ l).foldl dstep [0]).length = k := by
          have := congrArg List.length e
          rw [List.length_append, List.length_singleton] at this
          omega
        rw [e, List.getD_eq_getElem?_getD, List.getElem?_append_right (by omega), e2, Nat.sub_self] at hd
        exact absurd hd (by decide)
      | false =>
        rw [List.take_of_length_le (by rw [List.length_drop]; omega)] at hm
        have hC' : tl (strip digs (S (dt x ++ l ++ dt false))) = dt x ++ l.filter notD := by rw [hC]; show _ ++ [] = _; rw [List.append_nil]
        have hl := congrArg List.getLast? hm
        rw [hC', List.getLast?_append, List.getLast?_drop, if_neg (by rw [hTl]; rw [hC', List.length_append, hf, List.length_cons] at hs1; omega), hT] at hl
        have e46 : (46 :: (tl w ++ [46])).getLast? = some 46 := by
          rw [← List.cons_append, List.getLast?_append]; rfl
        rw [e46] at hl
        obtain ⟨z, hz⟩ : ∃ z, (l.filter notD).getLast? = some z := by
          rw [hf]
          exact ⟨_, List.getLast?_eq_some_getLast (List.cons_ne_nil _ _)⟩
        rw [hz] at hl
        have e3 : (46 : Nat) = z := Option.some.inj hl
        exact h46 (by rw [e3]; exact List.mem_of_getLast? hz)
    · omega
theorem goodW {ps : List Str} (h : ∀ p ∈ ps, Shape p) (w : Str) : GoodW ps w := by
  intro p hp q hq
  obtain ⟨s, hs, hm, hq⟩ := mem_found hq
  obtain ⟨k, hk, e, hd⟩ := mem_pairs hq
  rw [e]
  exact bound (h p hp) hm hs hk hd
theorem na_shape {p : Str} (h : Shape p) : na false (tl p) = true := by
  obtain ⟨m, l, x, y, m1, m4, pt, rfl⟩ := h
  show na false (dt x ++ l ++ dt y) = true
  have hx : na false (dt x) = true := by cases x <;> rfl
  have hx2 : lastD false (dt x) = false := by cases x <;> rfl
  have hy : ∀ b, na b (dt y) = true := fun b => by cases y <;> cases b <;> rfl
  rw [na_app, na_app, hx, hx2, pt.ad, hy]
  rfl
/-- one pattern -/
theorem lawTo_eq {p w : Str} (h : Shape p) {L : List Int} (hL : L.length = w.length + 1) : ∀ n, n ≤ (dotted w).length + 1 - (strip digs p).length →
    lawTo (tl (dotted w)) (tl (strip digs p)) (tl p) (padded L) n = padded ((foundTo (tl (dotted w)) (tl (strip digs p)) (digsOf p) n).foldl upL L)
  | 0, _ => rfl
  | n + 1, hn => by
    have ih := lawTo_eq h hL n (by omega)
    unfold lawTo foundTo
    by_cases hm : ((tl (dotted w)).drop n).take (tl (strip digs p)).length = tl (strip digs p)
    · rw [if_pos hm, if_pos hm, ih, core0 _ _ _ (na_shape h), List.foldl_append]
      refine upf_pad fun q hq => ?_
      obtain ⟨k, hk, e, hd⟩ := mem_pairs hq
      have := bound h hm (by omega) hk hd
      rw [e, upf_len, hL]
      omega
    · rw [if_neg hm, if_neg hm, List.append_nil, ih]
theorem lawTo_more {p w : Str} {X : List Int} (h1 : 1 ≤ (strip digs p).length) : ∀ j, (dotted w).length + 1 - (strip digs p).length + j ≤ (dotted w).length →
    lawTo (tl (dotted w)) (tl (strip digs p)) (tl p) X ((dotted w).length + 1 - (strip digs p).length + j) = lawTo (tl (dotted w)) (tl (strip digs p)) (tl p) X ((dotted w).length + 1 - (strip digs p).length)
  | 0, _ => rfl
  | j + 1, hj => by
    have ih := lawTo_more (p := p) (w := w) (X := X) h1 j (by omega)
    show lawTo _ _ _ _ (((dotted w).length + 1 - (strip digs p).length + j) + 1) = _
    rw [← ih]
    conv => lhs; unfold lawTo
    rw [if_neg]
    intro e
    have := congrArg List.length e
    rw [List.length_take, List.length_drop, ← len_tl, ← len_tl] at this
    omega
theorem one_pat {p w : Str} (h : Shape p) {L : List Int} (hL : L.length = w.length + 1) : lawTo (tl (dotted w)) (tl (strip digs10 p)) (tl p) (padded L) (tl (dotted w)).length = padded ((foundL p w).foldl upL L) := by
  rw [h.strip_eq]
  have h1 : 1 ≤ (strip digs p).length := by
    obtain ⟨m, l, x, y, m1, m4, pt, rfl⟩ := h
    obtain ⟨c, r, hf⟩ := pt.cons m1
    rw [len_tl, strip_notD]
    show 1 ≤ ((dt x ++ l ++ dt y).filter notD).length
    rw [List.filter_append, List.filter_append, hf, List.length_append, List.length_append, List.length_cons]
    omega
  have e := lawTo_eq h hL _ (Nat.le_refl _)
  have hx := dotted_len w
  by_cases hle : (dotted w).length + 1 - (strip digs p).length ≤ (dotted w).length
  · obtain ⟨j, hj⟩ := Nat.le.dest hle
    have e2 := lawTo_more (p := p) (w := w) (X := padded L) h1 j (by omega)
    rw [hj] at e2
    rw [← len_tl, e2, e]
    rfl
  · omega
theorem lev_eq {w : Str} : ∀ {ps : List Str} {L : List Int}, (∀ p ∈ ps, Shape p) → L.length = w.length + 1 → lawLevFrom w (padded L) ps = padded (ps.foldl (fun L p => (foundL p w).foldl upL L) L)
  | [], _, _, _ => rfl
  | p :: ps, L, h, hL => by
    show lawLevFrom w (lawTo (tl (dotted w)) (tl (strip digs10 p)) (tl p) (padded L) (tl (dotted w)).length) ps = _
    rw [one_pat (h p List.mem_cons_self) hL]
    exact lev_eq (fun x hx => h x (List.mem_cons_of_mem _ hx)) (by rw [upf_len]; exact hL)
theorem lawLv_eq {w : Str} {ps : List Str} (h : ∀ p ∈ ps, Shape p) : lawLv ps w = levelsL ps w := by
  have e : List.replicate (w.length + 3) (0 : Int) = padded (List.replicate (w.length + 1) 0) := by
    unfold padded
    rw [← List.replicate_succ', ← List.replicate_succ]
  have hl : (levelsL ps w).length = w.length + 1 := by unfold levelsL; rw [lev_len, List.length_replicate]
  unfold lawLv lawLev
  rw [e, lev_eq h (List.length_replicate)]
  show ((levelsL ps w) ++ [0]).take (w.length + 1) = _
  rw [← hl, List.take_left]
theorem lawBr_eq (L : List Int) {l r : Int} {n : Nat} (hl : 1 ≤ l) (hr : 1 ≤ r) : ∀ m, lawBr L l r n m = breaksL L l r n (min ((m : Int) - l).toNat ((n : Int) - r + 1 - l).toNat)
  | 0 => by
    rw [show min (((0 : Nat) : Int) - l).toNat ((n : Int) - r + 1 - l).toNat = 0 by omega]
    rfl
  | m + 1 => by
    unfold lawBr
    rw [lawBr_eq L hl hr m]
    by_cases hc : l ≤ (m : Int) ∧ r ≤ (n : Int) - (m : Int)
    · have e1 : min ((m : Int) - l).toNat ((n : Int) - r + 1 - l).toNat = ((m : Int) - l).toNat := by omega
      have e2 : min (((m + 1 : Nat) : Int) - l).toNat ((n : Int) - r + 1 - l).toNat = ((m : Int) - l).toNat + 1 := by omega
      rw [e1, e2]
      show _ = breaksL L l r n ((m : Int) - l).toNat ++ (if L.getD (l + ((((m : Int) - l).toNat : Nat) : Int)).toNat 0 % 2 = 1 then [l + ((((m : Int) - l).toNat : Nat) : Int)] else [])
      have e3 : l + ((((m : Int) - l).toNat : Nat) : Int) = (m : Int) := by omega
      rw [e3, Int.toNat_natCast]
      congr 1
      by_cases hp : L.getD m 0 % 2 = 1
      · rw [if_pos hp, if_pos ⟨hp, hc.1, hc.2⟩]
      · rw [if_neg hp, if_neg fun h => hp h.1]
    · rw [if_neg fun h => hc h.2, List.append_nil]
      congr 1
      omega
theorem breaks_eq {w : Str} {ps : List Str} {l r : Int} (h : ∀ p ∈ ps, Shape p) (hl : 1 ≤ l) (hr : 1 ≤ r) : lawBr (lawLv ps w) l r w.length (w.length + 1) = breaksOf ps l r w := by
  rw [lawLv_eq h, lawBr_eq _ hl hr]
  unfold breaksOf
  congr 1
  omega
theorem Made.good {ps : List Str} {l r : Int} (k : Made ps 4) (l1 : 1 ≤ l) (l3 : l ≤ 3) (r1 : 1 ≤ r) (r3 : r ≤ 3) : GoodR ps l r := by
  refine ⟨fun p hp => (k.sh p hp).good, Nat.le_trans k.len (by decide), ?_, l1, by omega, r1, by omega⟩
  have e : ps.map (strip digs) = ps.map (strip digs10) := List.map_congr_left fun p hp => ((k.sh p hp).strip_eq).symm
  rw [e]
  exact k.nd
end Hy
set_option Elab.async false
set_option linter.all false
set_option maxRecDepth 100000
set_option maxHeartbeats 4000000
namespace Hy
open PySem PySem.Spec PyProof.Rows L2 CwR
/-! ### the words that the law tells -/
def wds : List Str := ["ab", "ba", "abab", "aab", "c", "abcab"]
def subs : Nat → List (List Int)
  | 0 => [[]]
  | i + 1 => subs i ++ (subs i).map (· ++ [1 + (i : Int)])
def pieces (w : Str) (gs : List Int) : List Str := List.zipWith (fun a b => cutS w (some a) (some b)) (0 :: gs) (gs ++ [(w.length : Int)])
def toldOf (w : Str) (gs : List Int) : Str := Txt.join dash (pieces w gs)
def chk (w : Str) (gs : List Int) : Bool :=
  decide ((toldOf w gs).length ≤ 100) && ((Txt.split (toldOf w gs) dash).all fun p => isWord p 20 && decide (p.length ≤ 100)) && decide ((Txt.split (toldOf w gs) dash).length ≤ 100) && decide (Txt.replace (toldOf w gs) dash (Str.ofString "") = w) &&
    decide (w.length ≤ 20) && isWord w 20 && decide (toldL (toldOf w gs) = lawGaps (toldOf w gs)) && PyData.strOk (toldOf w gs) && decide (gs.length ≤ 20) && decide (((pieces w gs).map (·.length)).sum + (pieces w gs).length * dash.length ≤ 1000) && decide (1 ≤ w.length)
theorem all_chk : (wds.all fun w => (subs (w.length - 1)).all fun gs => chk w gs) = true := by decide +kernel
theorem word_facts : (wds.all fun w => isWord w 20 && decide (w.length ≤ 20) && decide (1 ≤ w.length)) = true := by decide +kernel
structure Told (t w : Str) : Prop where
  g : GoodT t w
  e : toldL t = lawGaps t
  ok : PyData.strOk t = true
theorem told_of {w : Str} {gs : List Int} (hw : w ∈ wds) (hg : gs ∈ subs (w.length - 1)) : Told (toldOf w gs) w ∧ ((pieces w gs).map (·.length)).sum + (pieces w gs).length * dash.length ≤ 1000 := by
  have h := List.all_eq_true.mp (List.all_eq_true.mp all_chk w hw) gs hg
  unfold chk at h
  simp only [Bool.and_eq_true, decide_eq_true_eq] at h
  obtain ⟨⟨⟨⟨⟨⟨⟨⟨⟨⟨h1, h2⟩, h3⟩, h4⟩, h5⟩, h6⟩, h7⟩, h8⟩, h9⟩, h10⟩, h11⟩ := h
  exact ⟨⟨⟨h1, h2, h3, h4, h5, h6⟩, h7, h8⟩, h10⟩
theorem wds_of {w : Str} (hw : w ∈ wds) : isWord w 20 = true ∧ w.length ≤ 20 ∧ 1 ≤ w.length := by
  have h := List.all_eq_true.mp word_facts w hw
  simp only [Bool.and_eq_true, decide_eq_true_eq] at h
  exact ⟨h.1.1, h.1.2, h.2⟩
theorem subs_len : ∀ (i : Nat) (gs : List Int), gs ∈ subs i → gs.length ≤ i
  | 0, gs, h => by
    rw [show subs 0 = [[]] from rfl, List.mem_singleton] at h
    subst h; exact Nat.le_refl _
  | i + 1, gs, h => by
    rcases List.mem_append.mp h with h | h
    · have := subs_len i gs h; omega
    · obtain ⟨g, hg, rfl⟩ := List.mem_map.mp h
      have := subs_len i g hg
      rw [List.length_append, List.length_singleton]; omega
theorem subs_keep {i : Nat} {gs : List Int} (h : gs ∈ subs i) : gs ∈ subs (i + 1) := List.mem_append_left _ h
theorem subs_add {i : Nat} {gs : List Int} (h : gs ∈ subs i) : gs ++ [1 + (i : Int)] ∈ subs (i + 1) := List.mem_append_right _ (List.mem_map.mpr ⟨gs, h, rfl⟩)
/-! ### the dicts that hold them -/
def TK (kvs : List (Key × V)) : Prop := ∀ q ∈ kvs, ∃ w t : Str, q = (Sum.inr w, V.str t) ∧ Told t w
theorem TK.kv {kvs : List (Key × V)} (h : TK kvs) : KV kvs := fun q hq => by
  obtain ⟨w, t, e, g⟩ := h q hq
  exact ⟨w, t, e, g.g⟩
theorem TK.val {kvs : List (Key × V)} (h : TK kvs) {w : Str} {v : V} (e : valV kvs (Sum.inr w) = some v) : ∃ t, v = .str t ∧ Told t w := by
  obtain ⟨w', t, q, g⟩ := h _ (valV_mem e)
  have h1 := (Prod.mk.inj q)
  have h2 : w = w' := Sum.inr.inj h1.1
  subst h2
  exact ⟨t, h1.2, g⟩
theorem TK.put {kvs : List (Key × V)} (h : TK kvs) {w t : Str} (g : Told t w) : TK (putK kvs (Sum.inr w) (.str t)) := fun q hq => by
  unfold putK at hq
  split at hq
  · obtain ⟨x, hx, rfl⟩ := List.mem_map.mp hq
    obtain ⟨w', t', rfl, g'⟩ := h x hx
    by_cases e : (Sum.inr w' : Key) = Sum.inr w
    · rw [if_pos e]
      have e' : w' = w := Sum.inr.inj e
      subst e'
      exact ⟨w', t, rfl, g⟩
    · rw [if_neg e]
      exact ⟨w', t', rfl, g'⟩
  · rcases List.mem_append.mp hq with hq | hq
    · exact h q hq
    · rw [List.mem_singleton] at hq
      exact ⟨w, t, hq, g⟩
theorem TK.drop {kvs : List (Key × V)} (h : TK kvs) (k : Key) : TK (dropK kvs k) := fun q hq => h q (List.mem_filter.mp hq).1
theorem putK_len (kvs : List (Key × V)) (k : Key) (v : V) : (putK kvs k v).length ≤ kvs.length + 1 := by
  unfold putK
  split
  · rw [List.length_map]; omega
  · rw [List.length_append, List.length_singleton]
    exact Nat.le_refl _
theorem dropK_le (kvs : List (Key × V)) (k : Key) : (dropK kvs k).length ≤ kvs.length := List.length_filter_le _ _
/-! ### what the law compares -/
theorem eqv_ints : ∀ ns : List Int, PyData.eqvAll (dInts ns) (dInts ns) = true
  | [] => rfl
  | n :: ns => by
    show (PyData.eqv (.int n) (.int n) && PyData.eqvAll (dInts ns) (dInts ns)) = true
    rw [eqv_ints ns, Bool.and_true]
    show (n == n) = true
    exact beq_self_eq_true n
abbrev dStrs (ts : List Str) : List PyData := ts.map PyData.str
theorem eqv_strs : ∀ ts : List Str, PyData.eqvAll (dStrs ts) (dStrs ts) = true
  | [] => rfl
  | t :: ts => by
    show (PyData.eqv (.str t) (.str t) && PyData.eqvAll (dStrs ts) (dStrs ts)) = true
    rw [eqv_strs ts, Bool.and_true]
    show (t == t) = true
    exact beq_self_eq_true t
theorem dp_strs {K : PySem.W.Frag} {H : Hp} : ∀ ts : List Str, DpAll K H (ts.map V.str) (dStrs ts)
  | [] => .nil
  | t :: ts => .cons (.str t) (dp_strs ts)
theorem shaped_strs {ts : List Str} (h : ∀ t ∈ ts, PyData.strOk t = true) : SeqAt.shaped (.list (dStrs ts)) = true := by
  have h1 : ∀ ts : List Str, (∀ t ∈ ts, PyData.strOk t = true) → PyData.canLayAll0 (dStrs ts) = true := by
    intro ts
    induction ts with
    | nil => intro _; rfl
    | cons t ts ih =>
      intro h
      show (PyData.strOk t && PyData.canLayAll0 (dStrs ts)) = true
      rw [ih fun x hx => h x (List.mem_cons_of_mem _ hx), h t List.mem_cons_self]; rfl
  have h2 : ∀ ts : List Str, PyData.depthAll (dStrs ts) = 0 := by
    intro ts
    induction ts with
    | nil => rfl
    | cons t ts ih =>
      show max (PyData.depth (.str t)) (PyData.depthAll (dStrs ts)) = 0
      rw [ih]; rfl
  unfold SeqAt.shaped
  rw [Bool.and_eq_true]
  refine ⟨h1 ts h, decide_eq_true ?_⟩
  show PyData.depthAll (dStrs ts) + 1 ≤ 64
  rw [h2]
  decide
def strK (kvs : List (Key × V)) (w : Str) : Str := match valV kvs (Sum.inr w) with
  | some (.str t) => t
  | _ => w
theorem atK_str {kvs : List (Key × V)} (h : TK kvs) {w : Str} (hm : w ∈ keysS kvs) : atK kvs w = .str (strK kvs w) ∧ PyData.strOk (strK kvs w) = true := by
  obtain ⟨v, hv⟩ := keysS_at h.kv hm
  obtain ⟨t, rfl, g⟩ := h.val hv
  unfold atK strK
  rw [hv]
  exact ⟨rfl, g.ok⟩
theorem atK_map {kvs : List (Key × V)} (h : TK kvs) {ys : List Str} (hp : ys.Perm (keysS kvs)) : ys.map (atK kvs) = (ys.map (strK kvs)).map V.str ∧ ∀ t ∈ ys.map (strK kvs), PyData.strOk t = true := by
  constructor
  · rw [List.map_map]
    exact List.map_congr_left fun w hw => (atK_str h (hp.mem_iff.mp hw)).1
  · intro t ht
    obtain ⟨w, hw, rfl⟩ := List.mem_map.mp ht
    exact (atK_str h (hp.mem_iff.mp hw)).2
theorem rising_pw : ∀ (p : Str) (l : List Str), risingS p l = true → (p :: l).Pairwise (fun a b => tl a ≤ tl b)
  | p, [], _ => List.pairwise_singleton _ _
  | p, x :: r, h => by
    have h1 : (!PySem.Spec.ltCps x.cps.toList p.cps.toList && risingS x r) = true := h
    rw [Bool.and_eq_true, Bool.not_eq_true', ltCps_eq] at h1
    have hle : tl p ≤ tl x := of_decide_eq_false h1.1
    have ih := rising_pw x r h1.2
    refine List.pairwise_cons.mpr ⟨fun y hy => ?_, ih⟩
    rcases List.mem_cons.mp hy with rfl | hy
    · exact hle
    · exact List.le_trans hle (List.rel_of_pairwise_cons ih hy)
theorem sorted_pw {l : List Str} (h : sortedS l = true) : l.Pairwise (fun a b => tl a ≤ tl b) := by
  cases l with
  | nil => exact .nil
  | cons p l => exact rising_pw p l h
theorem sorted_one {xs ys ks : List Str} (px : xs.Perm ks) (py : ys.Perm ks) (sx : sortedS xs = true) (sy : sortedS ys = true) : xs = ys :=
  List.Perm.eq_of_pairwise (le := fun a b => tl a ≤ tl b) (fun a b _ _ h h' => str_tl.mpr (List.le_antisymm h h')) (sorted_pw sx) (sorted_pw sy) (px.trans py.symm)
end Hy
set_option Elab.async false
set_option linter.all false
set_option maxRecDepth 100000
set_option maxHeartbeats 4000000
namespace Hy
open PySem PySem.Spec PyProof.Rows L2 CwR
/-! ### law's state -/
structure St8 (C : Addr) (K : PySem.W.Frag) (sc T : Addr) (ns : List Int) (ru pt : Addr) (ps : List Str) (l r : Int) (W : Addr) (H : Hp) (hp hd kd op od ke : Addr) (kvs kvs2 : List (Key × V)) : Prop where
  scr : Scr K H sc T ns
  tw : Town H T
  hy : HyAt C H hp hd ru pt ps l r kvs
  kn : H kd = some (.dK kvs)
  ot : HyAt C H op od ru pt ps l r kvs2
  kp : H ke = some (.dK kvs2)
  ws : H W = some (.lst (wds.map V.str))
  wT : W ≠ T
  n1 : hd ≠ kd
  n2 : hd ≠ od
  n3 : hd ≠ ke
  n4 : kd ≠ od
  n5 : kd ≠ ke
section
variable {C : Addr} {K : PySem.W.Frag} {sc T : Addr} {ns : List Int} {ru pt : Addr} {ps : List Str} {l r : Int} {W : Addr} {H H' : Hp} {hp hd kd op od ke : Addr} {kvs kvs2 kvs' : List (Key × V)}
theorem Scr.same (x : Scr K H sc T ns) (s : Same H H') : Scr K H' sc T ns := x.but (Same.but s)
theorem St8.same (x : St8 C K sc T ns ru pt ps l r W H hp hd kd op od ke kvs kvs2) (s : Same H H') : St8 C K sc T ns ru pt ps l r W H' hp hd kd op od ke kvs kvs2 :=
  ⟨x.scr.same s, town_same x.tw s, x.hy.same s, s _ _ x.kn, x.ot.same s, s _ _ x.kp, s _ _ x.ws, x.wT, x.n1, x.n2, x.n3, x.n4, x.n5⟩
theorem HyAt.but {p d : Addr} (x : HyAt C H p d ru pt ps l r kvs) (t : Town H T) (b : But T H H') : HyAt C H' p d ru pt ps l r kvs := by
  obtain ⟨a, c, e, _⟩ := t
  obtain ⟨⟨dx, ob⟩, dc, ra, rb⟩ := x
  exact ⟨⟨dx, b _ _ ob (ne_of ob e (by intro z; cases z))⟩, b _ _ dc (ne_of dc e (by intro z; cases z)), b _ _ ra (ne_of ra e (by intro z; cases z)), b _ _ rb (ne_of rb e (by intro z; cases z))⟩
theorem St8.but (x : St8 C K sc T ns ru pt ps l r W H hp hd kd op od ke kvs kvs2) (b : But T H H') (t : Town H' T) : St8 C K sc T ns ru pt ps l r W H' hp hd kd op od ke kvs kvs2 := by
  obtain ⟨a, c, e, _⟩ := x.tw
  exact ⟨x.scr.but b, t, x.hy.but x.tw b, b _ _ x.kn (ne_of x.kn e (by intro z; cases z)), x.ot.but x.tw b, b _ _ x.kp (ne_of x.kp e (by intro z; cases z)), b _ _ x.ws x.wT, x.wT, x.n1, x.n2, x.n3, x.n4, x.n5⟩
theorem Scr.keepD {d e : Addr} {ks es : List (Key × V)} (x : Scr K H sc T ns) (hd : H d = some (.dK ks)) (he : H e = some (.dK es)) (k : ∀ b o, H b = some o → b ≠ d → b ≠ e → H' b = some o) : Scr K H' sc T ns := by
  rcases x with ⟨n, (h | ⟨o, h⟩) | h⟩ | x
  · exact .inl ⟨n, .inl (.inl (k _ _ h (ne_of h hd (by intro z; cases z)) (ne_of h he (by intro z; cases z))))⟩
  · exact .inl ⟨n, .inl (.inr ⟨o, k _ _ h (ne_of h hd (by intro z; cases z)) (ne_of h he (by intro z; cases z))⟩)⟩
  · exact .inr fun _ => .inr h
  · exact .inr x
/-- both dicts are changed alike -/
theorem St8.both (x : St8 C K sc T ns ru pt ps l r W H hp hd kd op od ke kvs kvs2) (k : ∀ b o, H b = some o → b ≠ hd → b ≠ kd → H' b = some o) (hy : HyAt C H' hp hd ru pt ps l r kvs') (kn : H' kd = some (.dK kvs')) :
    St8 C K sc T ns ru pt ps l r W H' hp hd kd op od ke kvs' kvs2 := by
  have dd := x.hy.dc
  have nk : ∀ {b : Addr} {o : HO}, H b = some o → (∀ z, o ≠ .dK z) → H' b = some o := fun {b o} e n => k b o e (fun q => n kvs (by subst q; rw [dd] at e; exact (Option.some.inj e).symm)) (fun q => n kvs (by subst q; rw [x.kn] at e; exact (Option.some.inj e).symm))
  obtain ⟨a, c, e, ha⟩ := x.tw
  obtain ⟨⟨dx, ob⟩, dc, ra, rb⟩ := id x.ot
  exact ⟨x.scr.keepD dd x.kn k, ⟨a, c, nk e (fun z q => by cases q), ha⟩, hy, kn, ⟨⟨dx, nk ob (fun z q => by cases q)⟩, k _ _ dc (Ne.symm x.n2) (Ne.symm x.n4), ⟨nk ra (fun z q => by cases q), nk rb (fun z q => by cases q)⟩⟩,
    k _ _ x.kp (Ne.symm x.n3) (Ne.symm x.n5), nk x.ws (fun z q => by cases q), x.wT, x.n1, x.n2, x.n3, x.n4, x.n5⟩
/-- the comprehension over a dict's sorted keys, behind the sorting -/
theorem comp_read {i : Nat} {σ : St} {tl' : TE} {R : VK} (hσ : (σ.set 13 none)[i]? = some (some (.ref kd))) (hi : i ≠ 13) (h13 : 13 < σ.length) (kn : H kd = some (.dK kvs)) (tk : TK kvs) (hl : kvs.length ≤ 60)
    (hs : ∀ R' : VK, (∀ zs q, zs.Perm (keysS kvs) → sortedS zs = true → H q = none → R' (.ref q) (upd H q (.lst (zs.map V.str)))) → tl' σ H R')
    (k : ∀ zs H' D, zs.Perm (keysS kvs) → sortedS zs = true → Same H H' → H' D = some (.lst (zs.map (atK kvs))) → R (.ref D) H') :
    tLc (iList K tl') (gName 13) tYes (tDGet (tVar i) (tVar 13)) [13] σ H R := by
  refine hs _ fun zs q pz sz hq => ⟨q, rfl, ⟨_, SqL.of upd_same⟩, fun D hD => ?_⟩
  have s0 : Same H (upd H q (.lst (zs.map V.str))) := same_new hq (Same.refl H)
  refine lc_list (xs := zs.map V.str) (fun j H' => Same (upd H q (.lst (zs.map V.str))) H' ∧ H' D = some (.lst ((zs.take j).map (atK kvs)))) ⟨same_new hD (Same.refl _), upd_same⟩ (fun j H' _ hP => SqL.of (hP.1 _ _ upd_same)) ?_ ?_
  · rintro j x H1 hj ⟨s1, d1⟩
    rw [List.getElem?_map] at hj
    obtain ⟨wd, hwd, rfl⟩ := Option.map_eq_some_iff.mp hj
    have hm : wd ∈ keysS kvs := pz.mem_iff.mp (List.mem_of_getElem? hwd)
    obtain ⟨v, hv⟩ := keysS_at tk.kv hm
    have s2 := s0.trans s1
    have hg := DGet.k (k := (Sum.inr wd : Key)) (s2 _ _ kn)
    rw [hv] at hg
    have e1 : ((wipe σ [13]).set 13 (some (V.str wd)))[i]? = some (some (.ref kd)) := by
      show ((σ.set 13 none).set 13 _)[i]? = _
      rw [List.getElem?_set_ne (Ne.symm hi)]
      exact hσ
    have e2 : ((wipe σ [13]).set 13 (some (V.str wd)))[13]? = some (some (.str wd)) := by
      show ((σ.set 13 none).set 13 _)[13]? = _
      rw [List.getElem?_set_self (by rw [List.length_set]; exact h13)]
    have e3 : wipe ((wipe σ [13]).set 13 (some (V.str wd))) [13] = wipe σ [13] := by
      show ((σ.set 13 none).set 13 _).set 13 none = σ.set 13 none
      rw [List.set_set, List.set_set]
    refine ⟨e3, _, e1, _, e2, kd, v, rfl, hg, _, d1, ?_, same_new hD s1, ?_⟩
    · rw [List.length_map]
      have h2 := List.length_take_le' j zs
      have h3 := pz.length_eq
      rw [keysS_len tk.kv] at h3
      exact small1000 (by omega)
    · rw [upd_same, take_next hwd, List.map_append]
      show some (HO.lst (_ ++ [v])) = some (HO.lst (_ ++ [(valV kvs (Sum.inr wd)).getD .non]))
      rw [hv]
      rfl
  · rintro H1 ⟨s1, d1⟩
    rw [List.length_map, List.take_length] at d1
    exact k zs H1 D pz sz (s0.trans s1) d1
/-- two lists of the told words, by sorted keys -/
theorem same_lists {H : Hp} {xs ys : List Str} {A B : Addr} (tk : TK kvs) (px : xs.Perm (keysS kvs)) (sx : sortedS xs = true) (py : ys.Perm (keysS kvs)) (sy : sortedS ys = true) (hA : H A = some (.lst (xs.map (atK kvs)))) (hB : H B = some (.lst (ys.map (atK kvs)))) :
    ∃ d e, Dp K H (.ref A) d ∧ Dp K H (.ref B) e ∧ SeqAt.shaped d = true ∧ SeqAt.shaped e = true ∧ PyData.eqv d e = true := by
  have e := sorted_one px py sx sy
  subst e
  obtain ⟨h1, h2⟩ := atK_map tk px
  rw [h1] at hA hB
  exact ⟨_, _, .lst (SqL.of hA) (dp_strs _), .lst (SqL.of hB) (dp_strs _), shaped_strs h2, shaped_strs h2, eqv_strs _⟩
end
end Hy
set_option Elab.async false
set_option linter.all false
set_option maxRecDepth 100000
set_option maxHeartbeats 4000000
namespace Hy
open PySem PySem.Spec PyProof.Rows L2 CwR
/-! ### law -/
theorem seq_split {A B : TS} {D : Ends} {σ : St} {H : Hp} (R : St → Hp → Prop) (hA : ∀ D' : Ends, (∀ σ' H', R σ' H' → D'.nx σ' H') → A D' σ H) (hB : ∀ σ' H', R σ' H' → B D σ' H') : tSeq A B D σ H := hA _ hB
theorem seq_g {A B : TS} {D : Ends} {σ : St} {H : Hp} {i : Nat} {v : V} (R : St → Hp → Prop) (hA : ∀ D' : Ends, (∀ σ' H', R σ' H' → D'.nx σ' H') → A D' (σ.set i (some v)) H) (hB : ∀ σ' H', R σ' H' → B D σ' H') :
    gName i v σ H fun σ2 H2 => tSeq A B D σ2 H2 := hA _ hB
theorem seq_nx {A B : TS} {D : Ends} {σ : St} {H : Hp} {rt : VK} {bk ct : St → Hp → Prop} (R : St → Hp → Prop) (hA : ∀ D' : Ends, (∀ σ' H', R σ' H' → D'.nx σ' H') → A D' σ H) (hB : ∀ σ' H', R σ' H' → B D σ' H') :
    Ends.nx { nx := tSeq A B D, rt := rt, bk := bk, ct := ct } σ H := hA _ hB
theorem HyAt.other {C : Addr} {H H' : Hp} {p d e ru pt : Addr} {ps : List Str} {l r : Int} {kvs es : List (Key × V)} (x : HyAt C H p d ru pt ps l r kvs) (he : H e = some (.dK es)) (ne : d ≠ e) (k : ∀ b o, H b = some o → b ≠ e → H' b = some o) : HyAt C H' p d ru pt ps l r kvs := by
  obtain ⟨⟨dx, ob⟩, dc, ra, rb⟩ := x
  exact ⟨⟨dx, k _ _ ob (ne_of ob he (by intro z; cases z))⟩, k _ _ dc ne, ⟨k _ _ ra (ne_of ra he (by intro z; cases z)), k _ _ rb (ne_of rb he (by intro z; cases z))⟩⟩
section
variable {P : Program} {w : World} {K : PySem.W.Frag} {mg : Str → Option Value} {base : Heap} {C N : Addr}
abbrev nLaw : List Str := ["_law_script", "_law_town", "_law_rules_here", "_law_known", "_law_hyphenator", "_law_other", "_law_kept", "_law_words", "_law_k", "_law_word", "_law_gaps_here", "_law_told", "_law_was", "_law_one", "_law_due", "_law_at", "_law_start", "_law_stop"]
theorem scLaw : FnScope nLaw ["_law_script"] (defScope sLaw) := ⟨rfl, rfl, rfl, by decide +kernel, rfl, by decide +kernel, by decide +kernel⟩
def spLaw (K : PySem.W.Frag) : Sp := fun vs H Q _ => ∃ (a : Addr) (ns : List Int), vs = [.ref a] ∧ SqL K H a (ns.map V.int) ∧ ns.length ≤ 63 ∧ ∀ H', Q (.bl true) H'
theorem ok_law {f fI : Addr} {fd fdI : FuncData} (F : Fun K "law" "law" sLaw f fd) (T : Txt K mg C) (B : Bl mg)
    (M : Mk K C fI) (bI : Binds K fdI ["self", "rules"] []) (GI : FnOk P w K mg base CX0 5 fI fdI ["self", "rules"] (spInit C))
    (mC : Mth P w K mg base CX0 C 7 "copy" ["self"] (spCopy C)) (mB : Mth P w K mg base CX0 C 6 "breaks" ["self", "word"] (spGaps C)) (mE : Mth P w K mg base CX0 C 1 "exceptions" ["self"] (spExc C))
    {gL : Addr} {fdL : FuncData} (hLs : PySem.W.findIn K (.ref C) "__len__" = some (some (.ref gL))) (hLf : PySem.W.isFn K (.ref gL) = true) (GL : FnOk P w K mg base CX0 1 gL fdL ["self"] (spLen C)) (bL : Binds K fdL ["self"] [])
    (cD : Cal P w K mg base 1 "_law_draw" ["_law_script", "_law_town", "_law_many"] (spDraw K)) (cP : Cal P w K mg base 2 "_law_pick" ["_law_script", "_law_town", "_law_some"] (spPick K))
    (cR : Cal P w K mg base 4 "_law_rules" ["_law_script", "_law_town", "_law_most", "_law_letters"] (spRules K)) (cLB : Cal P w K mg base 3 "_law_breaks" ["_law_rules_here", "_law_word"] spLawBreaks)
    (cDo : Cal P w K mg base 4 "_law_do" ["_law_hyphenator", "_law_what", "_law_text"] (spDo C)) (cG : Cal P w K mg base 1 "_law_gaps" ["_law_told"] spLawGaps) : FnOk P w K mg base CX0 8 f fd ["_law_script"] (spLaw K) := by
  refine F.ok scLaw (fun vs H Q E h => ?_) (fun cdv A outer s H vs Q E hr h => ?_)
  · obtain ⟨_, _, rfl, _⟩ := h
    rfl
  · obtain ⟨sc, ns, rfl, hS, hlen, q⟩ := h
    have nd := scLaw.nd
    have hu := hu_of hr
    have hu64 : (A.deeper (envOfC "law" (defScope sLaw) s.heap.objs.size f cdv)).units + 64 < cLine := by have := hr.un; omega
    obtain ⟨fC, fdC, GC, mmC, bC⟩ := mC
    obtain ⟨fB, fdB, GB, mmB, bB⟩ := mB
    obtain ⟨fE, fdE, GE, mmE, bE⟩ := mE
    refine ⟨_, pss_cons (ps_set (i := 1) nd rfl (.inr rfl) (pe_lst (pa_cons pe_int (pa_cons pe_int pa_nil))))
      (pss_cons (ps_asg (pe_tup (pa_cons (pe_cl cR hr (by decide) (by rfl) (pa_cons (pv 0) (pa_cons (pv 1) (pa_cons pe_int (pa_cons pe_str pa_nil))))) (pa_cons pe_dnewK pa_nil)))
        (pg_tup rfl (pgs_cons (pg_name (i := 2) nd rfl (.inl rfl)) (pgs_cons (pg_name (i := 3) nd rfl (.inr rfl)) pgs_nil))))
      (pss_cons (ps_set (i := 4) nd rfl (.inl rfl) (pe_make M GI (hr.mono (by decide)) (by rfl) T.mgC bI .nil pass0 (pa_cons (pv 2) pa_nil)))
      (pss_cons (ps_asg (pe_tup (pa_cons (pe_meth0 (pv 4) T.cl mmC GC (hr.mono (by decide)) bC .nil pass0) (pa_cons pe_dnewK pa_nil)))
        (pg_tup rfl (pgs_cons (pg_name (i := 5) nd rfl (.inl rfl)) (pgs_cons (pg_name (i := 6) nd rfl (.inr rfl)) pgs_nil))))
      (pss_cons (ps_set (i := 7) nd rfl (.inl rfl) (pe_lst (pa_cons pe_str (pa_cons pe_str (pa_cons pe_str (pa_cons pe_str (pa_cons pe_str (pa_cons pe_str pa_nil))))))))
      (pss_cons (ps_for PassesOwn.never rfl (pi_range1 (by rfl) B.range (pa_cons pe_int pa_nil)) (pg_name (i := 8) nd rfl (.inl rfl))
        (pss_cons (ps_set (i := 9) nd rfl (.inr rfl) (pe_cl cP hr (by decide) (by rfl) (pa_cons (pv 0) (pa_cons (pv 1) (pa_cons (pv 7) pa_nil)))))
        (pss_cons (ps_setLc (i := 10) (own := [("_law_at", 15)]) (g := gName 15) (by rfl) nd rfl rfl (sw_true rfl rfl rfl (by decide +kernel)) (pi_range2 (by rfl) B.range (pa_cons pe_int (pa_cons (pe_callB call_len_str (by rfl) B.len boot_len (pa_cons (pv 9) pa_nil)) pa_nil)))
          (blkOk_by (own := [("_law_at", 15)]) (N := nLaw) (sc := defScope sLaw) (by decide +kernel)) (fun _ _ _ _ _ => pg_name (i := 15) nd rfl (Or.inl rfl))
          (fun _ _ _ _ _ => pts_one (pt_cmpR op_eq (pe_cl cD hr (by decide) (by rfl) (pa_cons (pv 0) (pa_cons (pv 1) (pa_cons pe_int pa_nil)))) pe_int (nomark _))) (fun _ _ _ _ _ => pv 15))
        (pss_cons (ps_set (i := 11) nd rfl (.inl rfl) (pe_m1 PySem.F.slot_str_join PySem.F.type_str_join mt_join pe_str (pe_lc (own := [("_law_start", 16), ("_law_stop", 17)]) (g := gTup K 2 (gCons (gName 16) (gCons (gName 17) gNil))) (by rfl) nd
          (pi_zip (by rfl) B.zip (pa_cons (pe_op op_cat (pe_lst (pa_cons pe_int pa_nil)) (pv 10)) (pa_cons (pe_op op_cat (pv 10) (pe_lst (pa_cons (pe_callB call_len_str (by rfl) B.len boot_len (pa_cons (pv 9) pa_nil)) pa_nil))) pa_nil)))
          (blkOk_by (own := [("_law_start", 16), ("_law_stop", 17)]) (N := nLaw) (sc := defScope sLaw) (by decide +kernel))
          (fun _ _ _ _ _ => by exact pg_tup rfl (pgs_cons (pg_name (i := 16) nd rfl (Or.inl rfl)) (pgs_cons (pg_name (i := 17) nd rfl (Or.inl rfl)) pgs_nil)))
          (fun _ _ _ _ _ => pts_nil) (fun _ _ _ _ _ => pe_slice sl_str (pv 9) (po_some (pv 16)) (po_some (pv 17))))))
        (pss_cons (ps_if (pt_cmpR op_gt (pe_cl cD hr (by decide) (by rfl) (pa_cons (pv 0) (pa_cons (pv 1) (pa_cons pe_int pa_nil)))) pe_int (nomark _))
          (pss_cons (ps_dput hu (pv 3) (pv 9) (pv 11) rfl)
          (pss_one (ps_if (pt_cmpR op_ne (pe_cl cDo hr (by decide) (by rfl) (pa_cons (pv 4) (pa_cons pe_str (pa_cons (pv 11) pa_nil)))) (pe_callB call_lenD (by rfl) B.len boot_len (pa_cons (pv 3) pa_nil)) (nomark _)) (pss_one (ps_ret pe_bl)) pss_nil)))
          (pss_cons (ps_set (i := 12) nd rfl (.inl rfl) (pe_dpop2 (pv 3) (pv 9) pe_non ⟨rfl, rfl, rfl, rfl⟩))
          (pss_one (ps_if (pt_cmpR (op_neD hu64) (pe_cl cDo hr (by decide) (by rfl) (pa_cons (pv 4) (pa_cons pe_str (pa_cons (pv 9) pa_nil)))) (pe_ifExp (pt_cmp (pc_isN (pv 12))) (pe_tup (pa_cons pe_str (pa_cons pe_int pa_nil))) (pe_callB call_lenD (by rfl) B.len boot_len (pa_cons (pv 3) pa_nil))) (nomark _)) (pss_one (ps_ret pe_bl)) pss_nil))))
        (pss_cons (ps_for PassesOwn.never rfl (pi_list (pv 7)) (pg_name (i := 13) nd rfl (.inl rfl))
          (pss_cons (ps_set (i := 14) nd rfl (.inl rfl) (pe_ifExp (pt_cmp (pc_din hu (pv 13) (pv 3))) (pe_cl cG hr (by decide) (by rfl) (pa_cons (pe_dget hu (pv 3) (pv 13) (fun _ _ => rfl)) pa_nil)) (pe_cl cLB hr (by decide) (by rfl) (pa_cons (pv 2) (pa_cons (pv 13) pa_nil)))))
          (pss_one (ps_if (pt_cmpR (op_neD hu64) (pe_meth (pv 4) T.cl mmB GB (hr.mono (by decide)) bB .nil pass0 (pa_cons (pv 13) pa_nil)) (pv 14) (nomark _)) (pss_one (ps_ret pe_bl)) pss_nil))))
        (pss_cons (ps_if (pt_cmpR (op_neD hu64) (pe_meth0 (pv 4) T.cl mmE GE (hr.mono (by decide)) bE .nil pass0) (pe_lc (own := [("_law_one", 13)]) (g := gName 13) (by rfl) nd (pi_list (pe_callB (call_sortedD rfl) (by rfl) B.sorted boot_sorted (pa_cons (pv 3) pa_nil)))
            (blkOk_by (own := [("_law_one", 13)]) (N := nLaw) (sc := defScope sLaw) (by decide +kernel)) (fun _ _ _ _ _ => pg_name (i := 13) nd rfl (Or.inl rfl)) (fun _ _ _ _ _ => pts_nil) (fun _ _ _ _ _ => pe_dget hu (pv 3) (pv 13) (fun _ _ => rfl))) (nomark _)) (pss_one (ps_ret pe_bl)) pss_nil)
        (pss_cons (ps_if (pt_cmpR op_ne (pe_callB (call_lenOwn (E := E0) hLs hLf GL (hr.mono (by decide)) bL pass0) (by rfl) B.len boot_len (pa_cons (pv 4) pa_nil)) (pe_callB call_lenD (by rfl) B.len boot_len (pa_cons (pv 3) pa_nil)) (nomark _)) (pss_one (ps_ret pe_bl)) pss_nil)
        (pss_cons (ps_if (PW.pt (pw_or (pt_cmpR (op_neD hu64) (pe_meth0 (pv 5) T.cl mmE GE (hr.mono (by decide)) bE .nil pass0) (pe_lc (own := [("_law_one", 13)]) (g := gName 13) (by rfl) nd (pi_list (pe_callB (call_sortedD rfl) (by rfl) B.sorted boot_sorted (pa_cons (pv 6) pa_nil)))
            (blkOk_by (own := [("_law_one", 13)]) (N := nLaw) (sc := defScope sLaw) (by decide +kernel)) (fun _ _ _ _ _ => pg_name (i := 13) nd rfl (Or.inl rfl)) (fun _ _ _ _ _ => pts_nil) (fun _ _ _ _ _ => pe_dget hu (pv 6) (pv 13) (fun _ _ => rfl))) (nomark _))
          (pw_or1 (pt_cmpR op_ne (pe_callB (call_lenOwn (E := E0) hLs hLf GL (hr.mono (by decide)) bL pass0) (by rfl) B.len boot_len (pa_cons (pv 5) pa_nil)) (pe_callB call_lenD (by rfl) B.len boot_len (pa_cons (pv 6) pa_nil)) (nomark _))))) (pss_one (ps_ret pe_bl)) pss_nil)
        (pss_one (ps_if (pt_cmpR op_eq (pv 8) pe_int (nomark _))
          (pss_one (ps_asg (pe_tup (pa_cons (pe_meth0 (pv 4) T.cl mmC GC (hr.mono (by decide)) bC .nil pass0) (pa_cons (pe_callTy call_dictD (by rfl) B.dict boot_dict (pa_cons (pv 3) pa_nil)) pa_nil)))
            (pg_tup rfl (pgs_cons (pg_name (i := 5) nd rfl (.inl rfl)) (pgs_cons (pg_name (i := 6) nd rfl (.inr rfl)) pgs_nil))))) pss_nil)))))))))))
      (pss_cons (ps_expr (pe_bm PySem.F.plainAttrs_list PySem.F.slot_list_append PySem.F.type_list_append mt_append (pe_meth0 (pv 4) T.cl mmE GE (hr.mono (by decide)) bE .nil pass0) (pa_cons pe_str pa_nil)))
      (pss_one (ps_ret (pe_cmpR (op_eqD hu64) (pe_meth0 (pv 4) T.cl mmE GE (hr.mono (by decide)) bE .nil pass0) (pe_lc (own := [("_law_one", 13)]) (g := gName 13) (by rfl) nd (pi_list (pe_callB (call_sortedD rfl) (by rfl) B.sorted boot_sorted (pa_cons (pv 3) pa_nil)))
            (blkOk_by (own := [("_law_one", 13)]) (N := nLaw) (sc := defScope sLaw) (by decide +kernel)) (fun _ _ _ _ _ => pg_name (i := 13) nd rfl (Or.inl rfl)) (fun _ _ _ _ _ => pts_nil) (fun _ _ _ _ _ => pe_dget hu (pv 3) (pv 13) (fun _ _ => rfl))) (nomark _)))))))))), ?_⟩
    have h6 : ∀ n : Nat, n ≤ 1000 → n ≤ sizeLine := fun n h => Nat.le_of_lt (small1000 h)
    -- the town, the rules, the known words
    refine ⟨by show 2 ≤ sizeLine; decide, fun T hT => ?_⟩
    have sT : Same H (upd H T (.lst [.int 0, .int 0])) := same_new hT (Same.refl H)
    have scr1 : Scr K (upd H T (.lst [.int 0, .int 0])) sc T ns := Scr.new hS hT sT
    have tw1 : Town (upd H T (.lst [.int 0, .int 0])) T := ⟨0, 0, upd_same, Int.le_refl _⟩
    generalize upd H T (.lst [.int 0, .int 0]) = H1 at sT scr1 tw1 ⊢
    refine ⟨_, rfl, _, rfl, sc, T, ns, rfl, scr1, tw1, fun ru pt ps l r H2 mk l1 l3 r1 r3 R2 b2 t2 => fun kd hkd => ⟨by show 2 ≤ sizeLine; decide, fun tp htp => ⟨tp, _, rfl, SqT.of upd_same, rfl, _, _, rfl, _, _, rfl, rfl, ?_⟩⟩⟩
    have gr := mk.good l1 l3 r1 r3
    have scr2 := scr1.but b2
    have sk : Same H2 (upd H2 kd (.dK [])) := same_new hkd (Same.refl H2)
    have kk : upd H2 kd (.dK []) kd = some (.dK []) := upd_same
    have s3 : Same H2 (upd (upd H2 kd (.dK [])) tp (.tup [.ref ru, .ref kd])) := same_new (Same.free sk htp) sk
    have k3 : upd (upd H2 kd (.dK [])) tp (.tup [.ref ru, .ref kd]) kd = some (.dK []) := (upd_ne (ne_of_none kk htp)).trans kk
    have R3 := R2.same s3
    have scr3 := scr2.same s3
    have tw3 := town_same t2 s3
    generalize upd (upd H2 kd (.dK [])) tp (.tup [.ref ru, .ref kd]) = H3 at k3 R3 scr3 tw3 ⊢
    -- Hyphenator(rules)
    refine ⟨_, rfl, ?_⟩
    intro hp dx nx ndx nex
    have s4 : Same H3 (upd (upd H3 dx (.own hp)) hp (.ins C dx [])) := fun b o e => by
      rw [upd_ne (ne_of_none e nx), upd_ne (ne_of_none e ndx)]
      exact e
    refine ⟨hp, dx, ru, pt, ps, l, r, rfl, upd_same, R3.same s4, gr, fun H4 hd n1 S4 keep => ⟨rfl, ?_⟩⟩
    have s5 : Same H3 H4 := fun b o e => keep b o (s4 b o e) (ne_of_none e nx)
    have k4 := s5 _ _ k3
    have hdkd : hd ≠ kd := fun e => by
      have := s4 _ _ k3
      rw [← e, n1] at this
      cases this
    have scr4 := scr3.same s5
    have tw4 := town_same tw3 s5
    -- the copy, what is kept
    obtain ⟨⟨dy, ob4⟩, dc4, ra4⟩ := id S4
    refine ⟨_, rfl, hp, dy, _, rfl, ob4, flds_no _ _ (by decide +kernel) (by decide +kernel), hp, hd, ru, pt, ps, l, r, [], rfl, S4, gr, fun H5 op od s5' np nd' S5 => fun ke hke => ⟨by show 2 ≤ sizeLine; decide, fun tp2 htp2 => ⟨tp2, _, rfl, SqT.of upd_same, rfl, _, _, rfl, _, _, rfl, rfl, ?_⟩⟩⟩
    have sk5 : Same H5 (upd H5 ke (.dK [])) := same_new hke (Same.refl H5)
    have kk5 : upd H5 ke (.dK []) ke = some (.dK []) := upd_same
    have s6 : Same H5 (upd (upd H5 ke (.dK [])) tp2 (.tup [.ref op, .ref ke])) := same_new (Same.free sk5 htp2) sk5
    have k6 : upd (upd H5 ke (.dK [])) tp2 (.tup [.ref op, .ref ke]) ke = some (.dK []) := (upd_ne (ne_of_none kk5 htp2)).trans kk5
    have s46 := s5'.trans s6
    have hne : hd ≠ ke := ne_of_none (s5' _ _ dc4) hke
    have kne : kd ≠ ke := ne_of_none (s5' _ _ k4) hke
    have hno : hd ≠ od := ne_of_none dc4 nd'
    have kno : kd ≠ od := ne_of_none k4 nd'
    have hy6 := S4.same s46
    have ot6 := S5.same s6
    have kn6 := s46 _ _ k4
    have scr6 := scr4.same s46
    have tw6 := town_same tw4 s46
    generalize upd (upd H5 ke (.dK [])) tp2 (.tup [.ref op, .ref ke]) = H6 at hy6 ot6 kn6 scr6 tw6 k6 ⊢
    -- the words
    refine ⟨by show 6 ≤ sizeLine; decide, fun W hW => ?_⟩
    have sW : Same H6 (upd H6 W (.lst (wds.map V.str))) := same_new hW (Same.refl H6)
    have wT : W ≠ T := Ne.symm (tw6.ne hW)
    have st0 : St8 C K sc T ns ru pt ps l r W (upd H6 W (.lst (wds.map V.str))) hp hd kd op od ke [] [] := ⟨scr6.same sW, town_same tw6 sW, hy6.same sW, sW _ _ kn6, ot6.same sW, sW _ _ k6, upd_same, wT, hdkd, hno, hne, kno, kne⟩
    show tSeq _ _ _ _ (upd H6 W (.lst (wds.map V.str)))
    generalize upd H6 W (.lst (wds.map V.str)) = H7 at st0 ⊢
    refine ⟨12, rfl, by decide, by decide, ?_⟩
    refine for_range (n := 12) (fun i σ H' => ∃ (op od ke : Addr) (kvs kvs2 : List (Key × V)) (v8 v9 v10 v11 v12 v13 v14 : Option V), σ = [some (.ref sc), some (.ref T), some (.ref ru), some (.ref kd), some (.ref hp), some (.ref op), some (.ref ke), some (.ref W), v8, v9, v10, v11, v12, v13, v14, none, none, none] ∧
      St8 C K sc T ns ru pt ps l r W H' hp hd kd op od ke kvs kvs2 ∧ TK kvs ∧ TK kvs2 ∧ kvs.length ≤ i ∧ kvs2.length ≤ i) ⟨op, od, ke, [], [], none, none, none, none, none, none, none, rfl, st0, fun q h => (nomatch h), fun q h => (nomatch h), Nat.le_refl _, Nat.le_refl _⟩ ?_ ?_
    · rintro i σ H8 hi ⟨op, od, ke, kvs, kvs2, v8, v9, v10, v11, v12, v13, v14, rfl, st, tk, tk2, kl, kl2⟩
      have e0 : (0 : Int) + (i : Int) = i := Int.zero_add _
      rw [e0]
      -- the word
      refine ⟨_, rfl, _, rfl, _, rfl, sc, T, ns, st.scr, st.tw, .inl ⟨W, _, rfl, st.ws, st.wT, by show 0 < 6; decide, by show 6 < 1000; decide, fun x H9 hx b9 t9 => ?_⟩⟩
      obtain ⟨w0, hw0, rfl⟩ := List.mem_map.mp hx
      obtain ⟨iw, wl, wl1⟩ := wds_of hw0
      have st9 := st.but b9 t9
      -- the gaps
      refine seq_nx (fun σ' H' => ∃ (gs : List Int) (G : Addr), gs ∈ subs (w0.length - 1) ∧ σ' = [some (.ref sc), some (.ref T), some (.ref ru), some (.ref kd), some (.ref hp), some (.ref op), some (.ref ke), some (.ref W), some (.int (i : Int)), some (.str w0), some (.ref G), v11, v12, v13, v14, none, none, none] ∧
        But T H9 H' ∧ Town H' T ∧ H' G = some (.lst (gs.map V.int))) (fun D' kD => ?_) ?_
      · refine ⟨_, rfl, w0, rfl, h6 _ (by omega), 1, _, rfl, ⟨by decide, by decide, by omega, by omega⟩, fun D hD => ?_⟩
        have hTD := t9.ne hD
        have eN : ((w0.length : Int) - 1).toNat = w0.length - 1 := by omega
        rw [eN]
        refine lc_range (fun j H' => ∃ gs, gs ∈ subs j ∧ But T H9 H' ∧ Town H' T ∧ H' D = some (.lst (gs.map V.int))) ⟨[], List.mem_singleton.mpr rfl, (But.refl H9).new hD _, t9.upd hTD _, upd_same⟩ ?_ ?_
        · rintro j H' hj ⟨gs, hgs, bj, tj, dj⟩
          have hgl := subs_len j gs hgs
          refine ⟨rfl, _, rfl, _, rfl, sc, T, ns, 2, rfl, st9.scr.but bj, tj, by decide, by decide, fun rr H'' r0 r1 bk tk' => ⟨rfl, _, rfl, ite2 (fun hb => ?_) fun hb => ?_⟩⟩
          · refine ⟨_, rfl, _, bk D _ dj (Ne.symm hTD), ?_, gs ++ [1 + (j : Int)], subs_add hgs, (bj.trans bk).new hD _, tk'.upd hTD _, ?_⟩
            · rw [List.length_map]; exact small1000 (by omega)
            · rw [upd_same, List.map_append]; rfl
          · exact ⟨gs, subs_keep hgs, bj.trans bk, tk', bk D _ dj (Ne.symm hTD)⟩
        · rintro H' ⟨gs, hgs, bj, tj, dj⟩
          exact kD _ _ ⟨gs, D, hgs, rfl, bj, tj, dj⟩
      rintro σ' H10 ⟨gs, G, hgs, rfl, b10, t10, g10⟩
      have st10 := st9.but b10 t10
      have hgl := subs_len _ gs hgs
      obtain ⟨told, hsum⟩ := told_of hw0 hgs
      -- the told word
      refine seq_split (fun σ' H' => σ' = [some (.ref sc), some (.ref T), some (.ref ru), some (.ref kd), some (.ref hp), some (.ref op), some (.ref ke), some (.ref W), some (.int (i : Int)), some (.str w0), some (.ref G), some (.str (toldOf w0 gs)), v12, v13, v14, none, none, none] ∧ Same H10 H') (fun D' kD => ?_) ?_
      · refine ⟨⟨_, rfl⟩, by show 1 ≤ sizeLine; decide, fun P1 hP1 => ⟨_, rfl, P1, G, [.int 0], gs.map V.int, rfl, rfl, upd_same, ?_, ?_, fun Q1 hQ1 => ?_⟩⟩
        · exact (upd_ne (ne_of_none g10 hP1)).trans g10
        · show 1 + (gs.map V.int).length ≤ sizeLine
          rw [List.length_map]
          exact h6 _ (by omega)
        have s1 : Same H10 (upd H10 P1 (.lst [.int 0])) := same_new hP1 (Same.refl _)
        have s2 : Same H10 (upd (upd H10 P1 (.lst [.int 0])) Q1 (.lst ([.int 0] ++ gs.map V.int))) := same_new (Same.free s1 hQ1) s1
        have q1 : upd (upd H10 P1 (.lst [.int 0])) Q1 (.lst ([.int 0] ++ gs.map V.int)) Q1 = some (.lst ((0 :: gs).map V.int)) := upd_same
        generalize upd (upd H10 P1 (.lst [.int 0])) Q1 (.lst ([.int 0] ++ gs.map V.int)) = Ha at s2 q1 ⊢
        have ga := s2 _ _ g10
        refine ⟨_, rfl, _, rfl, w0, rfl, h6 _ (by omega), by show 1 ≤ sizeLine; decide, fun P2 hP2 => ⟨G, P2, gs.map V.int, [.int (w0.length : Int)], rfl, rfl, ?_, upd_same, ?_, fun Q2 hQ2 => ?_⟩⟩
        · exact (upd_ne (ne_of_none ga hP2)).trans ga
        · show (gs.map V.int).length + 1 ≤ sizeLine
          rw [List.length_map]
          exact h6 _ (by omega)
        have s3' : Same Ha (upd Ha P2 (.lst [.int (w0.length : Int)])) := same_new hP2 (Same.refl _)
        have s4' : Same Ha (upd (upd Ha P2 (.lst [.int (w0.length : Int)])) Q2 (.lst (gs.map V.int ++ [.int (w0.length : Int)]))) := same_new (Same.free s3' hQ2) s3'
        have q2 : upd (upd Ha P2 (.lst [.int (w0.length : Int)])) Q2 (.lst (gs.map V.int ++ [.int (w0.length : Int)])) Q2 = some (.lst ((gs ++ [(w0.length : Int)]).map V.int)) := by rw [upd_same, List.map_append]; rfl
        generalize upd (upd Ha P2 (.lst [.int (w0.length : Int)])) Q2 (.lst (gs.map V.int ++ [.int (w0.length : Int)])) = Hb at s4' q2 ⊢
        have qa := s4' _ _ q1
        refine ⟨Q1, Q2, _, _, rfl, SqL.of qa, SqL.of q2, fun D hD => ?_⟩
        have pl : (pieces w0 gs).length = gs.length + 1 := by
          unfold pieces
          rw [List.length_zipWith, List.length_cons, List.length_append, List.length_singleton, Nat.min_self]
        refine lc_it (walk_zip (xs := (0 :: gs).map V.int) (ys := (gs ++ [(w0.length : Int)]).map V.int) (n := gs.length + 1) (by rw [List.length_map, List.length_map, List.length_cons, List.length_append, List.length_singleton, Nat.min_self]))
          (fun j H' => Same Hb H' ∧ H' D = some (.lst (((pieces w0 gs).take j).map V.str))) ⟨same_new hD (Same.refl _), upd_same⟩ (fun j H' _ hP => ⟨SqL.of (hP.1 _ _ qa), SqL.of (hP.1 _ _ q2)⟩) ?_ ?_
        · rintro j x Hc Hd hj ⟨sc', dc'⟩ ⟨T', x, y, rfl, hT', rfl, hx, hy⟩
          have hx : ((0 :: gs).map V.int)[j]? = some x := hx
          have hy : ((gs ++ [(w0.length : Int)]).map V.int)[j]? = some y := hy
          rw [List.getElem?_map] at hx hy
          obtain ⟨a, ha, rfl⟩ := Option.map_eq_some_iff.mp hx
          obtain ⟨b, hb, rfl⟩ := Option.map_eq_some_iff.mp hy
          have hpj : (pieces w0 gs)[j]? = some (cutS w0 (some a) (some b)) := by
            unfold pieces
            rw [List.getElem?_zipWith, ha, hb]
          have sd : Same Hc (upd Hc T' (.tup [.int a, .int b])) := same_new hT' (Same.refl _)
          refine ⟨T', _, rfl, SqT.of upd_same, rfl, _, _, rfl, _, _, rfl, rfl, rfl, _, rfl, _, rfl, a, rfl, _, rfl, b, rfl, w0, rfl, h6 _ (by omega), _, sd _ _ dc', ?_, same_new hD (sc'.trans sd), ?_⟩
          · rw [List.length_map]
            have := List.length_take_le' j (pieces w0 gs)
            exact small1000 (by omega)
          · rw [upd_same, take_next hpj, List.map_append]
            rfl
        · rintro Hc ⟨sc', dc'⟩
          rw [List.take_of_length_le (by omega)] at dc'
          refine ⟨_, D, pieces w0 gs, rfl, rfl, .inl (SqL.of dc'), ?_, ?_⟩
          · exact Nat.le_trans hsum (by decide)
          · exact kD _ _ ⟨rfl, (s2.trans s4').trans sc'⟩
      rintro σ' H11 ⟨rfl, s11⟩
      have st11 := st10.same s11
      -- add or remove
      refine seq_split (fun σ' H' => ∃ (kvs' : List (Key × V)) (v12' : Option V), σ' = [some (.ref sc), some (.ref T), some (.ref ru), some (.ref kd), some (.ref hp), some (.ref op), some (.ref ke), some (.ref W), some (.int (i : Int)), some (.str w0), some (.ref G), some (.str (toldOf w0 gs)), v12', v13, v14, none, none, none] ∧
        St8 C K sc T ns ru pt ps l r W H' hp hd kd op od ke kvs' kvs2 ∧ TK kvs' ∧ kvs'.length ≤ i + 1) (fun D' kD => ?_) ?_
      · refine ⟨_, rfl, _, rfl, sc, T, ns, 3, rfl, st11.scr, st11.tw, by decide, by decide, fun rr H12 r0 r1 b12 t12 => ⟨_, _, rfl, rfl, _, rfl, ite2 (fun _ => ?_) fun _ => ?_⟩⟩
        · have st12 := st11.but b12 t12
          refine ⟨_, rfl, _, rfl, _, rfl, kd, _, rfl, DPut.k (k := Sum.inr w0) st12.kn (small1000 (by omega)), ?_⟩
          have keepK : ∀ b o, H12 b = some o → b ≠ kd → upd H12 kd (.dK (putK kvs (Sum.inr w0 : Key) (V.str (toldOf w0 gs)))) b = some o := fun b o e hb => (upd_ne hb).trans e
          have kk : upd H12 kd (.dK (putK kvs (Sum.inr w0 : Key) (V.str (toldOf w0 gs)))) kd = some (.dK (putK kvs (Sum.inr w0 : Key) (V.str (toldOf w0 gs)))) := upd_same
          have hyk := st12.hy.other st12.kn st12.n1 keepK
          refine ⟨_, rfl, _, rfl, hp, hd, ru, pt, ps, l, r, kvs, "add", toldOf w0 gs, w0, rfl, hyk, by omega, .inl ⟨rfl, told.g, fun H13 S13 k13 => ?_⟩⟩
          have kd13 := k13 kd _ kk (Ne.symm st12.n1)
          refine ⟨_, rfl, kd, _, rfl, kd13, rfl, _, rfl, iteNS rfl ?_⟩
          exact kD _ _ ⟨_, _, rfl, st12.both (fun b o e h1 h2 => k13 b o (keepK b o e h2) h1) S13 kd13, tk.put told, Nat.le_trans (putK_len _ _ _) (by omega)⟩
        · have st12 := st11.but b12 t12
          refine ⟨_, rfl, kd, rfl, .inl ⟨kvs, .inl st12.kn⟩, _, rfl, kvs, Sum.inr w0, st12.kn, rfl, fun v hv => ?_, fun hn => ?_⟩
          · obtain ⟨t', rfl, gt'⟩ := tk.val hv
            have keepK : ∀ b o, H12 b = some o → b ≠ kd → upd H12 kd (.dK (dropK kvs (Sum.inr w0 : Key))) b = some o := fun b o e hb => (upd_ne hb).trans e
            have kk : upd H12 kd (.dK (dropK kvs (Sum.inr w0 : Key))) kd = some (.dK (dropK kvs (Sum.inr w0 : Key))) := upd_same
            have hyk := st12.hy.other st12.kn st12.n1 keepK
            refine ⟨_, rfl, _, rfl, hp, hd, ru, pt, ps, l, r, kvs, "remove", w0, w0, rfl, hyk, by omega, .inr ⟨rfl, rfl, wl, iw, fun v' hv' H13 S13 k13 => ?_, fun hn => ?_⟩⟩
            · have kd13 := k13 kd _ kk (Ne.symm st12.n1)
              refine ⟨_, rfl, _, rfl, ?_⟩
              rw [decide_eq_false (show ¬ V.str t' = V.non by intro z; cases z)]
              refine iteF ⟨_, rfl, kd, _, rfl, kd13, .int _, .int _, .int _, .int _, rfl, rfl, _, rfl, ?_⟩
              rw [show PyData.eqv (.int ((dropK kvs (Sum.inr w0 : Key)).length : Nat)) (.int ((dropK kvs (Sum.inr w0 : Key)).length : Nat)) = true from beq_self_eq_true _]
              exact iteF (kD _ _ ⟨_, _, rfl, st12.both (fun b o e h1 h2 => k13 b o (keepK b o e h2) h1) S13 kd13, tk.drop _, Nat.le_trans (dropK_le _ _) (by omega)⟩)
            · rw [hn] at hv; cases hv
          · refine ⟨_, rfl, _, rfl, hp, hd, ru, pt, ps, l, r, kvs, "remove", w0, w0, rfl, st12.hy, by omega, .inr ⟨rfl, rfl, wl, iw, fun v' hv' => ?_, fun _ H13 e s13 n13 e13 => ?_⟩⟩
            · rw [hn] at hv'; cases hv'
            · refine ⟨_, rfl, _, rfl, ?_⟩
              rw [decide_eq_true (show V.non = V.non from rfl)]
              refine iteT ⟨by show 2 ≤ sizeLine; decide, fun e2 he2 => ?_⟩
              have s14 : Same H13 (upd H13 e2 (.tup [.str "raised", .int 7])) := same_new he2 (Same.refl _)
              refine ⟨.tuple [.str "raised", .int 7], .tuple [.str "raised", .int 7], .tup (SqT.of (s14 _ _ e13)) (.cons (.str _) (.cons (.int _) .nil)), .tup (SqT.of upd_same) (.cons (.str _) (.cons (.int _) .nil)), by decide +kernel, by decide +kernel, _, rfl, ?_⟩
              rw [show PyData.eqv (.tuple [.str "raised", .int 7]) (.tuple [.str "raised", .int 7]) = true by decide +kernel]
              exact iteF (kD _ _ ⟨kvs, _, rfl, (st12.same s13).same s14, tk, by omega⟩)
      rintro σ' H14 ⟨kvs', v12', rfl, st14, tk', kl'⟩
      -- each word's breaks
      refine seq_split (fun σ' H' => ∃ v13' v14' : Option V, σ' = [some (.ref sc), some (.ref T), some (.ref ru), some (.ref kd), some (.ref hp), some (.ref op), some (.ref ke), some (.ref W), some (.int (i : Int)), some (.str w0), some (.ref G), some (.str (toldOf w0 gs)), v12', v13', v14', none, none, none] ∧ St8 C K sc T ns ru pt ps l r W H' hp hd kd op od ke kvs' kvs2) (fun D' kD => ?_) ?_
      · refine ⟨_, rfl, W, rfl, ⟨_, SqL.of st14.ws⟩, ?_⟩
        refine for_list (xs := wds.map V.str) (fun j σ' H' => ∃ v13' v14' : Option V, σ' = [some (.ref sc), some (.ref T), some (.ref ru), some (.ref kd), some (.ref hp), some (.ref op), some (.ref ke), some (.ref W), some (.int (i : Int)), some (.str w0), some (.ref G), some (.str (toldOf w0 gs)), v12', v13', v14', none, none, none] ∧ St8 C K sc T ns ru pt ps l r W H' hp hd kd op od ke kvs' kvs2) ⟨_, _, rfl, st14⟩ (fun j σ' H' _ hP => by obtain ⟨_, _, _, st'⟩ := hP; exact SqL.of st'.ws) ?_ ?_
        · rintro j x σ' H15 hj ⟨v13', v14', rfl, st15⟩
          obtain ⟨w1, hw1, rfl⟩ := List.mem_map.mp (List.mem_of_getElem? hj)
          obtain ⟨iw1, wl1', _⟩ := wds_of hw1
          refine seq_g (fun σ' H' => ∃ D4 : Addr, σ' = [some (.ref sc), some (.ref T), some (.ref ru), some (.ref kd), some (.ref hp), some (.ref op), some (.ref ke), some (.ref W), some (.int (i : Int)), some (.str w0), some (.ref G), some (.str (toldOf w0 gs)), v12', some (.str w1), some (.ref D4), none, none, none] ∧ Same H15 H' ∧ H' D4 = some (.lst ((gapsOf kvs' ps l r w1).map V.int))) (fun D'' kD'' => ?_) ?_
          · refine ⟨_, rfl, _, rfl, kd, _, rfl, DGet.k (k := Sum.inr w1) st15.kn, _, rfl, ?_⟩
            cases e : valV kvs' (Sum.inr w1 : Key) with
            | none =>
              refine iteF ⟨_, rfl, _, rfl, ru, pt, ps, l, r, w1, rfl, st15.hy.ra, fun p hp => (mk.sh p hp).bare, wl1', fun H4 D4 s4 n4 d4 => kD'' _ _ ⟨D4, rfl, s4, ?_⟩⟩
              rw [d4, breaks_eq mk.sh l1 r1]
              unfold gapsOf
              rw [e]
            | some v =>
              obtain ⟨t, rfl, gt⟩ := tk'.val e
              have hg := DGet.k (k := (Sum.inr w1 : Key)) st15.kn
              rw [e] at hg
              refine iteT ⟨_, rfl, _, rfl, kd, .str t, rfl, hg, t, rfl, gt.g.len, fun H4 D4 s4 n4 d4 => kD'' _ _ ⟨D4, rfl, s4, ?_⟩⟩
              rw [d4, ← gt.e]
              unfold gapsOf
              rw [e]
          · rintro σ' H16 ⟨D4, rfl, s16, d16⟩
            have st16 := st15.same s16
            obtain ⟨⟨dx', ob'⟩, _, _⟩ := id st16.hy
            refine ⟨_, rfl, hp, dx', _, rfl, ob', flds_no _ _ (by decide +kernel) (by decide +kernel), _, rfl, hp, hd, ru, pt, ps, l, r, kvs', w1, rfl, st16.hy, gr, tk'.kv, wl1', iw1, goodW mk.sh w1, fun H17 D5 s17 n17 d17 =>
              ⟨_, rfl, .list (dInts (gapsOf kvs' ps l r w1)), .list (dInts (gapsOf kvs' ps l r w1)), .lst (SqL.of d17) (dp_ints _), .lst (SqL.of (s17 _ _ d16)) (dp_ints _), shaped_ints _, shaped_ints _, _, rfl, ?_⟩⟩
            rw [show PyData.eqv (.list (dInts (gapsOf kvs' ps l r w1))) (.list (dInts (gapsOf kvs' ps l r w1))) = true from eqv_ints _]
            exact iteF ⟨_, _, rfl, st16.same s17⟩
        · rintro σ' H15 ⟨v13', v14', rfl, st15⟩
          exact kD _ _ ⟨_, _, rfl, st15⟩
      rintro σ' H18 ⟨v13', v14', rfl, st18⟩
      -- the exceptions
      refine seq_split (fun σ' H' => σ' = [some (.ref sc), some (.ref T), some (.ref ru), some (.ref kd), some (.ref hp), some (.ref op), some (.ref ke), some (.ref W), some (.int (i : Int)), some (.str w0), some (.ref G), some (.str (toldOf w0 gs)), v12', v13', v14', none, none, none] ∧ St8 C K sc T ns ru pt ps l r W H' hp hd kd op od ke kvs' kvs2) (fun D' kD => ?_) ?_
      · obtain ⟨⟨dx', ob'⟩, _, _⟩ := id st18.hy
        refine ⟨_, rfl, hp, dx', _, rfl, ob', flds_no _ _ (by decide +kernel) (by decide +kernel), hp, hd, ru, pt, ps, l, r, kvs', rfl, st18.hy, tk'.kv, by omega, fun ys H19 D4 py sy s19 n19 d19 => ?_⟩
        refine comp_read (i := 3) rfl (by decide) (by show 13 < 18; decide) (s19 _ _ st18.kn) tk' (by omega) (fun R' hR' => ⟨_, rfl, kd, kvs', keysS kvs', rfl, .inl (s19 _ _ st18.kn), keysS_eq tk'.kv, by rw [keysS_len tk'.kv]; omega, fun zs q pz sz hq => hR' zs q pz sz hq⟩) (fun zs H20 D5 pz sz s20 d20 => ?_)
        obtain ⟨d, e, g1, g2, g3, g4, g5⟩ := same_lists (H := H20) tk' py sy pz sz (s20 _ _ d19) d20
        refine ⟨d, e, g1, g2, g3, g4, _, rfl, ?_⟩
        rw [g5]
        exact iteF (kD _ _ ⟨rfl, (st18.same s19).same s20⟩)
      rintro σ' H21 ⟨rfl, st21⟩
      -- len
      refine seq_split (fun σ' H' => σ' = [some (.ref sc), some (.ref T), some (.ref ru), some (.ref kd), some (.ref hp), some (.ref op), some (.ref ke), some (.ref W), some (.int (i : Int)), some (.str w0), some (.ref G), some (.str (toldOf w0 gs)), v12', v13', v14', none, none, none] ∧ St8 C K sc T ns ru pt ps l r W H' hp hd kd op od ke kvs' kvs2) (fun D' kD => ?_) ?_
      · obtain ⟨⟨dx', ob'⟩, _, _⟩ := id st21.hy
        refine ⟨_, rfl, hp, dx', _, rfl, ob', hp, hd, ru, pt, ps, l, r, kvs', rfl, st21.hy, kvs'.length, by omega, rfl, _, rfl, kd, _, rfl, st21.kn, rfl, _, rfl, iteNS rfl ?_⟩
        exact kD _ _ ⟨rfl, st21⟩
      rintro σ' H22 ⟨rfl, st22⟩
      -- the copy
      refine seq_split (fun σ' H' => σ' = [some (.ref sc), some (.ref T), some (.ref ru), some (.ref kd), some (.ref hp), some (.ref op), some (.ref ke), some (.ref W), some (.int (i : Int)), some (.str w0), some (.ref G), some (.str (toldOf w0 gs)), v12', v13', v14', none, none, none] ∧ St8 C K sc T ns ru pt ps l r W H' hp hd kd op od ke kvs' kvs2) (fun D' kD => ?_) ?_
      · obtain ⟨⟨dx', ob'⟩, _, _⟩ := id st22.ot
        refine ⟨_, rfl, op, dx', _, rfl, ob', flds_no _ _ (by decide +kernel) (by decide +kernel), op, od, ru, pt, ps, l, r, kvs2, rfl, st22.ot, tk2.kv, by omega, fun ys H19 D4 py sy s19 n19 d19 => ?_⟩
        refine comp_read (i := 6) rfl (by decide) (by show 13 < 18; decide) (s19 _ _ st22.kp) tk2 (by omega) (fun R' hR' => ⟨_, rfl, ke, kvs2, keysS kvs2, rfl, .inl (s19 _ _ st22.kp), keysS_eq tk2.kv, by rw [keysS_len tk2.kv]; omega, fun zs q pz sz hq => hR' zs q pz sz hq⟩) (fun zs H20 D5 pz sz s20 d20 => ?_)
        obtain ⟨d, e, g1, g2, g3, g4, g5⟩ := same_lists (H := H20) tk2 py sy pz sz (s20 _ _ d19) d20
        have st23 := (st22.same s19).same s20
        obtain ⟨⟨dx2, ob2⟩, _, _⟩ := id st23.ot
        refine ⟨d, e, g1, g2, g3, g4, _, rfl, ?_⟩
        rw [g5]
        refine iteF ⟨_, rfl, op, dx2, _, rfl, ob2, op, od, ru, pt, ps, l, r, kvs2, rfl, st23.ot, kvs2.length, by omega, rfl, _, rfl, ke, _, rfl, st23.kp, rfl, _, rfl, iteNS rfl ?_⟩
        exact kD _ _ ⟨rfl, st23⟩
      rintro σ' H24 ⟨rfl, st24⟩
      -- at the seventh turn: a new copy
      refine ⟨_, rfl, rfl, _, rfl, ite2 (fun _ => ?_) fun _ => ?_⟩
      · obtain ⟨⟨dx', ob'⟩, dc', _⟩ := id st24.hy
        refine ⟨_, rfl, hp, dx', _, rfl, ob', flds_no _ _ (by decide +kernel) (by decide +kernel), hp, hd, ru, pt, ps, l, r, kvs', rfl, st24.hy, gr, fun H25 op' od' s25 np' nd25 S25 => ?_⟩
        have st25 := st24.same s25
        refine ⟨_, rfl, kd, kvs', rfl, .inl st25.kn, fun ke' hke' => ⟨by show 2 ≤ sizeLine; decide, fun tp' htp' => ⟨tp', _, rfl, SqT.of upd_same, rfl, _, _, rfl, _, _, rfl, rfl, ?_⟩⟩⟩
        have sk' : Same H25 (upd H25 ke' (.dK kvs')) := same_new hke' (Same.refl _)
        have s26 : Same H25 (upd (upd H25 ke' (.dK kvs')) tp' (.tup [.ref op', .ref ke'])) := same_new (Same.free sk' htp') sk'
        have k26 : upd (upd H25 ke' (.dK kvs')) tp' (.tup [.ref op', .ref ke']) ke' = some (.dK kvs') := (upd_ne (ne_of_none (show upd H25 ke' (.dK kvs') ke' = some (.dK kvs') from upd_same) htp')).trans upd_same
        have st26 := st25.same s26
        exact ⟨op', od', ke', kvs', kvs', _, _, _, _, _, _, _, rfl, ⟨st26.scr, st26.tw, st26.hy, st26.kn, S25.same s26, k26, st26.ws, st26.wT, st26.n1, ne_of_none dc' nd25, ne_of_none st25.hy.dc hke', ne_of_none st24.kn nd25, ne_of_none st25.kn hke'⟩, tk', tk', kl', kl'⟩
      · exact ⟨op, od, ke, kvs', kvs2, _, _, _, _, _, _, _, rfl, st24, tk', tk2, kl', by omega⟩
    · rintro σ' H30 ⟨op, od, ke, kvs, kvs2, v8, v9, v10, v11, v12, v13, v14, rfl, st, tk, tk2, kl, kl2⟩
      -- the last: a list of its own
      obtain ⟨⟨dx', ob'⟩, _, _⟩ := id st.hy
      refine ⟨_, rfl, hp, dx', _, rfl, ob', flds_no _ _ (by decide +kernel) (by decide +kernel), hp, hd, ru, pt, ps, l, r, kvs, rfl, st.hy, tk.kv, by omega, fun ys H31 D4 py sy s31 n31 d31 => ?_⟩
      refine ⟨.inl ⟨rfl, _, SqL.of d31⟩, D4, _, _, rfl, rfl, d31, ?_, ?_⟩
      · rw [List.length_map, py.length_eq, keysS_len tk.kv]
        exact small1000 (by omega)
      have s32 : Same H30 (upd H31 D4 (.lst (ys.map (atK kvs) ++ [V.str "x"]))) := same_new n31 s31
      have st32 := st.same s32
      obtain ⟨⟨dx2, ob2⟩, _, _⟩ := id st32.hy
      refine ⟨_, rfl, hp, dx2, _, rfl, ob2, flds_no _ _ (by decide +kernel) (by decide +kernel), hp, hd, ru, pt, ps, l, r, kvs, rfl, st32.hy, tk.kv, by omega, fun us H33 D5 pu su s33 n33 d33 => ?_⟩
      refine comp_read (i := 3) rfl (by decide) (by show 13 < 18; decide) (s33 _ _ st32.kn) tk (by omega) (fun R' hR' => ⟨_, rfl, kd, kvs, keysS kvs, rfl, .inl (s33 _ _ st32.kn), keysS_eq tk.kv, by rw [keysS_len tk.kv]; omega, fun zs q pz sz hq => hR' zs q pz sz hq⟩) (fun zs H34 D6 pz sz s34 d34 => ?_)
      obtain ⟨d, e, g1, g2, g3, g4, g5⟩ := same_lists (H := H34) tk pu su pz sz (s34 _ _ d33) d34
      refine ⟨d, e, g1, g2, g3, g4, ?_⟩
      rw [g5]
      exact q H34
end
end Hy
set_option Elab.async false
set_option linter.all false
set_option maxRecDepth 100000
set_option maxHeartbeats 4000000
namespace Hy
open PySem PySem.Spec PyProof.Rows L2 CwR
/-! ### what the top has left -/
/-- the def x of the module, as an object -/
def DfAt (K : PySem.W.Frag) (x : Str) (st : Stmt) : Prop := ∃ (f : Addr) (oc : Value) (od : Option Addr) (kV dc pm : Value) (an : Option Addr) (cd ct : Value) (sl : Array (Option Value)),
  PySem.W.nsIn K mainGlobals x = some (some (.ref f)) ∧ K.lookup f = some ⟨oc, od, .func (PySem.W.fnOf x x (defArgs st) (defBody st) (defScope st) .none kV dc pm an cd ct), sl⟩ ∧ PySem.W.codeIn K cd x = true ∧ PySem.W.keepIn K (.ref f) = true
/-- the method m of the class at C -/
def MfAt (K : PySem.W.Frag) (C : Addr) (m qn : Str) (st : Stmt) : Prop := ∃ (f : Addr) (oc : Value) (od : Option Addr) (kV dc pm : Value) (an : Option Addr) (cd ct : Value) (sl : Array (Option Value)),
  PySem.W.findIn K (.ref C) m = some (some (.ref f)) ∧ PySem.W.isFn K (.ref f) = true ∧ K.lookup f = some ⟨oc, od, .func (PySem.W.fnOf m qn (defArgs st) (defBody st) (defScope st) .none kV dc pm an cd ct), sl⟩ ∧ PySem.W.codeIn K cd qn = true ∧ PySem.W.keepIn K (.ref f) = true
structure BlAt (K : PySem.W.Frag) : Prop where
  isi : PySem.W.nsIn K mainGlobals "isinstance" = some none
  int : PySem.W.nsIn K mainGlobals "int" = some none
  bool : PySem.W.nsIn K mainGlobals "bool" = some none
  str : PySem.W.nsIn K mainGlobals "str" = some none
  tuple : PySem.W.nsIn K mainGlobals "tuple" = some none
  len : PySem.W.nsIn K mainGlobals "len" = some none
  all : PySem.W.nsIn K mainGlobals "all" = some none
  any : PySem.W.nsIn K mainGlobals "any" = some none
  zip : PySem.W.nsIn K mainGlobals "zip" = some none
  set : PySem.W.nsIn K mainGlobals "set" = some none
  range : PySem.W.nsIn K mainGlobals "range" = some none
  enum : PySem.W.nsIn K mainGlobals "enumerate" = some none
  max : PySem.W.nsIn K mainGlobals "max" = some none
  sorted : PySem.W.nsIn K mainGlobals "sorted" = some none
  dict : PySem.W.nsIn K mainGlobals "dict" = some none
  letters : ∃ t : Tok, PySem.W.nsIn K mainGlobals "LETTERS" = some (some (.str "abcdefghijklmnopqrstuvwxyz" t))
  digits : ∃ t : Tok, PySem.W.nsIn K mainGlobals "DIGITS" = some (some (.str "123456789" t))
  patterns : ∃ t : Tok, PySem.W.nsIn K mainGlobals "PATTERNS" = some (some (.int 6 t))
  longest : ∃ t : Tok, PySem.W.nsIn K mainGlobals "LONGEST" = some (some (.int 4 t))
  word : ∃ t : Tok, PySem.W.nsIn K mainGlobals "WORD" = some (some (.int 20 t))
theorem BlAt.to {K : PySem.W.Frag} {h : Heap} {mg : Str → Option Value} (X : K.In h) (G : h.Ns mainGlobals mg) (b : BlAt K) : Bl mg := by
  refine ⟨PySem.W.mg_none_of X G b.isi, PySem.W.mg_none_of X G b.int, PySem.W.mg_none_of X G b.bool, PySem.W.mg_none_of X G b.str, PySem.W.mg_none_of X G b.tuple, PySem.W.mg_none_of X G b.len, PySem.W.mg_none_of X G b.all, PySem.W.mg_none_of X G b.any, PySem.W.mg_none_of X G b.zip, PySem.W.mg_none_of X G b.set, PySem.W.mg_none_of X G b.range, PySem.W.mg_none_of X G b.enum, PySem.W.mg_none_of X G b.max, PySem.W.mg_none_of X G b.sorted, PySem.W.mg_none_of X G b.dict, ?_, ?_, ?_, ?_, ?_⟩
  · obtain ⟨t, e⟩ := b.letters
    exact ⟨_, PySem.W.mg_of X G e, ⟨t, rfl⟩⟩
  · obtain ⟨t, e⟩ := b.digits
    exact ⟨_, PySem.W.mg_of X G e, ⟨t, rfl⟩⟩
  · obtain ⟨t, e⟩ := b.patterns
    exact ⟨_, PySem.W.mg_of X G e, ⟨t, rfl⟩⟩
  · obtain ⟨t, e⟩ := b.longest
    exact ⟨_, PySem.W.mg_of X G e, ⟨t, rfl⟩⟩
  · obtain ⟨t, e⟩ := b.word
    exact ⟨_, PySem.W.mg_of X G e, ⟨t, rfl⟩⟩
/-- the class x, and whether an error of the class at D is one -/
def KdAt (K : PySem.W.Frag) (D : Addr) (x : Str) (b : Bool) : Prop := ∃ u, PySem.W.nsIn K mainGlobals x = some (some (.ref u)) ∧ PySem.W.kitOne K (.ref D) (.ref u) = some b
theorem KdAt.to {K : PySem.W.Frag} {h : Heap} {mg : Str → Option Value} {D : Addr} {x : Str} {b : Bool} (X : K.In h) (G : h.Ns mainGlobals mg) (k : KdAt K D x b) : Kd K mg D x b := by
  obtain ⟨u, e, i⟩ := k
  exact ⟨u, PySem.W.mg_of X G e, i⟩
/-- the class NotThere at D and the class HyphenError at E -/
structure ErrAt (K : PySem.W.Frag) (D E : Addr) : Prop where
  a : PySem.W.nsIn K mainGlobals "NotThere" = some (some (.ref D))
  ex : PySem.W.excIn K D [.type "ValueError", .type "Exception", .type "BaseException", .type "object"] "ValueError.__new__" = true
  k : PySem.W.keepIn K (.ref D) = true
  b : PySem.W.subIn K (.ref D) (.type "BaseException") = some true
  t : PySem.W.typeIn K (.ref D) = some (.type "type")
  hg : PySem.W.findIn K (.ref D) "__getattribute__" = some (some (.builtin "BaseException.__getattribute__"))
  hk : PySem.W.findIn K (.ref D) "__getattr__" = some none
  hd : PySem.W.hasDictIn K D = true
  ha : PySem.W.findIn K (.ref D) "__class__" = some (some (.builtin "object.__class__"))
  hn : PySem.W.specialIn K (.builtin "object.__class__") "__get__" = some (some (.builtin "getset_descriptor.__get__"))
  ht : PySem.W.takesIn K (.builtin "object.__class__") = some true
  hm : PySem.W.mroIn K D (.type "object") = some true
  aE : PySem.W.nsIn K mainGlobals "HyphenError" = some (some (.ref E))
  bE : PySem.W.subIn K (.ref E) (.type "BaseException") = some true
  dE : PySem.W.hasDictIn K E = true
  tE : PySem.W.typeIn K (.ref E) = some (.type "type")
  sE : PySem.W.subIn K (.ref D) (.ref E) = some true
  vn : PySem.W.nsIn K mainGlobals "ValueError" = some none
  vk : PySem.W.kitOne K (.ref D) (.type "ValueError") = some true
  n0 : KdAt K D "InvalidRules" false
  n1 : KdAt K D "InvalidWord" false
  n2 : KdAt K D "InvalidContext" false
  n3 : KdAt K D "InvalidLetters" false
  n4 : KdAt K D "InvalidSize" false
  n5 : KdAt K D "InvalidTold" false
  n6 : KdAt K D "InvalidText" false
  n7 : KdAt K D "NotThere" true
  n8 : KdAt K D "InvalidFormat" false
structure ClAt (K : PySem.W.Frag) (C : Addr) : Prop where
  a : PySem.W.nsIn K mainGlobals "Hyphenator" = some (some (.ref C))
  pg : PySem.W.plainGet K C Str.empty = true
  hd : PySem.W.hasDictIn K C = true
  po : PySem.W.plainOver K C = true
  sa : PySem.W.findIn K (.ref C) "__setattr__" = some (some (.builtin "object.__setattr__"))
  mkC : PySem.W.makesIn K C = true
  kc : PySem.W.keepIn K (.ref C) = true
  nR : PySem.W.findIn K (.ref C) "rules" = some none
  nK : PySem.W.findIn K (.ref C) "known" = some none
  minit : MfAt K C "__init__" "Hyphenator.__init__" sInit
  madd : MfAt K C "add" "Hyphenator.add" sAdd
  mremove : MfAt K C "remove" "Hyphenator.remove" sRemove
  mgaps : MfAt K C "gaps" "Hyphenator.gaps" sGaps
  mbreaks : MfAt K C "breaks" "Hyphenator.breaks" sBreaks
  mexceptions : MfAt K C "exceptions" "Hyphenator.exceptions" sExceptions
  mcopy : MfAt K C "copy" "Hyphenator.copy" sCopy
  mlen : MfAt K C "__len__" "Hyphenator.__len__" sLen
theorem df0 {K : PySem.W.Frag} {h : Heap} {mg : Str → Option Value} (X : K.In h) (G : h.Ns mainGlobals mg) (d : DfAt K "is_count" sIsCount) : ∃ f fd, Fun K "is_count" "is_count" sIsCount f fd ∧ mg "is_count" = some (.ref f) ∧ PySem.W.keepIn K (.ref f) = true ∧ Binds K fd ["value", "least", "most"] [] := by
  obtain ⟨f, oc, od, kV, dc, pm, an, cd, ct, sl, a, l, c, k⟩ := d
  have F := fun_mk (st := sIsCount) l c k
  exact ⟨f, _, F, PySem.W.mg_of X G a, k, F.binds (ps := ["value", "least", "most"]) fun _ _ _ _ _ _ us hl => match us, hl with | [_, _, _], _ => rfl⟩
theorem df1 {K : PySem.W.Frag} {h : Heap} {mg : Str → Option Value} (X : K.In h) (G : h.Ns mainGlobals mg) (d : DfAt K "is_word" sIsWord) : ∃ f fd, Fun K "is_word" "is_word" sIsWord f fd ∧ mg "is_word" = some (.ref f) ∧ PySem.W.keepIn K (.ref f) = true ∧ Binds K fd ["value", "most"] [] := by
  obtain ⟨f, oc, od, kV, dc, pm, an, cd, ct, sl, a, l, c, k⟩ := d
  have F := fun_mk (st := sIsWord) l c k
  exact ⟨f, _, F, PySem.W.mg_of X G a, k, F.binds (ps := ["value", "most"]) fun _ _ _ _ _ _ us hl => match us, hl with | [_, _], _ => rfl⟩
theorem df2 {K : PySem.W.Frag} {h : Heap} {mg : Str → Option Value} (X : K.In h) (G : h.Ns mainGlobals mg) (d : DfAt K "need_word" sNeedWord) : ∃ f fd, Fun K "need_word" "need_word" sNeedWord f fd ∧ mg "need_word" = some (.ref f) ∧ PySem.W.keepIn K (.ref f) = true ∧ Binds K fd ["value"] [] := by
  obtain ⟨f, oc, od, kV, dc, pm, an, cd, ct, sl, a, l, c, k⟩ := d
  have F := fun_mk (st := sNeedWord) l c k
  exact ⟨f, _, F, PySem.W.mg_of X G a, k, F.binds (ps := ["value"]) fun _ _ _ _ _ _ us hl => match us, hl with | [_], _ => rfl⟩
theorem df3 {K : PySem.W.Frag} {h : Heap} {mg : Str → Option Value} (X : K.In h) (G : h.Ns mainGlobals mg) (d : DfAt K "chars_of" sChars) : ∃ f fd, Fun K "chars_of" "chars_of" sChars f fd ∧ mg "chars_of" = some (.ref f) ∧ PySem.W.keepIn K (.ref f) = true ∧ Binds K fd ["pattern"] [] := by
  obtain ⟨f, oc, od, kV, dc, pm, an, cd, ct, sl, a, l, c, k⟩ := d
  have F := fun_mk (st := sChars) l c k
  exact ⟨f, _, F, PySem.W.mg_of X G a, k, F.binds (ps := ["pattern"]) fun _ _ _ _ _ _ us hl => match us, hl with | [_], _ => rfl⟩
theorem df4 {K : PySem.W.Frag} {h : Heap} {mg : Str → Option Value} (X : K.In h) (G : h.Ns mainGlobals mg) (d : DfAt K "digits_of" sDigits) : ∃ f fd, Fun K "digits_of" "digits_of" sDigits f fd ∧ mg "digits_of" = some (.ref f) ∧ PySem.W.keepIn K (.ref f) = true ∧ Binds K fd ["pattern"] [] := by
  obtain ⟨f, oc, od, kV, dc, pm, an, cd, ct, sl, a, l, c, k⟩ := d
  have F := fun_mk (st := sDigits) l c k
  exact ⟨f, _, F, PySem.W.mg_of X G a, k, F.binds (ps := ["pattern"]) fun _ _ _ _ _ _ us hl => match us, hl with | [_], _ => rfl⟩
theorem df5 {K : PySem.W.Frag} {h : Heap} {mg : Str → Option Value} (X : K.In h) (G : h.Ns mainGlobals mg) (d : DfAt K "is_pattern" sIsPattern) : ∃ f fd, Fun K "is_pattern" "is_pattern" sIsPattern f fd ∧ mg "is_pattern" = some (.ref f) ∧ PySem.W.keepIn K (.ref f) = true ∧ Binds K fd ["value"] [] := by
  obtain ⟨f, oc, od, kV, dc, pm, an, cd, ct, sl, a, l, c, k⟩ := d
  have F := fun_mk (st := sIsPattern) l c k
  exact ⟨f, _, F, PySem.W.mg_of X G a, k, F.binds (ps := ["value"]) fun _ _ _ _ _ _ us hl => match us, hl with | [_], _ => rfl⟩
theorem df6 {K : PySem.W.Frag} {h : Heap} {mg : Str → Option Value} (X : K.In h) (G : h.Ns mainGlobals mg) (d : DfAt K "is_rules" sIsRules) : ∃ f fd, Fun K "is_rules" "is_rules" sIsRules f fd ∧ mg "is_rules" = some (.ref f) ∧ PySem.W.keepIn K (.ref f) = true ∧ Binds K fd ["value"] [] := by
  obtain ⟨f, oc, od, kV, dc, pm, an, cd, ct, sl, a, l, c, k⟩ := d
  have F := fun_mk (st := sIsRules) l c k
  exact ⟨f, _, F, PySem.W.mg_of X G a, k, F.binds (ps := ["value"]) fun _ _ _ _ _ _ us hl => match us, hl with | [_], _ => rfl⟩
theorem df7 {K : PySem.W.Frag} {h : Heap} {mg : Str → Option Value} (X : K.In h) (G : h.Ns mainGlobals mg) (d : DfAt K "need_rules" sNeedRules) : ∃ f fd, Fun K "need_rules" "need_rules" sNeedRules f fd ∧ mg "need_rules" = some (.ref f) ∧ PySem.W.keepIn K (.ref f) = true ∧ Binds K fd ["value"] [] := by
  obtain ⟨f, oc, od, kV, dc, pm, an, cd, ct, sl, a, l, c, k⟩ := d
  have F := fun_mk (st := sNeedRules) l c k
  exact ⟨f, _, F, PySem.W.mg_of X G a, k, F.binds (ps := ["value"]) fun _ _ _ _ _ _ us hl => match us, hl with | [_], _ => rfl⟩
theorem df8 {K : PySem.W.Frag} {h : Heap} {mg : Str → Option Value} (X : K.In h) (G : h.Ns mainGlobals mg) (d : DfAt K "found_at" sFound) : ∃ f fd, Fun K "found_at" "found_at" sFound f fd ∧ mg "found_at" = some (.ref f) ∧ PySem.W.keepIn K (.ref f) = true ∧ Binds K fd ["pattern", "word"] [] := by
  obtain ⟨f, oc, od, kV, dc, pm, an, cd, ct, sl, a, l, c, k⟩ := d
  have F := fun_mk (st := sFound) l c k
  exact ⟨f, _, F, PySem.W.mg_of X G a, k, F.binds (ps := ["pattern", "word"]) fun _ _ _ _ _ _ us hl => match us, hl with | [_, _], _ => rfl⟩
theorem df9 {K : PySem.W.Frag} {h : Heap} {mg : Str → Option Value} (X : K.In h) (G : h.Ns mainGlobals mg) (d : DfAt K "levels_of" sLevels) : ∃ f fd, Fun K "levels_of" "levels_of" sLevels f fd ∧ mg "levels_of" = some (.ref f) ∧ PySem.W.keepIn K (.ref f) = true ∧ Binds K fd ["rules", "word"] [] := by
  obtain ⟨f, oc, od, kV, dc, pm, an, cd, ct, sl, a, l, c, k⟩ := d
  have F := fun_mk (st := sLevels) l c k
  exact ⟨f, _, F, PySem.W.mg_of X G a, k, F.binds (ps := ["rules", "word"]) fun _ _ _ _ _ _ us hl => match us, hl with | [_, _], _ => rfl⟩
theorem df10 {K : PySem.W.Frag} {h : Heap} {mg : Str → Option Value} (X : K.In h) (G : h.Ns mainGlobals mg) (d : DfAt K "breaks_of" sBreaksOf) : ∃ f fd, Fun K "breaks_of" "breaks_of" sBreaksOf f fd ∧ mg "breaks_of" = some (.ref f) ∧ PySem.W.keepIn K (.ref f) = true ∧ Binds K fd ["rules", "word"] [] := by
  obtain ⟨f, oc, od, kV, dc, pm, an, cd, ct, sl, a, l, c, k⟩ := d
  have F := fun_mk (st := sBreaksOf) l c k
  exact ⟨f, _, F, PySem.W.mg_of X G a, k, F.binds (ps := ["rules", "word"]) fun _ _ _ _ _ _ us hl => match us, hl with | [_, _], _ => rfl⟩
theorem df11 {K : PySem.W.Frag} {h : Heap} {mg : Str → Option Value} (X : K.In h) (G : h.Ns mainGlobals mg) (d : DfAt K "is_told" sIsTold) : ∃ f fd, Fun K "is_told" "is_told" sIsTold f fd ∧ mg "is_told" = some (.ref f) ∧ PySem.W.keepIn K (.ref f) = true ∧ Binds K fd ["value"] [] := by
  obtain ⟨f, oc, od, kV, dc, pm, an, cd, ct, sl, a, l, c, k⟩ := d
  have F := fun_mk (st := sIsTold) l c k
  exact ⟨f, _, F, PySem.W.mg_of X G a, k, F.binds (ps := ["value"]) fun _ _ _ _ _ _ us hl => match us, hl with | [_], _ => rfl⟩
theorem df12 {K : PySem.W.Frag} {h : Heap} {mg : Str → Option Value} (X : K.In h) (G : h.Ns mainGlobals mg) (d : DfAt K "told_breaks" sToldBreaks) : ∃ f fd, Fun K "told_breaks" "told_breaks" sToldBreaks f fd ∧ mg "told_breaks" = some (.ref f) ∧ PySem.W.keepIn K (.ref f) = true ∧ Binds K fd ["told"] [] := by
  obtain ⟨f, oc, od, kV, dc, pm, an, cd, ct, sl, a, l, c, k⟩ := d
  have F := fun_mk (st := sToldBreaks) l c k
  exact ⟨f, _, F, PySem.W.mg_of X G a, k, F.binds (ps := ["told"]) fun _ _ _ _ _ _ us hl => match us, hl with | [_], _ => rfl⟩
theorem df13 {K : PySem.W.Frag} {h : Heap} {mg : Str → Option Value} (X : K.In h) (G : h.Ns mainGlobals mg) (d : DfAt K "_law_draw" sDraw) : ∃ f fd, Fun K "_law_draw" "_law_draw" sDraw f fd ∧ mg "_law_draw" = some (.ref f) ∧ PySem.W.keepIn K (.ref f) = true ∧ Binds K fd ["_law_script", "_law_town", "_law_many"] [] := by
  obtain ⟨f, oc, od, kV, dc, pm, an, cd, ct, sl, a, l, c, k⟩ := d
  have F := fun_mk (st := sDraw) l c k
  exact ⟨f, _, F, PySem.W.mg_of X G a, k, F.binds (ps := ["_law_script", "_law_town", "_law_many"]) fun _ _ _ _ _ _ us hl => match us, hl with | [_, _, _], _ => rfl⟩
theorem df14 {K : PySem.W.Frag} {h : Heap} {mg : Str → Option Value} (X : K.In h) (G : h.Ns mainGlobals mg) (d : DfAt K "_law_pick" sPick) : ∃ f fd, Fun K "_law_pick" "_law_pick" sPick f fd ∧ mg "_law_pick" = some (.ref f) ∧ PySem.W.keepIn K (.ref f) = true ∧ Binds K fd ["_law_script", "_law_town", "_law_some"] [] := by
  obtain ⟨f, oc, od, kV, dc, pm, an, cd, ct, sl, a, l, c, k⟩ := d
  have F := fun_mk (st := sPick) l c k
  exact ⟨f, _, F, PySem.W.mg_of X G a, k, F.binds (ps := ["_law_script", "_law_town", "_law_some"]) fun _ _ _ _ _ _ us hl => match us, hl with | [_, _, _], _ => rfl⟩
theorem df15 {K : PySem.W.Frag} {h : Heap} {mg : Str → Option Value} (X : K.In h) (G : h.Ns mainGlobals mg) (d : DfAt K "_law_pattern" sPattern) : ∃ f fd, Fun K "_law_pattern" "_law_pattern" sPattern f fd ∧ mg "_law_pattern" = some (.ref f) ∧ PySem.W.keepIn K (.ref f) = true ∧ Binds K fd ["_law_script", "_law_town", "_law_letters"] [] := by
  obtain ⟨f, oc, od, kV, dc, pm, an, cd, ct, sl, a, l, c, k⟩ := d
  have F := fun_mk (st := sPattern) l c k
  exact ⟨f, _, F, PySem.W.mg_of X G a, k, F.binds (ps := ["_law_script", "_law_town", "_law_letters"]) fun _ _ _ _ _ _ us hl => match us, hl with | [_, _, _], _ => rfl⟩
theorem df16 {K : PySem.W.Frag} {h : Heap} {mg : Str → Option Value} (X : K.In h) (G : h.Ns mainGlobals mg) (d : DfAt K "_law_bare" sBare) : ∃ f fd, Fun K "_law_bare" "_law_bare" sBare f fd ∧ mg "_law_bare" = some (.ref f) ∧ PySem.W.keepIn K (.ref f) = true ∧ Binds K fd ["_law_pattern_here"] [] := by
  obtain ⟨f, oc, od, kV, dc, pm, an, cd, ct, sl, a, l, c, k⟩ := d
  have F := fun_mk (st := sBare) l c k
  exact ⟨f, _, F, PySem.W.mg_of X G a, k, F.binds (ps := ["_law_pattern_here"]) fun _ _ _ _ _ _ us hl => match us, hl with | [_], _ => rfl⟩
theorem df17 {K : PySem.W.Frag} {h : Heap} {mg : Str → Option Value} (X : K.In h) (G : h.Ns mainGlobals mg) (d : DfAt K "_law_rules" sRules) : ∃ f fd, Fun K "_law_rules" "_law_rules" sRules f fd ∧ mg "_law_rules" = some (.ref f) ∧ PySem.W.keepIn K (.ref f) = true ∧ Binds K fd ["_law_script", "_law_town", "_law_most", "_law_letters"] [] := by
  obtain ⟨f, oc, od, kV, dc, pm, an, cd, ct, sl, a, l, c, k⟩ := d
  have F := fun_mk (st := sRules) l c k
  exact ⟨f, _, F, PySem.W.mg_of X G a, k, F.binds (ps := ["_law_script", "_law_town", "_law_most", "_law_letters"]) fun _ _ _ _ _ _ us hl => match us, hl with | [_, _, _, _], _ => rfl⟩
theorem df18 {K : PySem.W.Frag} {h : Heap} {mg : Str → Option Value} (X : K.In h) (G : h.Ns mainGlobals mg) (d : DfAt K "_law_levels" sLawLevels) : ∃ f fd, Fun K "_law_levels" "_law_levels" sLawLevels f fd ∧ mg "_law_levels" = some (.ref f) ∧ PySem.W.keepIn K (.ref f) = true ∧ Binds K fd ["_law_rules_here", "_law_word"] [] := by
  obtain ⟨f, oc, od, kV, dc, pm, an, cd, ct, sl, a, l, c, k⟩ := d
  have F := fun_mk (st := sLawLevels) l c k
  exact ⟨f, _, F, PySem.W.mg_of X G a, k, F.binds (ps := ["_law_rules_here", "_law_word"]) fun _ _ _ _ _ _ us hl => match us, hl with | [_, _], _ => rfl⟩
theorem df19 {K : PySem.W.Frag} {h : Heap} {mg : Str → Option Value} (X : K.In h) (G : h.Ns mainGlobals mg) (d : DfAt K "_law_breaks" sLawBreaks) : ∃ f fd, Fun K "_law_breaks" "_law_breaks" sLawBreaks f fd ∧ mg "_law_breaks" = some (.ref f) ∧ PySem.W.keepIn K (.ref f) = true ∧ Binds K fd ["_law_rules_here", "_law_word"] [] := by
  obtain ⟨f, oc, od, kV, dc, pm, an, cd, ct, sl, a, l, c, k⟩ := d
  have F := fun_mk (st := sLawBreaks) l c k
  exact ⟨f, _, F, PySem.W.mg_of X G a, k, F.binds (ps := ["_law_rules_here", "_law_word"]) fun _ _ _ _ _ _ us hl => match us, hl with | [_, _], _ => rfl⟩
theorem df20 {K : PySem.W.Frag} {h : Heap} {mg : Str → Option Value} (X : K.In h) (G : h.Ns mainGlobals mg) (d : DfAt K "_law_which" sWhich) : ∃ f fd, Fun K "_law_which" "_law_which" sWhich f fd ∧ mg "_law_which" = some (.ref f) ∧ PySem.W.keepIn K (.ref f) = true ∧ Binds K fd ["_law_error"] [] := by
  obtain ⟨f, oc, od, kV, dc, pm, an, cd, ct, sl, a, l, c, k⟩ := d
  have F := fun_mk (st := sWhich) l c k
  exact ⟨f, _, F, PySem.W.mg_of X G a, k, F.binds (ps := ["_law_error"]) fun _ _ _ _ _ _ us hl => match us, hl with | [_], _ => rfl⟩
theorem df21 {K : PySem.W.Frag} {h : Heap} {mg : Str → Option Value} (X : K.In h) (G : h.Ns mainGlobals mg) (d : DfAt K "_law_do" sDo) : ∃ f fd, Fun K "_law_do" "_law_do" sDo f fd ∧ mg "_law_do" = some (.ref f) ∧ PySem.W.keepIn K (.ref f) = true ∧ Binds K fd ["_law_hyphenator", "_law_what", "_law_text"] [] := by
  obtain ⟨f, oc, od, kV, dc, pm, an, cd, ct, sl, a, l, c, k⟩ := d
  have F := fun_mk (st := sDo) l c k
  exact ⟨f, _, F, PySem.W.mg_of X G a, k, F.binds (ps := ["_law_hyphenator", "_law_what", "_law_text"]) fun _ _ _ _ _ _ us hl => match us, hl with | [_, _, _], _ => rfl⟩
theorem df22 {K : PySem.W.Frag} {h : Heap} {mg : Str → Option Value} (X : K.In h) (G : h.Ns mainGlobals mg) (d : DfAt K "_law_gaps" sLawGaps) : ∃ f fd, Fun K "_law_gaps" "_law_gaps" sLawGaps f fd ∧ mg "_law_gaps" = some (.ref f) ∧ PySem.W.keepIn K (.ref f) = true ∧ Binds K fd ["_law_told"] [] := by
  obtain ⟨f, oc, od, kV, dc, pm, an, cd, ct, sl, a, l, c, k⟩ := d
  have F := fun_mk (st := sLawGaps) l c k
  exact ⟨f, _, F, PySem.W.mg_of X G a, k, F.binds (ps := ["_law_told"]) fun _ _ _ _ _ _ us hl => match us, hl with | [_], _ => rfl⟩
theorem mfinit {K : PySem.W.Frag} {C : Addr} (d : MfAt K C "__init__" "Hyphenator.__init__" sInit) : Mf K C "__init__" "Hyphenator.__init__" sInit ["self", "rules"] := by
  obtain ⟨f, oc, od, kV, dc, pm, an, cd, ct, sl, a, i, l, c, k⟩ := d
  have F := fun_mk (st := sInit) l c k
  exact ⟨f, _, F, ⟨a, i, k⟩, F.binds (ps := ["self", "rules"]) fun _ _ _ _ _ _ us hl => match us, hl with | [_, _], _ => rfl⟩
theorem mfadd {K : PySem.W.Frag} {C : Addr} (d : MfAt K C "add" "Hyphenator.add" sAdd) : Mf K C "add" "Hyphenator.add" sAdd ["self", "told"] := by
  obtain ⟨f, oc, od, kV, dc, pm, an, cd, ct, sl, a, i, l, c, k⟩ := d
  have F := fun_mk (st := sAdd) l c k
  exact ⟨f, _, F, ⟨a, i, k⟩, F.binds (ps := ["self", "told"]) fun _ _ _ _ _ _ us hl => match us, hl with | [_, _], _ => rfl⟩
theorem mfremove {K : PySem.W.Frag} {C : Addr} (d : MfAt K C "remove" "Hyphenator.remove" sRemove) : Mf K C "remove" "Hyphenator.remove" sRemove ["self", "word"] := by
  obtain ⟨f, oc, od, kV, dc, pm, an, cd, ct, sl, a, i, l, c, k⟩ := d
  have F := fun_mk (st := sRemove) l c k
  exact ⟨f, _, F, ⟨a, i, k⟩, F.binds (ps := ["self", "word"]) fun _ _ _ _ _ _ us hl => match us, hl with | [_, _], _ => rfl⟩
theorem mfgaps {K : PySem.W.Frag} {C : Addr} (d : MfAt K C "gaps" "Hyphenator.gaps" sGaps) : Mf K C "gaps" "Hyphenator.gaps" sGaps ["self", "word"] := by
  obtain ⟨f, oc, od, kV, dc, pm, an, cd, ct, sl, a, i, l, c, k⟩ := d
  have F := fun_mk (st := sGaps) l c k
  exact ⟨f, _, F, ⟨a, i, k⟩, F.binds (ps := ["self", "word"]) fun _ _ _ _ _ _ us hl => match us, hl with | [_, _], _ => rfl⟩
theorem mfbreaks {K : PySem.W.Frag} {C : Addr} (d : MfAt K C "breaks" "Hyphenator.breaks" sBreaks) : Mf K C "breaks" "Hyphenator.breaks" sBreaks ["self", "word"] := by
  obtain ⟨f, oc, od, kV, dc, pm, an, cd, ct, sl, a, i, l, c, k⟩ := d
  have F := fun_mk (st := sBreaks) l c k
  exact ⟨f, _, F, ⟨a, i, k⟩, F.binds (ps := ["self", "word"]) fun _ _ _ _ _ _ us hl => match us, hl with | [_, _], _ => rfl⟩
theorem mfexceptions {K : PySem.W.Frag} {C : Addr} (d : MfAt K C "exceptions" "Hyphenator.exceptions" sExceptions) : Mf K C "exceptions" "Hyphenator.exceptions" sExceptions ["self"] := by
  obtain ⟨f, oc, od, kV, dc, pm, an, cd, ct, sl, a, i, l, c, k⟩ := d
  have F := fun_mk (st := sExceptions) l c k
  exact ⟨f, _, F, ⟨a, i, k⟩, F.binds (ps := ["self"]) fun _ _ _ _ _ _ us hl => match us, hl with | [_], _ => rfl⟩
theorem mfcopy {K : PySem.W.Frag} {C : Addr} (d : MfAt K C "copy" "Hyphenator.copy" sCopy) : Mf K C "copy" "Hyphenator.copy" sCopy ["self"] := by
  obtain ⟨f, oc, od, kV, dc, pm, an, cd, ct, sl, a, i, l, c, k⟩ := d
  have F := fun_mk (st := sCopy) l c k
  exact ⟨f, _, F, ⟨a, i, k⟩, F.binds (ps := ["self"]) fun _ _ _ _ _ _ us hl => match us, hl with | [_], _ => rfl⟩
theorem mflen {K : PySem.W.Frag} {C : Addr} (d : MfAt K C "__len__" "Hyphenator.__len__" sLen) : Mf K C "__len__" "Hyphenator.__len__" sLen ["self"] := by
  obtain ⟨f, oc, od, kV, dc, pm, an, cd, ct, sl, a, i, l, c, k⟩ := d
  have F := fun_mk (st := sLen) l c k
  exact ⟨f, _, F, ⟨a, i, k⟩, F.binds (ps := ["self"]) fun _ _ _ _ _ _ us hl => match us, hl with | [_], _ => rfl⟩
theorem all_mk {l : PySem.W.OpenLaw} {w : World} {K : PySem.W.Frag} {h : Heap} {mg : Str → Option Value} {fa C D E f : Addr} (X : K.In h) (G : h.Ns mainGlobals mg) (hfa : mg "law" = some (.ref fa))
    {od an : Option Addr} {sl : Array (Option Value)} {oc kV dc pm cd ct : Value} (b : BlAt K)
    (d0 : DfAt K "is_count" sIsCount)
    (d1 : DfAt K "is_word" sIsWord)
    (d2 : DfAt K "need_word" sNeedWord)
    (d3 : DfAt K "chars_of" sChars)
    (d4 : DfAt K "digits_of" sDigits)
    (d5 : DfAt K "is_pattern" sIsPattern)
    (d6 : DfAt K "is_rules" sIsRules)
    (d7 : DfAt K "need_rules" sNeedRules)
    (d8 : DfAt K "found_at" sFound)
    (d9 : DfAt K "levels_of" sLevels)
    (d10 : DfAt K "breaks_of" sBreaksOf)
    (d11 : DfAt K "is_told" sIsTold)
    (d12 : DfAt K "told_breaks" sToldBreaks)
    (d13 : DfAt K "_law_draw" sDraw)
    (d14 : DfAt K "_law_pick" sPick)
    (d15 : DfAt K "_law_pattern" sPattern)
    (d16 : DfAt K "_law_bare" sBare)
    (d17 : DfAt K "_law_rules" sRules)
    (d18 : DfAt K "_law_levels" sLawLevels)
    (d19 : DfAt K "_law_breaks" sLawBreaks)
    (d20 : DfAt K "_law_which" sWhich)
    (d21 : DfAt K "_law_do" sDo)
    (d22 : DfAt K "_law_gaps" sLawGaps)
    (a : PySem.W.nsIn K mainGlobals "law" = some (some (.ref f))) (lk : K.lookup f = some ⟨oc, od, .func (PySem.W.fnOf "law" "law" (defArgs sLaw) (defBody sLaw) (defScope sLaw) .none kV dc pm an cd ct), sl⟩) (c : PySem.W.codeIn K cd "law" = true) (k : PySem.W.keepIn K (.ref f) = true)
    (cl : ClAt K C) (er : ErrAt K D E) :
    ∃ fd : FuncData, (∀ (s : Shared) (v : Value), BindsTo s fd ⟨[v], []⟩ [("_law_script", v)]) ∧ ∀ base : Heap, K.In base → base.Ns mainGlobals mg → FnOk l.prog w K mg base CX0 8 fa fd ["_law_script"] (spLaw K) := by
  have e := hfa.symm.trans (PySem.W.mg_of X G a)
  cases e
  have B := b.to X G
  have T : Txt K mg C := ⟨⟨cl.pg, cl.hd, cl.po, cl.sa⟩, cl.nR, cl.nK, PySem.W.mg_of X G cl.a⟩
  have F := fun_mk (st := sLaw) lk c k
  have tN : ExT K mg "NotThere" D := ⟨er.ex, PySem.W.mg_of X G er.a, er.k, er.b, er.t⟩
  have hE : HE K mg D E := ⟨PySem.W.mg_of X G er.aE, PySem.W.exm_ref er.bE er.dE er.tE er.sE⟩
  have nN : Nine K mg D := ⟨⟨er.hg, er.hk, er.b, er.hd, er.ha, er.hn, er.ht, er.hm⟩, er.n0.to X G, er.n1.to X G, er.n2.to X G, er.n3.to X G, er.n4.to X G, er.n5.to X G, er.n6.to X G, er.n7.to X G, er.n8.to X G, PySem.W.mg_none_of X G er.vn, er.vk⟩
  have D0 : Df K mg "is_count" sIsCount ["value", "least", "most"] := by
    obtain ⟨f, fd, F, g, _, bb⟩ := df0 X G d0
    exact ⟨f, fd, F, g, bb⟩
  have D1 : Df K mg "is_word" sIsWord ["value", "most"] := by
    obtain ⟨f, fd, F, g, _, bb⟩ := df1 X G d1
    exact ⟨f, fd, F, g, bb⟩
  have D2 : Df K mg "need_word" sNeedWord ["value"] := by
    obtain ⟨f, fd, F, g, _, bb⟩ := df2 X G d2
    exact ⟨f, fd, F, g, bb⟩
  have D3 : Df K mg "chars_of" sChars ["pattern"] := by
    obtain ⟨f, fd, F, g, _, bb⟩ := df3 X G d3
    exact ⟨f, fd, F, g, bb⟩
  have D4 : Df K mg "digits_of" sDigits ["pattern"] := by
    obtain ⟨f, fd, F, g, _, bb⟩ := df4 X G d4
    exact ⟨f, fd, F, g, bb⟩
  have D5 : Df K mg "is_pattern" sIsPattern ["value"] := by
    obtain ⟨f, fd, F, g, _, bb⟩ := df5 X G d5
    exact ⟨f, fd, F, g, bb⟩
  have D6 : Df K mg "is_rules" sIsRules ["value"] := by
    obtain ⟨f, fd, F, g, _, bb⟩ := df6 X G d6
    exact ⟨f, fd, F, g, bb⟩
  have D7 : Df K mg "need_rules" sNeedRules ["value"] := by
    obtain ⟨f, fd, F, g, _, bb⟩ := df7 X G d7
    exact ⟨f, fd, F, g, bb⟩
  have D8 : Df K mg "found_at" sFound ["pattern", "word"] := by
    obtain ⟨f, fd, F, g, _, bb⟩ := df8 X G d8
    exact ⟨f, fd, F, g, bb⟩
  have D9 : Df K mg "levels_of" sLevels ["rules", "word"] := by
    obtain ⟨f, fd, F, g, _, bb⟩ := df9 X G d9
    exact ⟨f, fd, F, g, bb⟩
  have D10 : Df K mg "breaks_of" sBreaksOf ["rules", "word"] := by
    obtain ⟨f, fd, F, g, _, bb⟩ := df10 X G d10
    exact ⟨f, fd, F, g, bb⟩
  have D11 : Df K mg "is_told" sIsTold ["value"] := by
    obtain ⟨f, fd, F, g, _, bb⟩ := df11 X G d11
    exact ⟨f, fd, F, g, bb⟩
  have D12 : Df K mg "told_breaks" sToldBreaks ["told"] := by
    obtain ⟨f, fd, F, g, _, bb⟩ := df12 X G d12
    exact ⟨f, fd, F, g, bb⟩
  have D13 : Df K mg "_law_draw" sDraw ["_law_script", "_law_town", "_law_many"] := by
    obtain ⟨f, fd, F, g, _, bb⟩ := df13 X G d13
    exact ⟨f, fd, F, g, bb⟩
  have D14 : Df K mg "_law_pick" sPick ["_law_script", "_law_town", "_law_some"] := by
    obtain ⟨f, fd, F, g, _, bb⟩ := df14 X G d14
    exact ⟨f, fd, F, g, bb⟩
  have D15 : Df K mg "_law_pattern" sPattern ["_law_script", "_law_town", "_law_letters"] := by
    obtain ⟨f, fd, F, g, _, bb⟩ := df15 X G d15
    exact ⟨f, fd, F, g, bb⟩
  have D16 : Df K mg "_law_bare" sBare ["_law_pattern_here"] := by
    obtain ⟨f, fd, F, g, _, bb⟩ := df16 X G d16
    exact ⟨f, fd, F, g, bb⟩
  have D17 : Df K mg "_law_rules" sRules ["_law_script", "_law_town", "_law_most", "_law_letters"] := by
    obtain ⟨f, fd, F, g, _, bb⟩ := df17 X G d17
    exact ⟨f, fd, F, g, bb⟩
  have D18 : Df K mg "_law_levels" sLawLevels ["_law_rules_here", "_law_word"] := by
    obtain ⟨f, fd, F, g, _, bb⟩ := df18 X G d18
    exact ⟨f, fd, F, g, bb⟩
  have D19 : Df K mg "_law_breaks" sLawBreaks ["_law_rules_here", "_law_word"] := by
    obtain ⟨f, fd, F, g, _, bb⟩ := df19 X G d19
    exact ⟨f, fd, F, g, bb⟩
  have D21 : Df K mg "_law_do" sDo ["_law_hyphenator", "_law_what", "_law_text"] := by
    obtain ⟨f, fd, F, g, _, bb⟩ := df21 X G d21
    exact ⟨f, fd, F, g, bb⟩
  have D22 : Df K mg "_law_gaps" sLawGaps ["_law_told"] := by
    obtain ⟨f, fd, F, g, _, bb⟩ := df22 X G d22
    exact ⟨f, fd, F, g, bb⟩
  refine ⟨PySem.W.fnOf "law" "law" (defArgs sLaw) (defBody sLaw) (defScope sLaw) .none kV dc pm an cd ct, fun s v => .of_eq rfl, fun base _ _ => ?_⟩
  have c_count : Cal l.prog w K mg base 1 "is_count" ["value", "least", "most"] spIsCount := ok_isCount D0 B
  have c_word : Cal l.prog w K mg base 1 "is_word" ["value", "most"] spIsWord := ok_isWord D1 B
  have c_needw : Cal l.prog w K mg base 2 "need_word" ["value"] spNeedWord := ok_needWord D2 B c_word
  have c_chars : Cal l.prog w K mg base 1 "chars_of" ["pattern"] (spStrip digs) := ok_chars D3 B
  have c_digits : Cal l.prog w K mg base 1 "digits_of" ["pattern"] spDigits := ok_digits D4 B
  have c_pat : Cal l.prog w K mg base 2 "is_pattern" ["value"] spIsPattern := ok_isPattern D5 B c_chars
  have c_isr : Cal l.prog w K mg base 3 "is_rules" ["value"] spIsRules := ok_isRules D6 B c_count c_pat c_chars
  have c_needr : Cal l.prog w K mg base 4 "need_rules" ["value"] spNeedRules := ok_needRules D7 c_isr
  have c_found : Cal l.prog w K mg base 2 "found_at" ["pattern", "word"] spFound := ok_found D8 B c_chars c_digits
  have c_levels : Cal l.prog w K mg base 3 "levels_of" ["rules", "word"] spLevels := ok_levels D9 B c_found
  have c_breaks : Cal l.prog w K mg base 4 "breaks_of" ["rules", "word"] spBreaksOf := ok_breaksOf D10 B c_levels
  have c_told : Cal l.prog w K mg base 2 "is_told" ["value"] spIsTold := ok_isTold D11 B c_word
  have c_tb : Cal l.prog w K mg base 1 "told_breaks" ["told"] spToldBreaks := ok_toldBreaks D12 B
  have c_draw : Cal l.prog w K mg base 1 "_law_draw" ["_law_script", "_law_town", "_law_many"] (spDraw K) := ok_draw D13 B
  have c_pick : Cal l.prog w K mg base 2 "_law_pick" ["_law_script", "_law_town", "_law_some"] (spPick K) := ok_pick D14 B c_draw
  have c_pattern : Cal l.prog w K mg base 3 "_law_pattern" ["_law_script", "_law_town", "_law_letters"] (spPattern K) := ok_pattern D15 B c_draw c_pick
  have c_bare : Cal l.prog w K mg base 1 "_law_bare" ["_law_pattern_here"] (spStrip digs10) := ok_bare D16
  have c_rules : Cal l.prog w K mg base 4 "_law_rules" ["_law_script", "_law_town", "_law_most", "_law_letters"] (spRules K) := ok_rules D17 B c_draw c_pick c_pattern c_bare
  have c_ll : Cal l.prog w K mg base 2 "_law_levels" ["_law_rules_here", "_law_word"] spLawLevels := ok_lawLevels D18 B c_bare
  have c_lb : Cal l.prog w K mg base 3 "_law_breaks" ["_law_rules_here", "_law_word"] spLawBreaks := ok_lawBreaks D19 B c_ll
  have c_lg : Cal l.prog w K mg base 1 "_law_gaps" ["_law_told"] spLawGaps := ok_lawGaps D22 B
  have c_which : Wh l.prog w K mg base D := by
    obtain ⟨f, fd, F, g, kk, bb⟩ := df20 X G d20
    exact ⟨f, fd, ok_which F B nN, g, kk, bb⟩
  obtain ⟨fI, fdI, FI, mI, bI⟩ := mfinit cl.minit
  have GI := ok_init (P := l.prog) (w := w) (base := base) FI T c_needr
  have M : Mk K C fI := ⟨cl.mkC, mI.at_, mI.fn, cl.kc⟩
  have m_add : Mth l.prog w K mg base CX0 C 3 "add" ["self", "told"] (spAdd C) := Mth.of (mfadd cl.madd) fun f fd F => ok_add F T B c_told
  have m_rem : Mth l.prog w K mg base (L2.CX l.prog w) C 3 "remove" ["self", "word"] (spRemove C D) := Mth.of (mfremove cl.mremove) fun f fd F => ok_remove F T B c_needw tN
  have m_gaps : Mth l.prog w K mg base CX0 C 5 "gaps" ["self", "word"] (spGaps C) := Mth.of (mfgaps cl.mgaps) fun f fd F => ok_gaps F T c_tb c_breaks
  have m_breaks : Mth l.prog w K mg base CX0 C 6 "breaks" ["self", "word"] (spGaps C) := Mth.of (mfbreaks cl.mbreaks) fun f fd F => ok_breaks F T c_needw m_gaps
  have m_exc : Mth l.prog w K mg base CX0 C 1 "exceptions" ["self"] (spExc C) := Mth.of (mfexceptions cl.mexceptions) fun f fd F => ok_exceptions F T B
  have m_copy : Mth l.prog w K mg base CX0 C 7 "copy" ["self"] (spCopy C) := Mth.of (mfcopy cl.mcopy) fun f fd F => ok_copy F T B M bI GI
  obtain ⟨fL, fdL, FL, mL, bL⟩ := mflen cl.mlen
  have GL := ok_len (P := l.prog) (w := w) (base := base) FL T B
  have c_do : Cal l.prog w K mg base 4 "_law_do" ["_law_hyphenator", "_law_what", "_law_text"] (spDo C) := ok_do D21 T B m_add m_rem hE c_which
  exact ok_law F T B M bI GI m_copy m_breaks m_exc mL.at_ mL.fn GL bL c_draw c_pick c_rules c_lb c_do c_lg
theorem walk {l : PySem.W.OpenLaw} {q : Program} {loose : List Str} {XP : (Str → Option Value) → Heap → Prop} {YP : World → Heap → Prop} {d : DefRec} {K : Params → PySem.W.Frag} (hn : l.most = some 63) (hdf : d.params.defaults = [])
    (hY : ∀ (w : World) (h : Heap), YP w h → (K w.params).In h)
    (F : ∀ (w : World) (mg : Str → Option Value) (fa : Addr) (h : Heap), (K w.params).In h → h.Ns mainGlobals mg → mg d.name = some (.ref fa) →
      ∃ fd : FuncData, (∀ (s : Shared) (u : Value), BindsTo s fd ⟨[u], []⟩ [("_law_script", u)]) ∧ ∀ base : Heap, (K w.params).In base → base.Ns mainGlobals mg → FnOk l.prog w (K w.params) mg base CX0 8 fa fd ["_law_script"] (spLaw (K w.params))) :
    PySem.W.WalkO q loose XP YP l.row.toRowW d [] (fun f vs => PySem.call f vs) :=
  L2.walk_of (n := 63) (k := 8) (x := "_law_script") (CX := fun _ => CX0) (sp := fun w => spLaw (K w.params)) hn (by decide) hdf ⟨rfl, by decide, by decide⟩ hY F (fun _ _ a ns hl _ hS => ⟨a, ns, rfl, hS, hl, fun _ => rfl⟩) fun _ _ _ _ _ z => z
end Hy
open PySem PySem.W PyProof.Rows
set_option maxRecDepth 100000 in
set_option maxHeartbeats 0 in
theorem PySem.Challenge.cw_hyphenpatterns_k08_whole_hyphenator_holds : PySem.Challenge.rw_hyphenpatterns_k08_whole_hyphenator.Holds := by
  w_on; o_law; k_head; (case hw => w_witness2)
  k_fill
  refine Hy.walk (l := PySem.Challenge.rw_hyphenpatterns_k08_whole_hyphenator) rfl rfl (fun w h Y => PySem.W.kIn_of Y) ?F
  case F =>
    intro w mg fa h KX G hmg
    refine' Hy.all_mk KX G hmg ?b ?d0 ?d1 ?d2 ?d3 ?d4 ?d5 ?d6 ?d7 ?d8 ?d9 ?d10 ?d11 ?d12 ?d13 ?d14 ?d15 ?d16 ?d17 ?d18 ?d19 ?d20 ?d21 ?d22 ?a ?lk ?c ?k ?cl ?er
    (case b => exact ⟨by k_is, by k_is, by k_is, by k_is, by k_is, by k_is, by k_is, by k_is, by k_is, by k_is, by k_is, by k_is, by k_is, by k_is, by k_is, ⟨_, by k_is⟩, ⟨_, by k_is⟩, ⟨_, by k_is⟩, ⟨_, by k_is⟩, ⟨_, by k_is⟩⟩)
    (case d0 => exact ⟨_, _, _, _, _, _, _, _, _, _, by k_is, by k_is, by k_is, by k_is⟩)
    (case d1 => exact ⟨_, _, _, _, _, _, _, _, _, _, by k_is, by k_is, by k_is, by k_is⟩)
    (case d2 => exact ⟨_, _, _, _, _, _, _, _, _, _, by k_is, by k_is, by k_is, by k_is⟩)
    (case d3 => exact ⟨_, _, _, _, _, _, _, _, _, _, by k_is, by k_is, by k_is, by k_is⟩)
    (case d4 => exact ⟨_, _, _, _, _, _, _, _, _, _, by k_is, by k_is, by k_is, by k_is⟩)
    (case d5 => exact ⟨_, _, _, _, _, _, _, _, _, _, by k_is, by k_is, by k_is, by k_is⟩)
    (case d6 => exact ⟨_, _, _, _, _, _, _, _, _, _, by k_is, by k_is, by k_is, by k_is⟩)
    (case d7 => exact ⟨_, _, _, _, _, _, _, _, _, _, by k_is, by k_is, by k_is, by k_is⟩)
    (case d8 => exact ⟨_, _, _, _, _, _, _, _, _, _, by k_is, by k_is, by k_is, by k_is⟩)
    (case d9 => exact ⟨_, _, _, _, _, _, _, _, _, _, by k_is, by k_is, by k_is, by k_is⟩)
    (case d10 => exact ⟨_, _, _, _, _, _, _, _, _, _, by k_is, by k_is, by k_is, by k_is⟩)
    (case d11 => exact ⟨_, _, _, _, _, _, _, _, _, _, by k_is, by k_is, by k_is, by k_is⟩)
    (case d12 => exact ⟨_, _, _, _, _, _, _, _, _, _, by k_is, by k_is, by k_is, by k_is⟩)
    (case d13 => exact ⟨_, _, _, _, _, _, _, _, _, _, by k_is, by k_is, by k_is, by k_is⟩)
    (case d14 => exact ⟨_, _, _, _, _, _, _, _, _, _, by k_is, by k_is, by k_is, by k_is⟩)
    (case d15 => exact ⟨_, _, _, _, _, _, _, _, _, _, by k_is, by k_is, by k_is, by k_is⟩)
    (case d16 => exact ⟨_, _, _, _, _, _, _, _, _, _, by k_is, by k_is, by k_is, by k_is⟩)
    (case d17 => exact ⟨_, _, _, _, _, _, _, _, _, _, by k_is, by k_is, by k_is, by k_is⟩)
    (case d18 => exact ⟨_, _, _, _, _, _, _, _, _, _, by k_is, by k_is, by k_is, by k_is⟩)
    (case d19 => exact ⟨_, _, _, _, _, _, _, _, _, _, by k_is, by k_is, by k_is, by k_is⟩)
    (case d20 => exact ⟨_, _, _, _, _, _, _, _, _, _, by k_is, by k_is, by k_is, by k_is⟩)
    (case d21 => exact ⟨_, _, _, _, _, _, _, _, _, _, by k_is, by k_is, by k_is, by k_is⟩)
    (case d22 => exact ⟨_, _, _, _, _, _, _, _, _, _, by k_is, by k_is, by k_is, by k_is⟩)
    (case a => k_is); (case lk => k_is); (case c => k_is); (case k => k_is)
    (case cl => exact ⟨by k_is, by k_is, by k_is, by k_is, by k_is, by k_is, by k_is, by k_is, by k_is, ⟨_, _, _, _, _, _, _, _, _, _, by k_is, by k_is, by k_is, by k_is, by k_is⟩, ⟨_, _, _, _, _, _, _, _, _, _, by k_is, by k_is, by k_is, by k_is, by k_is⟩, ⟨_, _, _, _, _, _, _, _, _, _, by k_is, by k_is, by k_is, by k_is, by k_is⟩, ⟨_, _, _, _, _, _, _, _, _, _, by k_is, by k_is, by k_is, by k_is, by k_is⟩, ⟨_, _, _, _, _, _, _, _, _, _, by k_is, by k_is, by k_is, by k_is, by k_is⟩, ⟨_, _, _, _, _, _, _, _, _, _, by k_is, by k_is, by k_is, by k_is, by k_is⟩, ⟨_, _, _, _, _, _, _, _, _, _, by k_is, by k_is, by k_is, by k_is, by k_is⟩, ⟨_, _, _, _, _, _, _, _, _, _, by k_is, by k_is, by k_is, by k_is, by k_is⟩⟩)
    (case er => exact ⟨by k_is, by k_exc, by k_is, by k_is, by k_is, by k_is, by k_is, by k_is, by k_is, by k_is, by k_is, by k_is, by k_is, by k_is, by k_is, by k_is, by k_is, by k_is, by kit_is, ⟨_, by k_is, by kit_is⟩, ⟨_, by k_is, by kit_is⟩, ⟨_, by k_is, by kit_is⟩, ⟨_, by k_is, by kit_is⟩, ⟨_, by k_is, by kit_is⟩, ⟨_, by k_is, by kit_is⟩, ⟨_, by k_is, by kit_is⟩, ⟨_, by k_is, by kit_is⟩, ⟨_, by k_is, by kit_is⟩⟩)
