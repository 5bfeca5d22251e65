import PyProof.Rows.All
import Wide.All
import OpenK.AllK
import Wide.FinOn
import HandS.ForMost
import HandS.IsInst
import HandS.Wide
import HandS.ClsMeth
import HandS.Codes
import PySem.Challenge.RW_countkin_k21_turns_parted
set_option Elab.async false
set_option maxRecDepth 100000
set_option maxHeartbeats 4000000
/-! K1: the text by places, small helps, the class's methods. -/
namespace Kt
open PySem L2
def top (i : Nat) : Stmt := PySem.Challenge.pw_countkin_k21_turns_parted.main.body.getD i (.Pass ⟨0, 0, 0, 0⟩)
abbrev sFI : Stmt := inClass (top 2) 0
abbrev sSI : Stmt := inClass (top 3) 0
abbrev sTI : Stmt := inClass (top 5) 0
abbrev sBare : Stmt := inClass (top 5) 3
abbrev sParted : Stmt := inClass (top 5) 4
abbrev sJoined : Stmt := inClass (top 5) 5
abbrev sCell : Stmt := top 7
abbrev sDraws : Stmt := top 8
abbrev sAlike : Stmt := top 9
abbrev sTurns : Stmt := top 10
abbrev sLaw : Stmt := top 11

/-! ### heaps -/
/-- a list of ints at p -/
abbrev LI (ns : List Int) : HO := .lst (ns.map V.int)
theorem put_same {H0 H : Hp} {p : Addr} {o : HO} (s : Same H0 H) (h : H0 p = none) : Same H0 (upd H p o) := fun b u e => by
  rw [upd_ne (ne_of_none e h)]
  exact s b u e
theorem new_same {H : Hp} {p : Addr} {o : HO} (h : H p = none) : Same H (upd H p o) := put_same (Same.refl H) h
theorem same_ne {H0 H : Hp} {p q : Addr} {o : HO} (s : Same H0 H) (e : H0 q = some o) (h : H p = none) : q ≠ p := ne_of_none (s _ _ e) h
theorem lenI (ns : List Int) : (ns.map V.int).length = ns.length := List.length_map _
theorem getI {ns : List Int} {i : Nat} {x : V} (h : (ns.map V.int)[i]? = some x) : ∃ n : Int, ns[i]? = some n ∧ x = .int n := by
  rw [List.getElem?_map] at h
  cases e : ns[i]? with
  | none =>
    rw [e] at h
    cases h
  | some n =>
    rw [e] at h
    exact ⟨n, rfl, (Option.some.inj h).symm⟩
theorem atIm {ns : List Int} {i : Nat} (h : i < ns.length) : (ns.map V.int)[i]? = some (.int ns[i]) := by
  rw [List.getElem?_map, List.getElem?_eq_getElem h]
  rfl
theorem small {n : Nat} (h : n ≤ 1000) : n ≤ sizeLine := Nat.le_of_lt (small1000 h)

/-! ### a comprehension over a list of ints whose element is an int function of the item -/
/-- what is asked once the new list's place D is known -/
def LcG (K : PySem.W.Frag) (a : Addr) (i : Nat) (te : TE) (σ : L2.St) (H1 : Hp) (D : Addr) (Qd : Hp → Prop) : Prop :=
  ∃ W : Nat → Nat → Hp → Prop,
    (∃ m, W 0 m (upd H1 D (.lst []))) ∧
    ∀ j m H, W j m H →
      ((Itl K a).stop j H ∧ Qd H) ∨
      ((Itl K a).go j H ∧
        ∃ Nx : Hp → Prop,
          (∀ H', Nx H' → ∃ m', m' < m ∧ W (j + 1) m' H') ∧
          ∀ x H', (Itl K a).yld j H x H' →
            gName i x (wipe σ [i]) H' fun σ2 H2 =>
              wipe σ2 [i] = wipe σ [i] ∧
              tYes σ2 H2 fun b H3 =>
                if b = true then
                  te σ2 H3 fun y H4 =>
                    ∃ acc, H4 D = some (.lst acc) ∧ acc.length < sizeLine ∧
                      Nx (upd H4 D (.lst (acc ++ [y])))
                else Nx H3)
theorem lc_map {K : PySem.W.Frag} {a : Addr} {ns : List Int} {te : TE} {i : Nat} {σ : L2.St} {H : Hp} {D : Addr} {Qd : Hp → Prop} (f : Int → Int)
    (hS : SqL K H a (ns.map V.int)) (hD : H D = none) (hlen : ns.length ≤ 1000)
    (he : ∀ (n : Int) (H' : Hp) (R : VK), R (.int (f n)) H' → te ((σ.set i none).set i (some (.int n))) H' R)
    (hq : ∀ (H' : Hp), Same H H' → H' D = some (LI (ns.map f)) → Qd H') : LcG K a i te σ H D Qd := by
  refine lc_list (K := K) (a := a) (xs := ns.map V.int) (fun j H' => Same H H' ∧ H' D = some (LI ((ns.take j).map f)))
    ⟨new_same hD, upd_same⟩ (fun j H' _ p => p.1.seq hS) (fun j x H' hx p => ?_) (fun H' p => ?_)
  · obtain ⟨n, hn, rfl⟩ := getI hx
    obtain ⟨s, e⟩ := p
    have hj : j < ns.length := (List.getElem?_eq_some_iff.mp hn).1
    refine ⟨?_, ?_⟩
    · show ((((σ.set i none).set i (some (V.int n))).set i none : L2.St)) = σ.set i none
      rw [List.set_set, List.set_set]
    · refine iteT (B := Same H H' ∧ H' D = some (LI ((ns.take (j + 1)).map f))) ?_
      refine he n H' _ ⟨_, e, ?_, put_same s hD, ?_⟩
      · rw [List.length_map, List.length_map, List.length_take]
        exact small1000 (by omega)
      · rw [upd_same, List.take_add_one, hn]
        simp only [LI, List.map_append, Option.toList, List.map_cons, List.map_nil]
  · obtain ⟨s, e⟩ := p
    rw [lenI, List.take_length] at e
    exact hq H' s e

/-! ### calling a def that is read off an own class: C.f(a, ..) -/
section
variable {X : Cx} {CX : CXT} {k : Nat} {C f : Addr} {mc : Value} {fd : FuncData} {ps : List Str} {ds : List Value} {dvs : List V} {sp : Sp} {E : XK} {o e : Expr} {es : List Expr} {m : Str} {pos apos : Pos} {ta : TE} {t : TA} {pl : Sem Bool}
def tClsFn (C : Addr) (sp : Sp) (dvs : List V) (E : XK) (ta : TE) (t : TA) : TE := fun σ H Q => ta σ H fun x H1 => x = .ref C ∧ t σ H1 fun vs H2 => sp (vs ++ dvs) H2 Q E
theorem pe_clsfn (hE : PE X o ta) (r : ClX.CRead X.K C mc) (c : ClX.CVal X.K C mc m (.ref f) (.ref f)) (hk : PySem.W.keepIn X.K (.ref f) = true)
    (F : FnOk X.prog X.w X.K X.mg X.base CX k f fd ps sp) (hr : Room k X.A) (hb : Binds X.K fd ps ds) (hd : Vals dvs ds) (hx : Passes CX X E) (hA : PA X (e :: es) t)
    (hst : starEach (e :: es) X.env = (false, eval e X.env) :: starEach es X.env := by rfl) (hpl : (backTo pos (starEach es X.env)).any (·.1) = false := by rfl)
    (ht : eval (.Call (.Attribute o m apos) (e :: es) [] pos) X.env =
      (do
        let ov ← eval o X.env
        standAt apos.atName
        let (f, first) ← holding [ov] (getMethod ov m pl)
        callWith pos f first (backTo pos (starEach (e :: es) X.env))
          (backToKw pos (keywordEach [] X.env))) := by rfl) :
    PE X (.Call (.Attribute o m apos) (e :: es) [] pos) (tClsFn C sp dvs E ta t) := by
  refine ⟨fun pins s σ H Q I h => ?_⟩
  refine PySem.W.methodCall_KW (pl := pl) (thn (hE.run pins s σ H _ I h) fun u s1 w => ?_) ht
  obtain ⟨x, H1, I1, rx, ex, q⟩ := w
  subst ex
  obtain rfl : u = Value.ref C := rx
  refine PySem.W.method_cls I1.kIn r.ga (ClX.getcval_ok I1 r c fun s2 I2 => ?_)
  refine PySem.W.callWith_K (first := []) (h₀ := X.base) I.ok.mod.kin hk (thn (hA.run pos pins s2 σ H1 _ I2 q) fun us s3 w3 => ?_) hst hpl
  obtain ⟨vs, H2, I3, rv, q2⟩ := w3
  exact ⟨I3.kIn, run_fn F hr hb hd hx I3 rv q2⟩
end

/-! ### the object -/
def kf (w : Str) (l : Int) : List (Str × V) := putF "least" (.int l) (putF "word" (.str w) [])
theorem kf_no (w : Str) (l : Int) {m : Str} (h1 : ¬ m = "least") (h2 : ¬ m = "word") : (kf w l).lookup m = none := by
  unfold kf
  rw [lookup_putF, if_neg h1, lookup_putF, if_neg h2]
  all_goals rfl
/-- an object of the class at C, as its making leaves it -/
def KinAt (C : Addr) (H : Hp) (a : Addr) : Prop := ∃ dx w l, H a = some (.ins C dx (kf w l))
/-- what the walk asks of the classes as the top has made them -/
structure Txt (K : PySem.W.Frag) (mg : Str → Option Value) (C CS CF fS fF : Addr) : Prop where
  cl : Cls K C
  nW : NoAttr K C "word"
  nL : NoAttr K C "least"
  mgC : mg "Turns" = some (.ref C)
  mgS : mg "SplitFamily" = some (.ref CS)
  rdS : ClX.CRead K CS (.type "type")
  inS : ClX.CVal K CS (.type "type") "__init__" (.ref fS) (.ref fS)
  mgF : mg "Family" = some (.ref CF)
  rdF : ClX.CRead K CF (.type "type")
  inF : ClX.CVal K CF (.type "type") "__init__" (.ref fF) (.ref fF)
/-- the names that are still the built-in ones -/
structure Blt (mg : Str → Option Value) : Prop where
  len : mg "len" = none
  range : mg "range" = none
  isinst : mg "isinstance" = none
  int : mg "int" = none
  bool : mg "bool" = none
  list : mg "list" = none
  tuple : mg "tuple" = none

def spFI (C : Addr) : Sp := fun vs H Q _ => ∃ (p dx : Addr) (w : Str) (l : Int), vs = [.ref p, .str w, .int l] ∧ H p = some (.ins C dx []) ∧ ∀ H' : Hp, KinAt C H' p → (∀ b o, H b = some o → b ≠ p → H' b = some o) → Q .non H'
def spSI (C : Addr) : Sp := fun vs H Q _ => ∃ (p dx : Addr) (w : Str), vs = [.ref p, .str w] ∧ H p = some (.ins C dx []) ∧ ∀ H' : Hp, KinAt C H' p → (∀ b o, H b = some o → b ≠ p → H' b = some o) → Q .non H'
def spTI (C : Addr) : Sp := fun vs H Q _ => ∃ (p dx : Addr), vs = [.ref p] ∧ H p = some (.ins C dx []) ∧ ∀ H' : Hp, KinAt C H' p → (∀ b o, H b = some o → b ≠ p → H' b = some o) → Q .non H'
def spBare : Sp := fun vs H Q _ => ∃ (v : V), vs = [v] ∧ ∀ (H' : Hp) (p : Addr), Same H H' → H p = none → H' p = some (LI []) → Q (.ref p) H'
/-- what joined tells -/
def both (ns ms : List Int) : List Int := ns.map (fun n => n + 1) ++ [0] ++ ms.map (fun m => m + ((ns.length : Int) + 1))
def spJoined (K : PySem.W.Frag) : Sp := fun vs H Q _ => ∃ (v : V) (a b : Addr) (ns ms : List Int), vs = [v, .ref a, .ref b] ∧ SqL K H a (ns.map V.int) ∧ SqL K H b (ms.map V.int) ∧ ns.length ≤ 100 ∧ ms.length ≤ 100 ∧
  ∀ (H' : Hp) (p : Addr), Same H H' → H p = none → H' p = some (LI (both ns ms)) → Q (.ref p) H'
def spParted (K : PySem.W.Frag) : Sp := fun vs H Q _ => ∃ (v : V) (a : Addr) (ns ms : List Int), vs = [v, .ref a] ∧ SqL K H a ((ns ++ 0 :: ms).map V.int) ∧ ns.length ≤ 100 ∧ ms.length ≤ 100 ∧ (∀ n ∈ ns, n ≠ 0) ∧
  ∀ (H' : Hp) (t p q : Addr), Same H H' → H t = none → H p = none → H q = none → q ≠ p → H' t = some (.tup [.ref p, .ref q]) → H' p = some (LI (ns.map fun n => n - 1)) →
    H' q = some (LI (ms.map fun m => m - (ns.length : Int) - 1)) → Q (.ref t) H'

section
variable {P : Program} {w : World} {K : PySem.W.Frag} {mg : Str → Option Value} {base : Heap} {C CS CF fS fF : Addr}
theorem scFI : FnScope ["self", "word", "least"] ["self", "word", "least"] (defScope sFI) := ⟨rfl, rfl, rfl, by decide +kernel, rfl, by decide +kernel, by decide +kernel⟩
theorem ok_fi {f : Addr} {fd : FuncData} (F : Fun K "__init__" "Family.__init__" sFI f fd) (T : Txt K mg C CS CF fS fF) : FnOk P w K mg base CX0 1 f fd ["self", "word", "least"] (spFI C) := by
  refine F.ok scFI (fun vs H Q E h => ?_) (fun cdv A outer s H vs Q E hr h => ?_)
  · obtain ⟨p, dx, w, l, rfl, _⟩ := h
    rfl
  · obtain ⟨p, dx, w, l, rfl, hp, k⟩ := h
    refine ⟨_, pss_cons (ps_fld (pv 0) (pv 1) rfl) (pss_one (ps_fld (pv 0) (pv 2) rfl)), ?_⟩
    refine ⟨_, rfl, _, rfl, p, C, dx, [], rfl, hp, T.cl, T.nW, (by show 0 < 1000; decide), _, rfl, _, rfl, p, C, dx, _, rfl, upd_same, T.cl, T.nL, (by show 1 < 1000; decide), ?_⟩
    refine k _ ⟨dx, w, l, upd_same⟩ fun b o e hb => ?_
    rw [upd_ne hb, upd_ne hb]
    exact e
theorem scSI : FnScope ["self", "word"] ["self", "word"] (defScope sSI) := ⟨rfl, rfl, rfl, by decide +kernel, rfl, by decide +kernel, by decide +kernel⟩
theorem ok_si {f : Addr} {fd fdF : FuncData} (F : Fun K "__init__" "SplitFamily.__init__" sSI f fd) (T : Txt K mg C CS CF fS fF) (FF : Fun K "__init__" "Family.__init__" sFI fF fdF) (bF : Binds K fdF ["self", "word", "least"] []) :
    FnOk P w K mg base CX0 2 f fd ["self", "word"] (spSI C) := by
  have GF : FnOk P w K mg base CX0 1 fF fdF ["self", "word", "least"] (spFI C) := ok_fi FF T
  refine F.ok scSI (fun vs H Q E h => ?_) (fun cdv A outer s H vs Q E hr h => ?_)
  · obtain ⟨p, dx, w, rfl, _⟩ := h
    rfl
  · obtain ⟨p, dx, w, rfl, hp, k⟩ := h
    refine ⟨_, pss_one (ps_expr (pe_clsfn (pe_glob (v := .ref CF) rfl T.mgF rfl) T.rdF T.inF FF.kp GF hr bF .nil pass0 (pa_cons (pv 0) (pa_cons (pv 1) (pa_cons pe_int pa_nil))))), ?_⟩
    exact ⟨rfl, _, rfl, _, rfl, p, dx, w, 0, rfl, hp, k⟩
theorem scTI : FnScope ["self"] ["self"] (defScope sTI) := ⟨rfl, rfl, rfl, by decide +kernel, rfl, by decide +kernel, by decide +kernel⟩
theorem ok_ti {f : Addr} {fd fdF fdS : FuncData} (F : Fun K "__init__" "Turns.__init__" sTI f fd) (T : Txt K mg C CS CF fS fF) (FF : Fun K "__init__" "Family.__init__" sFI fF fdF) (bF : Binds K fdF ["self", "word", "least"] [])
    (FS : Fun K "__init__" "SplitFamily.__init__" sSI fS fdS) (bS : Binds K fdS ["self", "word"] []) : FnOk P w K mg base CX0 3 f fd ["self"] (spTI C) := by
  have GS : FnOk P w K mg base CX0 2 fS fdS ["self", "word"] (spSI C) := ok_si FS T FF bF
  refine F.ok scTI (fun vs H Q E h => ?_) (fun cdv A outer s H vs Q E hr h => ?_)
  · obtain ⟨p, dx, rfl, _⟩ := h
    rfl
  · obtain ⟨p, dx, rfl, hp, k⟩ := h
    refine ⟨_, pss_one (ps_expr (pe_clsfn (pe_glob (v := .ref CS) rfl T.mgS rfl) T.rdS T.inS FS.kp GS hr bS .nil pass0 (pa_cons (pv 0) (pa_cons pe_str pa_nil)))), ?_⟩
    exact ⟨rfl, _, rfl, p, dx, _, rfl, hp, k⟩
theorem scB : FnScope ["self"] ["self"] (defScope sBare) := ⟨rfl, rfl, rfl, by decide +kernel, rfl, by decide +kernel, by decide +kernel⟩
theorem ok_bare {f : Addr} {fd : FuncData} (F : Fun K "bare" "Turns.bare" sBare f fd) : FnOk P w K mg base CX0 1 f fd ["self"] spBare := by
  refine F.ok scB (fun vs H Q E h => ?_) (fun cdv A outer s H vs Q E hr h => ?_)
  · obtain ⟨v, rfl, _⟩ := h
    rfl
  · obtain ⟨v, rfl, k⟩ := h
    refine ⟨_, pss_one (ps_ret (pe_lst pa_nil)), ?_⟩
    exact ⟨Nat.zero_le _, fun p hp => k _ p (new_same hp) hp upd_same⟩
theorem scJ : FnScope ["self", "left", "right", "far", "number"] ["self", "left", "right"] (defScope sJoined) := ⟨rfl, rfl, rfl, by decide +kernel, rfl, by decide +kernel, by decide +kernel⟩
theorem ok_joined {f : Addr} {fd : FuncData} (F : Fun K "joined" "Turns.joined" sJoined f fd) (ml : mg "len" = none) : FnOk P w K mg base CX0 1 f fd ["self", "left", "right"] (spJoined K) := by
  refine F.ok scJ (fun vs H Q E h => ?_) (fun cdv A outer s H vs Q E hr h => ?_)
  · obtain ⟨v, a, b, ns, ms, rfl, _⟩ := h
    rfl
  · obtain ⟨v, a, b, ns, ms, rfl, hA, hB, hn, hm, k⟩ := h
    refine ⟨_, pss_cons (ps_set (i := 3) scJ.nd rfl (Or.inr rfl) (pe_op op_add (pe_callB call_len_seq (by rfl) ml PySem.boot_len (pa_cons (pv 1) pa_nil)) pe_int))
      (pss_one (ps_ret (pe_op op_cat (pe_op op_cat
        (pe_lc (own := [("number", 4)]) (g := gName 4) (tt := tYes) rfl scJ.nd (pi_list (pv 1)) (blkOk_by (own := [("number", 4)]) (N := ["self", "left", "right", "far", "number"]) (sc := defScope sJoined) (by decide +kernel))
          (fun _ _ _ _ _ => pg_name (i := 4) scJ.nd rfl (Or.inl rfl)) (fun _ _ _ _ _ => pts_nil) (fun _ _ _ _ _ => pe_op op_add (pv 4) pe_int))
        (pe_lst (pa_cons pe_int pa_nil)))
        (pe_lc (own := [("number", 4)]) (g := gName 4) (tt := tYes) rfl scJ.nd (pi_list (pv 2)) (blkOk_by (own := [("number", 4)]) (N := ["self", "left", "right", "far", "number"]) (sc := defScope sJoined) (by decide +kernel))
          (fun _ _ _ _ _ => pg_name (i := 4) scJ.nd rfl (Or.inl rfl)) (fun _ _ _ _ _ => pts_nil) (fun _ _ _ _ _ => pe_op op_add (pv 4) (pv 3)))))), ?_⟩
    refine ⟨_, rfl, a, _, rfl, .inl hA, _, _, rfl, rfl, ?_⟩
    refine ⟨_, rfl, a, rfl, ⟨_, hA⟩, fun D1 n1 => lc_map (fun n => n + 1) hA n1 (by omega) (fun n H' R q => ⟨_, rfl, _, _, rfl, rfl, q⟩) fun H1 s1 e1 => ?_⟩
    refine ⟨(by show 1 ≤ sizeLine; decide), fun l hl => ?_⟩
    have e1' : (upd H1 l (.lst [.int 0])) D1 = some (LI (ns.map fun n => n + 1)) := (new_same hl) _ _ e1
    refine ⟨D1, l, _, _, rfl, rfl, e1', upd_same, ?_, fun p hp => ?_⟩
    · rw [List.length_map, List.length_map]
      exact small (by show ns.length + 1 ≤ 1000; omega)
    have s2 : Same H1 (upd H1 l (.lst [.int 0])) := new_same hl
    have s3 := (s1.trans s2).trans (new_same (o := .lst ((ns.map fun n => n + 1).map V.int ++ [.int 0])) hp)
    refine ⟨_, rfl, b, rfl, ⟨_, s3.seq hB⟩, fun D2 n2 => lc_map (fun m => m + ((ns.length : Int) + 1)) (s3.seq hB) n2 (by omega) (fun n H' R q => ⟨_, rfl, _, rfl, _, _, rfl, rfl, ?_⟩) fun H2 s4 e2 => ?_⟩
    · rw [lenI]
      exact q
    have ep := s4 _ _ (upd_same (H := upd H1 l (.lst [.int 0])) (a := p) (o := .lst ((ns.map fun n => n + 1).map V.int ++ [.int 0])))
    refine ⟨p, D2, _, _, rfl, rfl, ep, e2, ?_, fun r hr => ?_⟩
    · rw [List.length_append, List.length_map, List.length_map, List.length_map, List.length_map]
      exact small (by show ns.length + 1 + ms.length ≤ 1000; omega)
    refine k _ r ((s3.trans s4).trans (new_same hr)) ((s3.trans s4).free hr) ?_
    rw [upd_same]
    simp only [both, LI, List.map_append, List.map_cons, List.map_nil]
theorem scP : FnScope ["self", "thing", "at", "number"] ["self", "thing"] (defScope sParted) := ⟨rfl, rfl, rfl, by decide +kernel, rfl, by decide +kernel, by decide +kernel⟩
theorem eqI (i j : Int) : eqV (.int i) (.int j) = (i == j) := rfl
theorem cut_to (xs ys : List V) : cutV (xs ++ ys) none (some (xs.length : Int)) = xs := by
  unfold cutV
  rw [HT.sIx_nat, HT.sIx_none, List.length_append, Nat.min_eq_left (by omega), List.drop_zero, Nat.sub_zero]
  exact List.take_left
theorem cut_from (xs : List V) (z : V) (ys : List V) : cutV (xs ++ z :: ys) (some ((xs.length : Int) + 1)) none = ys := by
  unfold cutV
  have e : ((xs.length : Int) + 1) = ((xs.length + 1 : Nat) : Int) := by omega
  rw [e, HT.sIx_nat, HT.sIx_none, List.length_append, List.length_cons, Nat.min_eq_left (by omega)]
  have e2 : (xs ++ z :: ys).drop (xs.length + 1) = ys := by
    rw [← List.singleton_append, ← List.append_assoc]
    exact List.drop_left' (by rw [List.length_append, List.length_singleton])
  rw [e2]
  exact List.take_of_length_le (by omega)
theorem ok_parted {f : Addr} {fd : FuncData} (F : Fun K "parted" "Turns.parted" sParted f fd) : FnOk P w K mg base CX0 1 f fd ["self", "thing"] (spParted K) := by
  refine F.ok scP (fun vs H Q E h => ?_) (fun cdv A outer s H vs Q E hr h => ?_)
  · obtain ⟨v, a, ns, ms, rfl, _⟩ := h
    rfl
  · obtain ⟨v, a, ns, ms, rfl, hA, hn, hm, h0, k⟩ := h
    refine ⟨_, pss_cons (ps_set (i := 2) scP.nd rfl (Or.inr rfl) (pe_bm PySem.F.plainAttrs_list PySem.F.slot_list_index PySem.F.type_list_index mt_index (pv 1) (pa_cons pe_int pa_nil)))
      (pss_one (ps_ret (pe_tup (pa_cons
        (pe_lc (own := [("number", 3)]) (g := gName 3) (tt := tYes) rfl scP.nd (pi_list (pe_slice sl_list (pv 1) po_none (po_some (pv 2)))) (blkOk_by (own := [("number", 3)]) (N := ["self", "thing", "at", "number"]) (sc := defScope sParted) (by decide +kernel))
          (fun _ _ _ _ _ => pg_name (i := 3) scP.nd rfl (Or.inl rfl)) (fun _ _ _ _ _ => pts_nil) (fun _ _ _ _ _ => pe_op op_sub (pv 3) pe_int))
        (pa_cons
        (pe_lc (own := [("number", 3)]) (g := gName 3) (tt := tYes) rfl scP.nd (pi_list (pe_slice sl_list (pv 1) (po_some (pe_op op_add (pv 2) pe_int)) po_none)) (blkOk_by (own := [("number", 3)]) (N := ["self", "thing", "at", "number"]) (sc := defScope sParted) (by decide +kernel))
          (fun _ _ _ _ _ => pg_name (i := 3) scP.nd rfl (Or.inl rfl)) (fun _ _ _ _ _ => pts_nil) (fun _ _ _ _ _ => pe_op op_sub (pe_op op_sub (pv 3) (pv 2)) pe_int))
        pa_nil))))), ?_⟩
    have eM : (ns ++ 0 :: ms).map V.int = ns.map V.int ++ V.int 0 :: ms.map V.int := by rw [List.map_append, List.map_cons]
    refine ⟨_, rfl, .inl ⟨rfl, _, hA⟩, a, _, .int 0, ns.length, .int 0, rfl, rfl, hA, rfl, ?_, ?_, rfl, ?_, ?_⟩
    · rw [List.all_eq_true]
      intro x hx
      obtain ⟨n, _, rfl⟩ := List.mem_map.mp hx
      rfl
    · rw [List.getElem?_map, List.getElem?_append_right (Nat.le_refl _), Nat.sub_self]
      rfl
    · intro j z hj hz
      obtain ⟨n, hn, rfl⟩ := getI hz
      rw [List.getElem?_append_left hj] at hn
      have q := h0 n (List.mem_of_getElem? hn)
      rw [eqI]
      exact beq_eq_false_iff_ne.mpr q
    refine ⟨_, rfl, _, rfl, _, rfl, a, _, rfl, hA, fun c hc => ?_⟩
    rw [eM] at hA ⊢
    have ec : cutV (ns.map V.int ++ V.int 0 :: ms.map V.int) none (some ((ns.length : Nat) : Int)) = ns.map V.int := by
      have q := cut_to (ns.map V.int) (V.int 0 :: ms.map V.int)
      rw [lenI] at q
      exact q
    rw [ec]
    have s1 : Same H (upd H c (LI ns)) := new_same hc
    have hC : SqL K (upd H c (LI ns)) c (ns.map V.int) := SqL.of upd_same
    refine ⟨c, rfl, ⟨_, hC⟩, fun p np => lc_map (fun n => n - 1) hC np (by omega) (fun n H' R q => ⟨_, rfl, _, _, rfl, rfl, q⟩) fun H2 s2 ep => ?_⟩
    have s12 := s1.trans s2
    refine ⟨_, rfl, _, rfl, _, _, rfl, rfl, _, rfl, a, _, rfl, s12.seq hA, fun d hd => ?_⟩
    have ed : cutV (ns.map V.int ++ V.int 0 :: ms.map V.int) (some (((ns.length : Nat) : Int) + 1)) none = ms.map V.int := by
      have q := cut_from (ns.map V.int) (V.int 0) (ms.map V.int)
      rw [lenI] at q
      exact q
    rw [ed]
    have s3 : Same H2 (upd H2 d (LI ms)) := new_same hd
    have hD : SqL K (upd H2 d (LI ms)) d (ms.map V.int) := SqL.of upd_same
    refine ⟨d, rfl, ⟨_, hD⟩, fun q nq => lc_map (fun m => m - (ns.length : Int) - 1) hD nq (by omega) (fun n H' R q => ⟨_, rfl, _, rfl, _, _, rfl, rfl, _, _, rfl, rfl, q⟩) fun H4 s4 eq => ?_⟩
    have s34 := s3.trans s4
    refine ⟨(by show 2 ≤ sizeLine; decide), fun t ht => ?_⟩
    have s5 : Same H4 (upd H4 t (.tup [.ref p, .ref q])) := new_same ht
    have nqp : q ≠ p := fun z => by
      rw [z, s3 _ _ ep] at nq
      cases nq
    exact k _ t p q ((s12.trans s34).trans s5) ((s12.trans s34).free ht) (s1.free np) ((s12.trans s3).free nq) nqp upd_same (s5 _ _ (s34 _ _ ep)) (s5 _ _ eq)
end
end Kt
/-! K2: a cell of the script, the draws. -/
namespace Kt
open PySem L2
def spCell (K : PySem.W.Frag) : Sp := fun vs H Q _ => ∃ (a : Addr) (ns : List Int) (j : Nat), vs = [.ref a, .int (j : Int)] ∧ SqL K H a (ns.map V.int) ∧ ∀ z : Int, Q (.int z) H
def spDraws (K : PySem.W.Frag) : Sp := fun vs H Q _ => ∃ (a : Addr) (ns : List Int) (t q : Nat), vs = [.ref a, .int (t : Int), .int (q : Int)] ∧ SqL K H a (ns.map V.int) ∧ ns.length ≤ 63 ∧ t ≤ 1000 ∧ q ≤ 1000 ∧
  ∀ (H' : Hp) (p : Addr) (ds : List Int), Same H H' → H p = none → H' p = some (LI ds) → ds.length = q → Q (.ref p) H'
section
variable {P : Program} {w : World} {K : PySem.W.Frag} {mg : Str → Option Value} {base : Heap}
theorem scC : FnScope ["_law_script", "_law_k"] ["_law_script", "_law_k"] (defScope sCell) := ⟨rfl, rfl, rfl, by decide +kernel, rfl, by decide +kernel, by decide +kernel⟩
theorem ok_cell {f : Addr} {fd : FuncData} (F : Fun K "_law_cell_at" "_law_cell_at" sCell f fd) (ml : mg "len" = none) : FnOk P w K mg base CX0 1 f fd ["_law_script", "_law_k"] (spCell K) := by
  refine F.ok scC (fun vs H Q E h => ?_) (fun cdv A outer s H vs Q E hr h => ?_)
  · obtain ⟨a, ns, j, rfl, _⟩ := h
    rfl
  · obtain ⟨a, ns, j, rfl, hS, k⟩ := h
    refine ⟨_, pss_cons (ps_if (pt_cmpR op_lt (pv 1) (pe_callB call_len_seq (by rfl) ml PySem.boot_len (pa_cons (pv 0) pa_nil)) (nomark _))
        (pss_one (ps_ret (pe_ix ix_list (pv 0) (pv 1) (fun _ _ => rfl)))) pss_nil)
      (pss_one (ps_ret pe_int)), ?_⟩
    refine ⟨_, rfl, _, rfl, a, _, rfl, .inl hS, _, _, rfl, rfl, _, rfl, ite2 (fun e => ?_) (fun e => ?_)⟩
    · have hj : j < ns.length := by
        have q := of_decide_eq_true e
        rw [lenI] at q
        omega
      exact ⟨_, rfl, _, rfl, a, _, _, _, rfl, rfl, hS, atI_nat (atIm hj), k _⟩
    · exact k 0
/-- the slots of draws -/
abbrev ND : List Str := ["_law_script", "_law_turn", "_law_many", "_law_cells", "_law_found", "_law_left", "_law_k", "_law_at", "_law_place", "_law_number", "_law_cell"]
theorem scD : FnScope ["_law_script", "_law_turn", "_law_many", "_law_cells", "_law_found", "_law_left", "_law_k", "_law_at", "_law_place", "_law_number", "_law_cell"] ["_law_script", "_law_turn", "_law_many"] (defScope sDraws) :=
  ⟨rfl, rfl, rfl, by decide +kernel, rfl, by decide +kernel, by decide +kernel⟩
theorem mod_at {k m : Nat} (hm : 0 < m) : ∃ j : Nat, ((k : Int) % (m : Int)) = (j : Int) ∧ j < m := ⟨k % m, by omega, Nat.mod_lt _ hm⟩
theorem ixN_nat {n j : Nat} (h : j < n) : ixN n (j : Int) = some j := by
  unfold ixN
  rw [if_pos (by omega), if_pos (by omega), Int.toNat_natCast]
theorem ix_at {n j : Nat} {k : Int} (e : k = (j : Int)) (h : j < n) : ixN n k = some j := by
  rw [e]
  exact ixN_nat h
theorem lt64 {x m : Int} (h0 : 0 ≤ x) (h : x < m) (hm : m ≤ 2147483647) : -(2 ^ 64) < x ∧ x < 2 ^ 64 := by
  have e : (2 : Int) ^ 64 = 18446744073709551616 := by decide
  rw [e]
  omega
theorem app_int (ds : List Int) (z : Int) : ds.map V.int ++ [V.int z] = (ds ++ [z]).map V.int := by
  rw [List.map_append]
  rfl
theorem set_int (ls : List Int) (j : Nat) (z : Int) : (ls.map V.int).set j (V.int z) = (ls.set j z).map V.int := by
  rw [List.map_set]
theorem ok_draws {f : Addr} {fd : FuncData} (F : Fun K "_law_draws" "_law_draws" sDraws f fd) (B : Blt mg) : FnOk P w K mg base CX0 1 f fd ["_law_script", "_law_turn", "_law_many"] (spDraws K) := by
  refine F.ok scD (fun vs H Q E h => ?_) (fun cdv A outer s H vs Q E hr h => ?_)
  · obtain ⟨a, ns, t, q, rfl, _⟩ := h
    rfl
  · obtain ⟨a, ns, t, q, rfl, hS, hlen, ht, hq, k⟩ := h
    refine ⟨_, pss_cons (ps_set (i := 3) scD.nd rfl (Or.inl rfl) (pe_op op_cat (pe_slice sl_list (pv 0) po_none (po_some pe_int)) (pe_lst (pa_cons (pv 1) pa_nil))))
      (pss_cons (ps_set (i := 4) scD.nd rfl (Or.inl rfl) (pe_lst pa_nil))
      (pss_cons (ps_if (pt_cmpR op_eq (pe_op op_mod (pe_op op_fdiv (pe_ix ix_list (pv 3) pe_int (fun _ _ => rfl)) pe_int) pe_int) pe_int (nomark _))
        (pss_cons (ps_setLc (i := 5) (own := [("_law_cell", 10)]) (g := gName 10) (tt := tYes) rfl scD.nd rfl rfl (sw_true rfl rfl rfl (by decide +kernel)) (pi_list (pv 3))
            (blkOk_by (own := [("_law_cell", 10)]) (N := ["_law_script", "_law_turn", "_law_many", "_law_cells", "_law_found", "_law_left", "_law_k", "_law_at", "_law_place", "_law_number", "_law_cell"]) (sc := defScope sDraws) (by decide +kernel))
            (fun _ _ _ _ _ => pg_name (i := 10) scD.nd rfl (Or.inl rfl)) (fun _ _ _ _ _ => pts_nil) (fun _ _ _ _ _ => pe_op op_fdiv (pv 10) pe_int))
        (pss_cons (ps_for PassesOwn.never rfl (pi_range1 rfl B.range (pa_cons (pe_op op_add (pv 1) (pv 2)) pa_nil)) (pg_name (i := 6) scD.nd rfl (Or.inl rfl))
          (pss_cons (ps_set (i := 7) scD.nd rfl (Or.inl rfl) (pe_op op_mod (pv 6) (pe_callB call_len_seq (by rfl) B.len PySem.boot_len (pa_cons (pv 5) pa_nil))))
          (pss_cons (ps_if (pt_cmpR op_ge (pv 6) (pv 1) (nomark _))
            (pss_one (ps_expr (pe_bm PySem.F.plainAttrs_list PySem.F.slot_list_append PySem.F.type_list_append mt_append (pv 4) (pa_cons (pe_op op_mod (pe_ix ix_list (pv 5) (pv 7) (fun _ _ => rfl)) pe_int) pa_nil)))) pss_nil)
          (pss_one (ps_asg (pe_op op_fdivW (pe_ix ix_list (pv 5) (pv 7) (fun _ _ => rfl)) pe_int) (pg_sub (pv 5) (pv 7) set_list))))))
        (pss_one (ps_ret (pv 4))))) pss_nil)
      (pss_cons (ps_for PassesOwn.never rfl (pi_range1 rfl B.range (pa_cons (pv 2) pa_nil)) (pg_name (i := 6) scD.nd rfl (Or.inl rfl))
          (pss_cons (ps_set (i := 8) scD.nd rfl (Or.inl rfl) (pe_op op_add (pe_op op_mul (pe_op op_mul (pe_op op_add (pv 6) (pv 1)) (pe_op op_add (pv 6) (pv 1))) pe_int) pe_int))
          (pss_cons (ps_set (i := 9) scD.nd rfl (Or.inl rfl) (pe_op op_mod (pe_op op_mul (pe_op op_add (pe_op op_mod (pe_ix ix_list (pv 3) (pe_op op_mod (pv 6) (pe_callB call_len_seq (by rfl) B.len PySem.boot_len (pa_cons (pv 3) pa_nil))) (fun _ _ => rfl)) pe_int) (pv 8)) pe_int) pe_int))
          (pss_cons (ps_set (i := 9) scD.nd rfl (Or.inl rfl) (pe_op op_mod (pe_op op_add (pe_op op_mul (pv 9) (pv 9)) (pe_op op_mul pe_int (pv 6))) pe_int))
          (pss_one (ps_expr (pe_bm PySem.F.plainAttrs_list PySem.F.slot_list_append PySem.F.type_list_append mt_append (pv 4) (pa_cons (pe_op op_mod (pe_op op_mul (pv 9) (pv 9)) pe_int) pa_nil))))))))
      (pss_one (ps_ret (pv 4)))))), ?_⟩
    -- the cells
    refine ⟨_, rfl, 63, rfl, a, _, rfl, hS, fun c1 hc1 => ?_⟩
    have ecut : cutV (ns.map V.int) none (some 63) = ns.map V.int := by
      have q := cut_to (ns.map V.int) []
      unfold cutV at q ⊢
      rw [show ((63 : Int)) = ((63 : Nat) : Int) from rfl, HT.sIx_nat, HT.sIx_none, lenI, Nat.min_eq_right (by omega), List.drop_zero, Nat.sub_zero]
      exact List.take_of_length_le (by rw [lenI]; exact Nat.le_refl _)
    rw [ecut]
    have s1 : Same H (upd H c1 (LI ns)) := new_same hc1
    refine ⟨_, rfl, (by show 1 ≤ sizeLine; decide), fun c2 hc2 => ?_⟩
    have s2 := s1.trans (new_same (o := .lst [V.int (t : Int)]) hc2)
    have e1 : (upd (upd H c1 (LI ns)) c2 (.lst [V.int (t : Int)])) c1 = some (LI ns) := (new_same hc2) _ _ upd_same
    refine ⟨c1, c2, _, _, rfl, rfl, e1, upd_same, ?_, fun c hc => ?_⟩
    · rw [lenI]
      exact small (by show ns.length + 1 ≤ 1000; omega)
    rw [app_int]
    generalize hcs : ns ++ [(t : Int)] = cs
    have lcs : 0 < cs.length ∧ cs.length ≤ 64 := by
      rw [← hcs, List.length_append, List.length_singleton]
      omega
    generalize upd (upd H c1 (LI ns)) c2 (.lst [V.int (t : Int)]) = H2 at s2 hc
    have s3 := s2.trans (new_same (o := LI cs) hc)
    have e3 : (upd H2 c (LI cs)) c = some (LI cs) := upd_same
    have nc : H c = none := s2.free hc
    generalize upd H2 c (LI cs) = H3 at s3 e3
    -- found
    refine ⟨Nat.zero_le _, fun fo hfo => ?_⟩
    have nfo : H fo = none := s3.free hfo
    have ncf : c ≠ fo := ne_of_none e3 hfo
    have s4 := s3.trans (new_same (o := .lst []) hfo)
    have e4 : (upd H3 fo (.lst [])) c = some (LI cs) := (new_same hfo) _ _ e3
    have f4 : (upd H3 fo (.lst [])) fo = some (LI []) := upd_same
    generalize upd H3 fo (.lst []) = H4 at s4 e4 f4
    -- the test
    refine ⟨_, rfl, c, _, _, _, rfl, rfl, SqL.of e4, atI_nat (j := 0) (atIm lcs.1), _, _, rfl, rfl, ⟨by decide, by decide⟩, _, _, rfl, rfl, (by show (0 : Int) < 2; decide), rfl, _, rfl, ite2 (fun _ => ?_) (fun _ => ?_)⟩
    · -- by rests
      refine ⟨_, rfl, c, rfl, ⟨_, SqL.of e4⟩, fun l nl => lc_map (i := 10) (fun n => n / 100000) (SqL.of e4) nl (by omega) (fun n H' R z => ⟨_, rfl, _, _, rfl, rfl, ⟨by decide, by decide⟩, z⟩) fun H5 s5 el => ?_⟩
      have s45 := s4.trans s5
      have nlH : H l = none := s4.free nl
      have nfl : fo ≠ l := ne_of_none f4 nl
      refine ⟨_, rfl, _, rfl, _, _, rfl, rfl, _, rfl, ?_, ?_, ?_⟩
      · omega
      · omega
      have en : ((t : Int) + (q : Int)).toNat = t + q := by omega
      rw [en]
      refine for_range (lo := 0) (n := t + q) (fun j σ H' => ∃ v6 v7 ls ds, σ = [some (.ref a), some (.int t), some (.int q), some (.ref c), some (.ref fo), some (.ref l), v6, v7, none, none, none] ∧
        Same H H' ∧ H' fo = some (LI ds) ∧ H' l = some (LI ls) ∧ ls.length = cs.length ∧ ds.length = j - t) ?_ ?_ ?_
      · exact ⟨none, none, _, [], rfl, s45, s5 _ _ f4, el, List.length_map _, (by show 0 = 0 - t; omega)⟩
      · rintro j σ H' hj ⟨v6, v7, ls, ds, rfl, s, ef, eL, lL, lD⟩
        obtain ⟨i, ei, hi⟩ := mod_at (k := j) (m := ls.length) (by omega)
        have hiL : i < ls.length := hi
        refine ⟨_, rfl, _, rfl, l, _, rfl, .inl (SqL.of eL), _, _, rfl, rfl, ?_, ?_⟩
        · rw [lenI]
          omega
        have ei' : ((0 : Int) + (j : Int)) % (((ls.map V.int).length : Nat) : Int) = (i : Int) := by
          rw [lenI, Int.zero_add]
          exact ei
        refine ⟨_, rfl, _, rfl, _, _, rfl, rfl, _, rfl, ite2 (fun hge => ?_) (fun hlt => ?_)⟩
        · have hge' : t ≤ j := by
            have z := of_decide_eq_true hge
            omega
          refine ⟨_, rfl, .inl ⟨rfl, _, SqL.of ef⟩, _, rfl, _, rfl, l, _, _, _, rfl, rfl, SqL.of eL, at_of (j := i) ei' (atIm hiL), _, _, rfl, rfl, (by show (0 : Int) < 2147483587; decide), fo, _, _, rfl, rfl, ef, ?_, ?_⟩
          · rw [lenI]
            exact small1000 (by omega)
          have eL' : (upd H' fo (.lst (ds.map V.int ++ [V.int (ls[i] % 2147483587)]))) l = some (LI ls) := by
            rw [upd_ne nfl.symm]
            exact eL
          refine ⟨_, rfl, _, rfl, l, _, _, _, rfl, rfl, SqL.of eL', at_of (j := i) ei' (atIm hiL), _, _, rfl, rfl, ⟨by decide, by decide +kernel⟩, _, rfl, _, rfl, l, _, _, i, rfl, rfl, eL', ?_, ?_⟩
          · exact ix_at ei' (by rw [lenI]; exact hiL)
          refine ⟨_, _, ls.set i (ls[i] / 2147483587), ds ++ [ls[i] % 2147483587], rfl, put_same (put_same s nfo) nlH, ?_, ?_, ?_, ?_⟩
          · rw [upd_ne nfl, upd_same, app_int]
          · rw [upd_same, set_int]
          · rw [List.length_set]
            exact lL
          · rw [List.length_append, List.length_singleton, lD]
            omega
        · have hlt' : ¬ t ≤ j := fun z => hlt (decide_eq_true (by omega))
          refine ⟨_, rfl, _, rfl, l, _, _, _, rfl, rfl, SqL.of eL, at_of (j := i) ei' (atIm hiL), _, _, rfl, rfl, ⟨by decide, by decide +kernel⟩, _, rfl, _, rfl, l, _, _, i, rfl, rfl, eL, ?_, ?_⟩
          · exact ix_at ei' (by rw [lenI]; exact hiL)
          refine ⟨_, _, ls.set i (ls[i] / 2147483587), ds, rfl, put_same s nlH, ?_, ?_, ?_, ?_⟩
          · rw [upd_ne nfl]
            exact ef
          · rw [upd_same, set_int]
          · rw [List.length_set]
            exact lL
          · rw [lD]
            omega
      · rintro σ H' ⟨v6, v7, ls, ds, rfl, s, ef, eL, lL, lD⟩
        exact ⟨_, rfl, k _ fo ds s nfo ef (by omega)⟩
    · -- by numbers
      refine ⟨_, rfl, _, rfl, ?_, ?_, ?_⟩
      · omega
      · omega
      rw [Int.toNat_natCast]
      refine for_range (lo := 0) (n := q) (fun j σ H' => ∃ v6 v8 v9 ds, σ = [some (.ref a), some (.int t), some (.int q), some (.ref c), some (.ref fo), none, v6, none, v8, v9, none] ∧
        Same H H' ∧ H' fo = some (LI ds) ∧ H' c = some (LI cs) ∧ ds.length = j) ?_ ?_ ?_
      · exact ⟨none, none, none, [], rfl, s4, f4, e4, rfl⟩
      · rintro j σ H' hj ⟨v6, v8, v9, ds, rfl, s, ef, eC, lD⟩
        obtain ⟨i, ei, hi⟩ := mod_at (k := j) (m := cs.length) lcs.1
        refine ⟨_, rfl, _, rfl, _, _, rfl, rfl, _, rfl, _, rfl, _, _, rfl, rfl, _, _, rfl, rfl, .inl ?_, _, _, rfl, rfl, .inr ⟨by decide, by decide⟩, _, _, rfl, rfl, ?_⟩
        · have e : (2 : Int) ^ 64 = 18446744073709551616 := by decide
          rw [e]
          omega
        have ei' : ((0 : Int) + (j : Int)) % (((cs.map V.int).length : Nat) : Int) = (i : Int) := by
          rw [lenI, Int.zero_add]
          exact ei
        refine ⟨_, rfl, _, rfl, _, rfl, c, _, rfl, .inl (SqL.of eC), _, _, rfl, rfl, ?_, c, _, _, _, rfl, rfl, SqL.of eC, at_of (j := i) ei' (atIm hi), _, _, rfl, rfl, (by show (0 : Int) < 2147483647; decide), _, rfl, _, _, rfl, rfl, _, _, rfl, rfl, .inr ⟨by decide, by decide⟩, _, _, rfl, rfl, (by show (0 : Int) < 2147483647; decide), ?_⟩
        · rw [lenI]
          omega
        generalize hx : (cs[i] % 2147483647 + (((0 : Int) + (j : Int) + (t : Int)) * ((0 : Int) + (j : Int) + (t : Int)) * 7919 + 104729)) * 48271 = x
        have x0 : 0 ≤ x % 2147483647 := Int.emod_nonneg _ (by decide)
        have x1 : x % 2147483647 < 2147483647 := Int.emod_lt_of_pos _ (by decide)
        refine ⟨_, rfl, _, rfl, _, _, rfl, rfl, .inl (lt64 x0 x1 (by decide)), _, rfl, _, _, rfl, rfl, .inl ⟨by decide, by decide⟩, _, _, rfl, rfl, _, _, rfl, rfl, (by show (0 : Int) < 2147483629; decide), ?_⟩
        generalize x % 2147483647 * (x % 2147483647) + 69621 * ((0 : Int) + (j : Int)) = y
        have y0 : 0 ≤ y % 2147483629 := Int.emod_nonneg _ (by decide)
        have y1 : y % 2147483629 < 2147483629 := Int.emod_lt_of_pos _ (by decide)
        refine ⟨_, rfl, .inl ⟨rfl, _, SqL.of ef⟩, _, rfl, _, rfl, _, _, rfl, rfl, .inl (lt64 y0 y1 (by decide)), _, _, rfl, rfl, (by show (0 : Int) < 2147483587; decide), fo, _, _, rfl, rfl, ef, ?_, ?_⟩
        · rw [lenI]
          exact small1000 (by omega)
        refine ⟨_, _, _, ds ++ [y % 2147483629 * (y % 2147483629) % 2147483587], rfl, put_same s nfo, ?_, ?_, ?_⟩
        · rw [upd_same, app_int]
        · rw [upd_ne ncf]
          exact eC
        · rw [List.length_append, List.length_singleton, lD]
      · rintro σ H' ⟨v6, v8, v9, ds, rfl, s, ef, eC, lD⟩
        exact ⟨_, rfl, k _ fo ds s nfo ef lD⟩
end
end Kt
/-! K3: two alike things, the rows. -/
namespace Kt
open PySem L2
def spAl1 : Sp := fun vs H Q _ => ∃ (i : Int), vs = [.int i, .int i] ∧ Q (.bl true) H
def spAl2 : Sp := fun vs H Q _ => ∃ (p q : Addr) (ns : List Int), vs = [.ref p, .ref q] ∧ H p = some (LI ns) ∧ H q = some (LI ns) ∧ ns.length ≤ 1000 ∧ Q (.bl true) H
def spAl3 : Sp := fun vs H Q _ => ∃ (t u p q r o : Addr) (ns ms : List Int), vs = [.ref t, .ref u] ∧ H t = some (.tup [.ref p, .ref q]) ∧ H u = some (.tup [.ref r, .ref o]) ∧
  H p = some (LI ns) ∧ H r = some (LI ns) ∧ H q = some (LI ms) ∧ H o = some (LI ms) ∧ ns.length ≤ 1000 ∧ ms.length ≤ 1000 ∧ Q (.bl true) H
def spTurns (K : PySem.W.Frag) : Sp := fun vs H Q _ => ∃ (a : Addr) (ns : List Int) (z t : Nat), vs = [.ref a, .int (z : Int), .int (t : Int)] ∧ SqL K H a (ns.map V.int) ∧ ns.length ≤ 63 ∧ z ≤ 100 ∧ t ≤ 500 ∧
  ∀ (H' : Hp) (p : Addr) (rs : List Int), Same H H' → H p = none → H' p = some (LI rs) → rs.length = z → (∀ n ∈ rs, 0 ≤ n) → Q (.ref p) H'
section
variable {P : Program} {w : World} {K : PySem.W.Frag} {mg : Str → Option Value} {base : Heap}
section
variable {X : Cx} {x : Str} {te : TE} {pos p1 p2 p3 : Pos}
theorem isi_int (B : Blt X.mg) (hE : PE X (.Name x p3) te) (g1 : Gl X "isinstance") (g2 : Gl X "int") : PE X (.Call (.Name "isinstance" p1) [.Name x p3, .Name "int" p2] [] pos) (tCB (rIsi X.K) (tCons te (tCons (tC (.ty "int")) tNil))) :=
  pe_callB call_isi g1 B.isinst (by decide +kernel) (pa_cons hE (pa_cons (pe_bltn (v := .ty "int") (u := .type "int") g2 B.int (by decide +kernel) rfl) pa_nil))
theorem isi_bool (B : Blt X.mg) (hE : PE X (.Name x p3) te) (g1 : Gl X "isinstance") (g2 : Gl X "bool") : PE X (.Call (.Name "isinstance" p1) [.Name x p3, .Name "bool" p2] [] pos) (tCB (rIsi X.K) (tCons te (tCons (tC (.ty "bool")) tNil))) :=
  pe_callB call_isi g1 B.isinst (by decide +kernel) (pa_cons hE (pa_cons (pe_bltn (v := .ty "bool") (u := .type "bool") g2 B.bool (by decide +kernel) rfl) pa_nil))
theorem isi_list (B : Blt X.mg) (hE : PE X (.Name x p3) te) (g1 : Gl X "isinstance") (g2 : Gl X "list") : PE X (.Call (.Name "isinstance" p1) [.Name x p3, .Name "list" p2] [] pos) (tCB (rIsi X.K) (tCons te (tCons (tC (.ty "list")) tNil))) :=
  pe_callB call_isi g1 B.isinst (by decide +kernel) (pa_cons hE (pa_cons (pe_bltn (v := .ty "list") (u := .type "list") g2 B.list (by decide +kernel) rfl) pa_nil))
theorem isi_tuple (B : Blt X.mg) (hE : PE X (.Name x p3) te) (g1 : Gl X "isinstance") (g2 : Gl X "tuple") : PE X (.Call (.Name "isinstance" p1) [.Name x p3, .Name "tuple" p2] [] pos) (tCB (rIsi X.K) (tCons te (tCons (tC (.ty "tuple")) tNil))) :=
  pe_callB call_isi g1 B.isinst (by decide +kernel) (pa_cons hE (pa_cons (pe_bltn (v := .ty "tuple") (u := .type "tuple") g2 B.tuple (by decide +kernel) rfl) pa_nil))
end
theorem ki (a b : String) (r : Bool) (h : kitB a b = some r) : PySem.W.kitOne K (.type a) (.type b) = some r := kit_ty h
theorem scA : FnScope ["_law_found", "_law_due", "_law_k"] ["_law_found", "_law_due"] (defScope sAlike) := ⟨rfl, rfl, rfl, by decide +kernel, rfl, by decide +kernel, by decide +kernel⟩
theorem ok_al1 {f : Addr} {fd : FuncData} (F : Fun K "_law_alike" "_law_alike" sAlike f fd) (B : Blt mg) : FnOk P w K mg base CX0 1 f fd ["_law_found", "_law_due"] spAl1 := by
  refine F.ok scA (fun vs H Q E h => ?_) (fun cdv A outer s H vs Q E hr h => ?_)
  · obtain ⟨i, rfl, _⟩ := h
    rfl
  · obtain ⟨i, rfl, k⟩ := h
    refine ⟨_, pss_cons (ps_if (pt_val (isi_int B (pv 1) (by rfl) (by rfl)))
        (pss_one (ps_ret (pe_and (isi_int B (pv 0) (by rfl) (by rfl)) (pe_and (pe_not (isi_bool B (pv 0) (by rfl) (by rfl))) (pe_one (pe_cmpR op_eq (pv 0) (pv 1) (nomark _))))))) pss_nil)
      pss_never, ?_⟩
    refine ⟨_, rfl, _, _, _, _, true, rfl, .ty _, .base (.int _), ki _ _ _ (by decide +kernel), _, rfl, iteT ?_⟩
    refine ⟨_, rfl, _, _, _, _, true, rfl, .ty _, .base (.int _), ki _ _ _ (by decide +kernel), _, rfl, iteT ?_⟩
    refine ⟨_, rfl, _, _, _, _, false, rfl, .ty _, .base (.int _), ki _ _ _ (by decide +kernel), _, rfl, _, rfl, iteT ?_⟩
    refine ⟨_, rfl, _, rfl, rfl, ?_⟩
    show Q (.bl (decide (V.int i = V.int i))) H
    rw [decide_eq_true rfl]
    exact k
theorem ok_al2 {f : Addr} {fd : FuncData} (F : Fun K "_law_alike" "_law_alike" sAlike f fd) (B : Blt mg) (bA : Binds K fd ["_law_found", "_law_due"] []) (gA : mg "_law_alike" = some (.ref f)) : FnOk P w K mg base CX0 2 f fd ["_law_found", "_law_due"] spAl2 := by
  have G : FnOk P w K mg base CX0 1 f fd ["_law_found", "_law_due"] spAl1 := ok_al1 F B
  refine F.ok scA (fun vs H Q E h => ?_) (fun cdv A outer s H vs Q E hr h => ?_)
  · obtain ⟨p, q, ns, rfl, _⟩ := h
    rfl
  · obtain ⟨p, q, ns, rfl, ep, eq, hn, k⟩ := h
    refine ⟨_, pss_cons (ps_if (pt_val (isi_int B (pv 1) (by rfl) (by rfl))) pss_never pss_nil)
      (pss_cons (ps_if (pt_val (isi_list B (pv 1) (by rfl) (by rfl)))
        (pss_one (ps_if (pt_not (pt_val (isi_list B (pv 0) (by rfl) (by rfl)))) pss_never pss_nil)) pss_never)
      (pss_cons (ps_if (pt_cmpR op_ne (pe_callB call_len_seq (by rfl) B.len PySem.boot_len (pa_cons (pv 0) pa_nil)) (pe_callB call_len_seq (by rfl) B.len PySem.boot_len (pa_cons (pv 1) pa_nil)) (nomark _)) pss_never pss_nil)
      (pss_cons (ps_for PassesOwn.never rfl (pi_range1 rfl B.range (pa_cons (pe_callB call_len_seq (by rfl) B.len PySem.boot_len (pa_cons (pv 1) pa_nil)) pa_nil)) (pg_name (i := 2) scA.nd rfl (Or.inl rfl))
        (pss_one (ps_if (pt_not (pt_val (pe_call G hr (by rfl) gA F.kp bA .nil pass0 (pa_cons (pe_ix ix_list (pv 0) (pv 2) (fun _ _ => rfl)) (pa_cons (pe_ix ix_list (pv 1) (pv 2) (fun _ _ => rfl)) pa_nil))))) pss_never pss_nil)))
      (pss_one (ps_ret pe_bl))))), ?_⟩
    refine ⟨_, rfl, _, _, _, _, false, rfl, .ty _, .base (.lst eq), ki _ _ _ (by decide +kernel), _, rfl, iteF ?_⟩
    refine ⟨_, rfl, _, _, _, _, true, rfl, .ty _, .base (.lst eq), ki _ _ _ (by decide +kernel), _, rfl, iteT ?_⟩
    refine ⟨_, rfl, _, _, _, _, true, rfl, .ty _, .base (.lst ep), ki _ _ _ (by decide +kernel), _, rfl, iteF ?_⟩
    refine ⟨_, rfl, p, _, rfl, .inl (SqL.of ep), _, rfl, q, _, rfl, .inl (SqL.of eq), rfl, _, rfl, iteNS rfl ?_⟩
    refine ⟨_, rfl, q, _, rfl, .inl (SqL.of eq), _, rfl, ?_, ?_, ?_⟩
    · omega
    · rw [lenI]
      omega
    rw [Int.toNat_natCast, lenI]
    refine for_range (lo := 0) (n := ns.length) (fun j σ H' => ∃ v2, σ = [some (.ref p), some (.ref q), v2] ∧ H' = H) ⟨none, rfl, rfl⟩ ?_ ?_
    · rintro j σ H' hj ⟨v2, rfl, rfl⟩
      refine ⟨_, rfl, _, rfl, p, _, _, _, rfl, rfl, SqL.of ep, at_of (j := j) (Int.zero_add _) (atIm hj), _, rfl, _, rfl, q, _, _, _, rfl, rfl, SqL.of eq, at_of (j := j) (Int.zero_add _) (atIm hj), ns[j], rfl, _, rfl, iteF ?_⟩
      exact ⟨_, rfl, rfl⟩
    · rintro σ H' ⟨v2, rfl, rfl⟩
      exact k
theorem ok_al3 {f : Addr} {fd : FuncData} (F : Fun K "_law_alike" "_law_alike" sAlike f fd) (B : Blt mg) (bA : Binds K fd ["_law_found", "_law_due"] []) (gA : mg "_law_alike" = some (.ref f)) : FnOk P w K mg base CX0 3 f fd ["_law_found", "_law_due"] spAl3 := by
  have G : FnOk P w K mg base CX0 2 f fd ["_law_found", "_law_due"] spAl2 := ok_al2 F B bA gA
  refine F.ok scA (fun vs H Q E h => ?_) (fun cdv A outer s H vs Q E hr h => ?_)
  · obtain ⟨t, u, p, q, r, o, ns, ms, rfl, _⟩ := h
    rfl
  · obtain ⟨t, u, p, q, r, o, ns, ms, rfl, et, eu, ep, er, eq, eo, hn, hm, k⟩ := h
    refine ⟨_, pss_cons (ps_if (pt_val (isi_int B (pv 1) (by rfl) (by rfl))) pss_never pss_nil)
      (pss_cons (ps_if (pt_val (isi_list B (pv 1) (by rfl) (by rfl))) pss_never
        (pss_one (ps_if (pt_not (pt_val (isi_tuple B (pv 0) (by rfl) (by rfl)))) pss_never pss_nil)))
      (pss_cons (ps_if (pt_cmpR op_ne (pe_callB call_len_seq (by rfl) B.len PySem.boot_len (pa_cons (pv 0) pa_nil)) (pe_callB call_len_seq (by rfl) B.len PySem.boot_len (pa_cons (pv 1) pa_nil)) (nomark _)) pss_never pss_nil)
      (pss_cons (ps_for PassesOwn.never rfl (pi_range1 rfl B.range (pa_cons (pe_callB call_len_seq (by rfl) B.len PySem.boot_len (pa_cons (pv 1) pa_nil)) pa_nil)) (pg_name (i := 2) scA.nd rfl (Or.inl rfl))
        (pss_one (ps_if (pt_not (pt_val (pe_call G hr (by rfl) gA F.kp bA .nil pass0 (pa_cons (pe_ix ix_tup (pv 0) (pv 2) (fun _ _ => rfl)) (pa_cons (pe_ix ix_tup (pv 1) (pv 2) (fun _ _ => rfl)) pa_nil))))) pss_never pss_nil)))
      (pss_one (ps_ret pe_bl))))), ?_⟩
    have hT : SqT K H t [.ref p, .ref q] := .inl (.inl et)
    have hU : SqT K H u [.ref r, .ref o] := .inl (.inl eu)
    refine ⟨_, rfl, _, _, _, _, false, rfl, .ty _, .base (.tup eu), ki _ _ _ (by decide +kernel), _, rfl, iteF ?_⟩
    refine ⟨_, rfl, _, _, _, _, false, rfl, .ty _, .base (.tup eu), ki _ _ _ (by decide +kernel), _, rfl, iteF ?_⟩
    refine ⟨_, rfl, _, _, _, _, true, rfl, .ty _, .base (.tup et), ki _ _ _ (by decide +kernel), _, rfl, iteF ?_⟩
    refine ⟨_, rfl, t, _, rfl, .inr hT, _, rfl, u, _, rfl, .inr hU, rfl, _, rfl, iteNS rfl ?_⟩
    refine ⟨_, rfl, u, _, rfl, .inr hU, _, rfl, (by show -(2 ^ 62) ≤ (2 : Int); decide), (by show (2 : Int) < 2 ^ 62; decide), ?_⟩
    refine for_range (lo := 0) (n := 2) (fun j σ H' => ∃ v2, σ = [some (.ref t), some (.ref u), v2] ∧ H' = H) ⟨none, rfl, rfl⟩ ?_ ?_
    · rintro j σ H' hj ⟨v2, rfl, rfl⟩
      match j, hj with
      | 0, _ =>
        refine ⟨_, rfl, _, rfl, t, _, _, .ref p, rfl, rfl, hT, at_of (j := 0) (Int.zero_add _) rfl, _, rfl, _, rfl, u, _, _, .ref r, rfl, rfl, hU, at_of (j := 0) (Int.zero_add _) rfl, p, r, ns, rfl, ep, er, hn, _, rfl, iteF ?_⟩
        exact ⟨_, rfl, rfl⟩
      | 1, _ =>
        refine ⟨_, rfl, _, rfl, t, _, _, .ref q, rfl, rfl, hT, at_of (j := 1) (Int.zero_add _) rfl, _, rfl, _, rfl, u, _, _, .ref o, rfl, rfl, hU, at_of (j := 1) (Int.zero_add _) rfl, q, o, ms, rfl, eq, eo, hm, _, rfl, iteF ?_⟩
        exact ⟨_, rfl, rfl⟩
    · rintro σ H' ⟨v2, rfl, rfl⟩
      exact k

/-! ### the rows -/
theorem steep_at (x : Int) : ∃ s : Int, atI [V.int 0, V.int 3, V.int 4, V.int 5, V.int 7] (x % 5) = some (.int s) := by
  have h0 : 0 ≤ x % 5 := Int.emod_nonneg _ (by decide)
  have h1 : x % 5 < 5 := Int.emod_lt_of_pos _ (by decide)
  generalize x % 5 = y at h0 h1
  have h : y = 0 ∨ y = 1 ∨ y = 2 ∨ y = 3 ∨ y = 4 := by omega
  rcases h with rfl | rfl | rfl | rfl | rfl
  · exact ⟨0, rfl⟩
  · exact ⟨3, rfl⟩
  · exact ⟨4, rfl⟩
  · exact ⟨5, rfl⟩
  · exact ⟨7, rfl⟩
theorem top_of {ps : List Int} (h : ps ≠ []) : ∃ y : Int, (ps.map V.int)[(ps.map V.int).length - 1]? = some (V.int y) ∧ y ∈ ps := by
  have hl : 0 < ps.length := List.length_pos_iff.mpr h
  have hj : ps.length - 1 < ps.length := by omega
  refine ⟨ps[ps.length - 1], ?_, List.getElem_mem hj⟩
  rw [lenI]
  exact atIm hj
theorem drop_int (ps : List Int) : (ps.map V.int).dropLast = ps.dropLast.map V.int := by
  rw [List.map_dropLast]
theorem scT : FnScope ["_law_script", "_law_size", "_law_turn", "_law_draws_here", "_law_steep", "_law_pile", "_law_row", "_law_ahead", "_law_k"] ["_law_script", "_law_size", "_law_turn"] (defScope sTurns) :=
  ⟨rfl, rfl, rfl, by decide +kernel, rfl, by decide +kernel, by decide +kernel⟩
theorem ok_turns {f fD : Addr} {fd fdD : FuncData} (F : Fun K "_law_turns" "_law_turns" sTurns f fd) (B : Blt mg) (FD : Fun K "_law_draws" "_law_draws" sDraws fD fdD) (bD : Binds K fdD ["_law_script", "_law_turn", "_law_many"] []) (gD : mg "_law_draws" = some (.ref fD)) :
    FnOk P w K mg base CX0 2 f fd ["_law_script", "_law_size", "_law_turn"] (spTurns K) := by
  have GD : FnOk P w K mg base CX0 1 fD fdD ["_law_script", "_law_turn", "_law_many"] (spDraws K) := ok_draws FD B
  refine F.ok scT (fun vs H Q E h => ?_) (fun cdv A outer s H vs Q E hr h => ?_)
  · obtain ⟨a, ns, z, t, rfl, _⟩ := h
    rfl
  · obtain ⟨a, ns, z, t, rfl, hS, hlen, hz, ht, k⟩ := h
    refine ⟨_, pss_cons (ps_set (i := 3) scT.nd rfl (Or.inl rfl) (pe_call GD hr (by rfl) gD FD.kp bD .nil pass0 (pa_cons (pv 0) (pa_cons (pv 2) (pa_cons (pe_op op_add (pe_op op_mul pe_int (pv 1)) pe_int) pa_nil)))))
      (pss_cons (ps_set (i := 4) scT.nd rfl (Or.inl rfl) (pe_ix ix_list (pe_lst (pa_cons pe_int (pa_cons pe_int (pa_cons pe_int (pa_cons pe_int (pa_cons pe_int pa_nil))))))
        (pe_op op_mod (pe_ix ix_list (pv 3) (pe_op op_mul pe_int (pv 1)) (fun _ _ => rfl)) pe_int) (fun _ _ => rfl)))
      (pss_cons (ps_set (i := 5) scT.nd rfl (Or.inl rfl) (pe_lst pa_nil))
      (pss_cons (ps_set (i := 6) scT.nd rfl (Or.inl rfl) (pe_lst pa_nil))
      (pss_cons (ps_set (i := 7) scT.nd rfl (Or.inl rfl) pe_int)
      (pss_cons (ps_for PassesOwn.never rfl (pi_range1 rfl B.range (pa_cons (pe_op op_mul pe_int (pv 1)) pa_nil)) (pg_name (i := 8) scT.nd rfl (Or.inl rfl))
        (pss_one (ps_if (PW.pt (pw_and (pt_cmpR op_lt (pv 7) (pv 1) (nomark _)) (pw_and1 (PW.pt (pw_or (pt_cmpR op_eq (pe_callB call_len_seq (by rfl) B.len PySem.boot_len (pa_cons (pv 5) pa_nil)) pe_int (nomark _))
            (pw_or1 (pt_cmpR op_lt (pe_op op_mod (pe_ix ix_list (pv 3) (pv 8) (fun _ _ => rfl)) pe_int) (pv 4) (nomark _))))))))
          (pss_cons (ps_expr (pe_bm PySem.F.plainAttrs_list PySem.F.slot_list_append PySem.F.type_list_append mt_append (pv 5) (pa_cons (pv 7) pa_nil)))
            (pss_one (ps_set (i := 7) scT.nd rfl (Or.inl rfl) (pe_op op_add (pv 7) pe_int))))
          (pss_one (ps_expr (pe_bm PySem.F.plainAttrs_list PySem.F.slot_list_append PySem.F.type_list_append mt_append (pv 6)
            (pa_cons (pe_bm0 PySem.F.plainAttrs_list PySem.F.slot_list_pop PySem.F.type_list_pop mt_pop (pv 5)) pa_nil)))))))
      (pss_one (ps_ret (pv 6)))))))), ?_⟩
    have e2 : (2 * (z : Int) + 1) = ((2 * z + 1 : Nat) : Int) := by omega
    have e3 : (2 * (z : Int)) = ((2 * z : Nat) : Int) := by omega
    refine ⟨_, rfl, _, rfl, _, rfl, _, _, rfl, rfl, .inl ⟨by decide, by decide⟩, _, _, rfl, rfl, a, ns, t, 2 * z + 1, ?_, hS, hlen, by omega, by omega, fun H1 d ds s1 n1 e1 ld => ?_⟩
    · show [V.ref a, V.int (t : Int), V.int (2 * (z : Int) + 1)] = _
      rw [e2]
    -- steep
    refine ⟨(by show 5 ≤ sizeLine; decide), fun l hl => ?_⟩
    have s2 := s1.trans (new_same (o := .lst [V.int 0, V.int 3, V.int 4, V.int 5, V.int 7]) hl)
    have eL : (upd H1 l (.lst [V.int 0, V.int 3, V.int 4, V.int 5, V.int 7])) l = some (.lst [V.int 0, V.int 3, V.int 4, V.int 5, V.int 7]) := upd_same
    have d2 : (upd H1 l (.lst [V.int 0, V.int 3, V.int 4, V.int 5, V.int 7])) d = some (LI ds) := (new_same hl) _ _ e1
    have hz2 : 2 * z < ds.length := by omega
    obtain ⟨sv, hsv⟩ := steep_at ds[2 * z]
    refine ⟨_, rfl, _, rfl, _, _, rfl, rfl, .inl ⟨by decide, by decide⟩, d, _, _, _, rfl, rfl, SqL.of d2, at_of (j := 2 * z) e3 (atIm hz2), _, _, rfl, rfl, (by show (0 : Int) < 5; decide), l, _, _, _, rfl, rfl, SqL.of eL, hsv, ?_⟩
    generalize upd H1 l (.lst [V.int 0, V.int 3, V.int 4, V.int 5, V.int 7]) = H2 at s2 d2
    -- pile and row
    refine ⟨Nat.zero_le _, fun pl hp => ?_⟩
    have npl : H pl = none := s2.free hp
    have ndp : d ≠ pl := ne_of_none d2 hp
    have s3 := s2.trans (new_same (o := .lst []) hp)
    have d3 : (upd H2 pl (.lst [])) d = some (LI ds) := (new_same hp) _ _ d2
    have p3 : (upd H2 pl (.lst [])) pl = some (LI []) := upd_same
    generalize upd H2 pl (.lst []) = H3 at s3 d3 p3
    refine ⟨Nat.zero_le _, fun rw' hr' => ?_⟩
    have nrw : H rw' = none := s3.free hr'
    have ndr : d ≠ rw' := ne_of_none d3 hr'
    have npr : pl ≠ rw' := ne_of_none p3 hr'
    have s4 := s3.trans (new_same (o := .lst []) hr')
    have d4 : (upd H3 rw' (.lst [])) d = some (LI ds) := (new_same hr') _ _ d3
    have p4 : (upd H3 rw' (.lst [])) pl = some (LI []) := (new_same hr') _ _ p3
    have r4 : (upd H3 rw' (.lst [])) rw' = some (LI []) := upd_same
    generalize upd H3 rw' (.lst []) = H4 at s4 d4 p4 r4
    refine ⟨_, rfl, _, _, rfl, rfl, .inl ⟨by decide, by decide⟩, _, rfl, ?_, ?_, ?_⟩
    · omega
    · omega
    rw [e3, Int.toNat_natCast]
    refine for_range (lo := 0) (n := 2 * z) (fun j σ H' => ∃ v8 ps rs, ∃ ah : Nat, σ = [some (.ref a), some (.int z), some (.int t), some (.ref d), some (.int sv), some (.ref pl), some (.ref rw'), some (.int ah), v8] ∧
      Same H H' ∧ H' d = some (LI ds) ∧ H' pl = some (LI ps) ∧ H' rw' = some (LI rs) ∧ ah ≤ z ∧ ah = ps.length + rs.length ∧ ah + rs.length = j ∧ (∀ n ∈ ps, 0 ≤ n) ∧ (∀ n ∈ rs, 0 ≤ n)) ?_ ?_ ?_
    · exact ⟨none, [], [], 0, rfl, s4, d4, p4, r4, Nat.zero_le _, rfl, rfl, (by intro n h; cases h), (by intro n h; cases h)⟩
    · rintro j σ H' hj ⟨v8, ps, rs, ah, rfl, s, eD, eP, eR, h1, h2, h3, h4, h5⟩
      have push : ah < z → ∃ v8' ps' rs', ∃ ah' : Nat, ([some (.ref a), some (.int z), some (.int t), some (.ref d), some (.int sv), some (.ref pl), some (.ref rw'), some (.int ((ah : Int) + 1)), some (.int (0 + (j : Int)))] : L2.St)
            = [some (.ref a), some (.int z), some (.int t), some (.ref d), some (.int sv), some (.ref pl), some (.ref rw'), some (.int ah'), v8'] ∧
          Same H (upd H' pl (.lst (ps.map V.int ++ [V.int ah]))) ∧ (upd H' pl (.lst (ps.map V.int ++ [V.int ah]))) d = some (LI ds) ∧ (upd H' pl (.lst (ps.map V.int ++ [V.int ah]))) pl = some (LI ps') ∧
          (upd H' pl (.lst (ps.map V.int ++ [V.int ah]))) rw' = some (LI rs') ∧ ah' ≤ z ∧ ah' = ps'.length + rs'.length ∧ ah' + rs'.length = j + 1 ∧ (∀ n ∈ ps', 0 ≤ n) ∧ (∀ n ∈ rs', 0 ≤ n) := fun hlt => by
        refine ⟨_, ps ++ [(ah : Int)], rs, ah + 1, rfl, put_same s npl, ?_, ?_, ?_, hlt, ?_, ?_, ?_, h5⟩
        · rw [upd_ne ndp]
          exact eD
        · rw [upd_same, app_int]
        · rw [upd_ne npr.symm]
          exact eR
        · rw [List.length_append, List.length_singleton]
          omega
        · omega
        · intro n hn
          rcases List.mem_append.mp hn with q | q
          · exact h4 n q
          · rw [List.mem_singleton.mp q]
            omega
      have szP : (ps.map V.int).length < sizeLine := by
        rw [lenI]
        exact small1000 (by omega)
      have szR : (rs.map V.int).length < sizeLine := by
        rw [lenI]
        exact small1000 (by omega)
      have pop : ps ≠ [] → ∃ y : Int, (ps.map V.int)[(ps.map V.int).length - 1]? = some (V.int y) ∧
          (upd H' pl (.lst (ps.map V.int).dropLast)) rw' = some (LI rs) ∧
          ∃ v8' ps' rs', ∃ ah' : Nat, ([some (.ref a), some (.int z), some (.int t), some (.ref d), some (.int sv), some (.ref pl), some (.ref rw'), some (.int (ah : Int)), some (.int (0 + (j : Int)))] : L2.St)
            = [some (.ref a), some (.int z), some (.int t), some (.ref d), some (.int sv), some (.ref pl), some (.ref rw'), some (.int ah'), v8'] ∧
          Same H (upd (upd H' pl (.lst (ps.map V.int).dropLast)) rw' (.lst (rs.map V.int ++ [V.int y]))) ∧ (upd (upd H' pl (.lst (ps.map V.int).dropLast)) rw' (.lst (rs.map V.int ++ [V.int y]))) d = some (LI ds) ∧
          (upd (upd H' pl (.lst (ps.map V.int).dropLast)) rw' (.lst (rs.map V.int ++ [V.int y]))) pl = some (LI ps') ∧
          (upd (upd H' pl (.lst (ps.map V.int).dropLast)) rw' (.lst (rs.map V.int ++ [V.int y]))) rw' = some (LI rs') ∧ ah' ≤ z ∧ ah' = ps'.length + rs'.length ∧ ah' + rs'.length = j + 1 ∧ (∀ n ∈ ps', 0 ≤ n) ∧ (∀ n ∈ rs', 0 ≤ n) := fun hne => by
        obtain ⟨y, hy, my⟩ := top_of hne
        have hl : 0 < ps.length := List.length_pos_iff.mpr hne
        refine ⟨y, hy, ?_, _, ps.dropLast, rs ++ [y], ah, rfl, put_same (put_same s npl) nrw, ?_, ?_, ?_, h1, ?_, ?_, ?_, ?_⟩
        · rw [upd_ne npr.symm]
          exact eR
        · rw [upd_ne ndr, upd_ne ndp]
          exact eD
        · rw [upd_ne npr, upd_same, drop_int]
        · rw [upd_same, app_int]
        · rw [List.length_append, List.length_singleton, List.length_dropLast]
          omega
        · rw [List.length_append, List.length_singleton]
          omega
        · exact fun n hn => h4 n (List.dropLast_subset _ hn)
        · intro n hn
          rcases List.mem_append.mp hn with q | q
          · exact h5 n q
          · rw [List.mem_singleton.mp q]
            exact h4 y my
      -- the test
      refine ⟨_, rfl, _, rfl, _, _, rfl, rfl, _, rfl, ite2 (fun hlt => ?_) (fun hge => iteF ?_)⟩
      · have hlt' : ah < z := by
          have q := of_decide_eq_true hlt
          omega
        refine ⟨_, rfl, pl, _, rfl, .inl (SqL.of eP), rfl, _, rfl, ite2 (fun _ => iteT ?_) (fun hne => ?_)⟩
        · refine ⟨_, rfl, .inl ⟨rfl, _, SqL.of eP⟩, _, rfl, pl, _, _, rfl, rfl, eP, szP, _, rfl, _, _, rfl, rfl, push hlt'⟩
        · have hne' : ps ≠ [] := fun e => by
            subst e
            exact hne (decide_eq_true rfl)
          have hjd : j < ds.length := by omega
          refine ⟨_, rfl, _, rfl, d, _, _, _, rfl, rfl, SqL.of eD, at_of (j := j) (Int.zero_add _) (atIm hjd), _, _, rfl, rfl, (by show (0 : Int) < 7; decide), _, rfl, _, _, rfl, rfl, _, rfl, ite2 (fun _ => ?_) (fun _ => ?_)⟩
          · refine ⟨_, rfl, .inl ⟨rfl, _, SqL.of eP⟩, _, rfl, pl, _, _, rfl, rfl, eP, szP, _, rfl, _, _, rfl, rfl, push hlt'⟩
          · obtain ⟨y, hy, eR', inv⟩ := pop hne'
            exact ⟨_, rfl, .inl ⟨rfl, _, SqL.of eR⟩, _, rfl, .inl ⟨rfl, _, SqL.of eP⟩, pl, _, _, rfl, rfl, eP, hy, rw', _, _, rfl, rfl, eR', szR, inv⟩
      · have hge' : ¬ ah < z := fun q => hge (decide_eq_true (by omega))
        have hne' : ps ≠ [] := fun e => by
          subst e
          have q : ah = 0 + rs.length := h2
          omega
        obtain ⟨y, hy, eR', inv⟩ := pop hne'
        exact ⟨_, rfl, .inl ⟨rfl, _, SqL.of eR⟩, _, rfl, .inl ⟨rfl, _, SqL.of eP⟩, pl, _, _, rfl, rfl, eP, hy, rw', _, _, rfl, rfl, eR', szR, inv⟩
    · rintro σ H' ⟨v8, ps, rs, ah, rfl, s, eD, eP, eR, h1, h2, h3, h4, h5⟩
      exact ⟨_, rfl, k _ rw' rs s nrw eR (by omega) h5⟩
end
end Kt
/-! K4: the law. -/
namespace Kt
open PySem L2
def spLaw (K : PySem.W.Frag) : Sp := fun vs H Q _ => ∃ (a : Addr) (ns : List Int), vs = [.ref a] ∧ SqL K H a (ns.map V.int) ∧ ns.length ≤ 63 ∧ ∀ H', Q (.bl true) H'
/-! ### data -/
theorem ints_lay : ∀ ns : List Int, PyData.canLayAll0 (ns.map PyData.int) = true
  | [] => by simp only [List.map_nil, PyData.canLayAll0]
  | n :: r => by
    rw [List.map_cons]
    simp only [PyData.canLayAll0, PyData.canLay0, Bool.true_and]
    exact ints_lay r
theorem ints_depth : ∀ ns : List Int, PyData.depthAll (ns.map PyData.int) = 0
  | [] => by simp only [List.map_nil, PyData.depthAll]
  | n :: r => by
    rw [List.map_cons]
    simp only [PyData.depthAll, PyData.depth, ints_depth r, Nat.max_self]
def D3 (a b c : List Int) : PyData := .list [.list (a.map PyData.int), .list (b.map PyData.int), .list (c.map PyData.int)]
theorem D3_lay (a b c : List Int) : (D3 a b c).canLay0 = true := by
  unfold D3
  simp only [PyData.canLay0, PyData.canLayAll0, ints_lay, Bool.and_self]
theorem D3_depth (a b c : List Int) : (D3 a b c).depth = 2 := by
  unfold D3
  simp only [PyData.depth, PyData.depthAll, ints_depth, Nat.max_self, Nat.zero_add, Nat.max_zero]
theorem D3_shaped (a b c : List Int) : SeqAt.shaped (D3 a b c) = true := by
  unfold SeqAt.shaped
  rw [D3_lay, D3_depth]
  decide
theorem dp_ints {K : PySem.W.Frag} {H : Hp} : ∀ ns : List Int, DpAll K H (ns.map V.int) (ns.map PyData.int)
  | [] => .nil
  | n :: r => .cons (.int n) (dp_ints r)
theorem dp_list {K : PySem.W.Frag} {H : Hp} {p : Addr} {ns : List Int} (e : H p = some (LI ns)) : Dp K H (.ref p) (.list (ns.map PyData.int)) := .lst (SqL.of e) (dp_ints ns)
theorem dp3 {K : PySem.W.Frag} {H : Hp} {h p q r : Addr} {a b c : List Int} (eh : H h = some (.lst [.ref p, .ref q, .ref r])) (e1 : H p = some (LI a)) (e2 : H q = some (LI b)) (e3 : H r = some (LI c)) : Dp K H (.ref h) (D3 a b c) :=
  .lst (SqL.of eh) (.cons (dp_list e1) (.cons (dp_list e2) (.cons (dp_list e3) .nil)))
/-! ### the numbers -/
def due (i : Nat) (ls rs : List Int) : List Int := ls.map (fun n => n + 1) ++ 0 :: rs.map (fun m => m + (i : Int) + 1)
theorem due_both {i : Nat} {ls rs : List Int} (h : ls.length = i) : both ls rs = due i ls rs := by
  unfold both due
  rw [h, List.append_assoc, List.singleton_append]
  congr 2
  refine List.map_congr_left fun m _ => ?_
  omega
theorem due_left (ls : List Int) : (ls.map (fun n => n + 1)).map (fun n => n - 1) = ls := by
  rw [List.map_map]
  refine (List.map_congr_left fun x _ => ?_).trans (List.map_id ls)
  show x + 1 - 1 = x
  omega
theorem due_right {i : Nat} {ls : List Int} (rs : List Int) (h : ls.length = i) : (rs.map (fun m => m + (i : Int) + 1)).map (fun m => m - ((ls.map (fun n => n + 1)).length : Int) - 1) = rs := by
  rw [List.map_map, List.length_map, h]
  refine (List.map_congr_left fun x _ => ?_).trans (List.map_id rs)
  show x + (i : Int) + 1 - (i : Int) - 1 = x
  omega
theorem due_pos {ls : List Int} (h : ∀ n ∈ ls, 0 ≤ n) : ∀ n ∈ ls.map (fun n => n + 1), n ≠ 0 := by
  intro n hn
  obtain ⟨m, hm, rfl⟩ := List.mem_map.mp hn
  have q := h m hm
  omega
theorem size_of (z0 : Int) : ∃ z : Nat, z0 % 40 = (z : Int) ∧ z ≤ 39 := ⟨(z0 % 40).toNat, by omega, by omega⟩
theorem part_of (x : Int) (z : Nat) : ∃ i : Nat, x % ((z : Int) + 1) = (i : Int) ∧ i ≤ z := by
  have h0 : 0 ≤ x % ((z : Int) + 1) := Int.emod_nonneg _ (by omega)
  have h1 : x % ((z : Int) + 1) < (z : Int) + 1 := Int.emod_lt_of_pos _ (by omega)
  exact ⟨(x % ((z : Int) + 1)).toNat, by omega, by omega⟩
theorem ends_of (x : Int) (z : Nat) : ∃ i : Nat, x % 2 * (z : Int) = (i : Int) ∧ i ≤ z := by
  have h : x % 2 = 0 ∨ x % 2 = 1 := by omega
  rcases h with h | h
  · exact ⟨0, by rw [h]; omega, by omega⟩
  · exact ⟨z, by rw [h]; omega, by omega⟩
section
variable {P : Program} {w : World} {K : PySem.W.Frag} {mg : Str → Option Value} {base : Heap}
theorem scL : FnScope ["_law_script", "_law_size", "_law_i", "_law_left", "_law_right", "_law_due", "_law_kin", "_law_handed", "_law_k", "_law_both", "_law_parts", "_law_bare", "_law_number"] ["_law_script"] (defScope sLaw) :=
  ⟨rfl, rfl, rfl, by decide +kernel, rfl, by decide +kernel, by decide +kernel⟩
/-- all that the law's own def calls -/
structure Hy (P : Program) (w : World) (K : PySem.W.Frag) (mg : Str → Option Value) (base : Heap) (C fI fJ fP fB fC fA fT : Addr) (fdI fdJ fdP fdB fdC fdA fdT : FuncData) : Prop where
  B : Blt mg
  cl : Cls K C
  mgC : mg "Turns" = some (.ref C)
  M : Mk K C fI
  GI : FnOk P w K mg base CX0 3 fI fdI ["self"] (spTI C)
  bI : Binds K fdI ["self"] []
  GJ : FnOk P w K mg base CX0 1 fJ fdJ ["self", "left", "right"] (spJoined K)
  bJ : Binds K fdJ ["self", "left", "right"] []
  mJ : Meth K C "joined" fJ
  GP : FnOk P w K mg base CX0 1 fP fdP ["self", "thing"] (spParted K)
  bP : Binds K fdP ["self", "thing"] []
  mP : Meth K C "parted" fP
  GB : FnOk P w K mg base CX0 1 fB fdB ["self"] spBare
  bB : Binds K fdB ["self"] []
  mB : Meth K C "bare" fB
  GC : FnOk P w K mg base CX0 1 fC fdC ["_law_script", "_law_k"] (spCell K)
  bC : Binds K fdC ["_law_script", "_law_k"] []
  gC : mg "_law_cell_at" = some (.ref fC)
  kC : PySem.W.keepIn K (.ref fC) = true
  GA2 : FnOk P w K mg base CX0 2 fA fdA ["_law_found", "_law_due"] spAl2
  GA3 : FnOk P w K mg base CX0 3 fA fdA ["_law_found", "_law_due"] spAl3
  bA : Binds K fdA ["_law_found", "_law_due"] []
  gA : mg "_law_alike" = some (.ref fA)
  kA : PySem.W.keepIn K (.ref fA) = true
  GT : FnOk P w K mg base CX0 2 fT fdT ["_law_script", "_law_size", "_law_turn"] (spTurns K)
  bT : Binds K fdT ["_law_script", "_law_size", "_law_turn"] []
  gT : mg "_law_turns" = some (.ref fT)
  kT : PySem.W.keepIn K (.ref fT) = true
theorem ok_law {C f fI fJ fP fB fC fA fT : Addr} {fd fdI fdJ fdP fdB fdC fdA fdT : FuncData} (F : Fun K "law" "law" sLaw f fd) (Z : Hy P w K mg base C fI fJ fP fB fC fA fT fdI fdJ fdP fdB fdC fdA fdT) :
    FnOk P w K mg base CX0 5 f fd ["_law_script"] (spLaw K) := by
  refine F.ok scL (fun vs H Q E h => ?_) (fun cdv A outer s H vs Q E hr h => ?_)
  · obtain ⟨a, ns, rfl, _⟩ := h
    rfl
  · obtain ⟨a, ns, rfl, hS, hlen, k⟩ := h
    have hr1 : Room 1 _ := hr.mono (by decide)
    have hr2 : Room 2 _ := hr.mono (by decide)
    have hr3 : Room 3 _ := hr.mono (by decide)
    refine ⟨_, pss_cons (ps_set (i := 1) scL.nd rfl (Or.inl rfl) (pe_op op_mod (pe_call Z.GC hr1 (by rfl) Z.gC Z.kC Z.bC .nil pass0 (pa_cons (pv 0) (pa_cons pe_int pa_nil))) pe_int))
      (pss_cons (ps_set (i := 2) scL.nd rfl (Or.inr rfl) (pe_op op_mod (pe_op op_fdiv (pe_call Z.GC hr1 (by rfl) Z.gC Z.kC Z.bC .nil pass0 (pa_cons (pv 0) (pa_cons pe_int pa_nil))) pe_int) (pe_op op_add (pv 1) pe_int)))
      (C8.pss_cut (ps_if (pt_cmpR op_eq (pe_op op_mod (pe_call Z.GC hr1 (by rfl) Z.gC Z.kC Z.bC .nil pass0 (pa_cons (pv 0) (pa_cons pe_int pa_nil))) pe_int) pe_int (nomark _))
        (pss_one (ps_set (i := 2) scL.nd rfl (Or.inr rfl) (pe_op op_mul (pe_op op_mod (pe_call Z.GC hr1 (by rfl) Z.gC Z.kC Z.bC .nil pass0 (pa_cons (pv 0) (pa_cons pe_int pa_nil))) pe_int) (pv 1)))) pss_nil)
      (pss_cons (ps_set (i := 3) scL.nd rfl (Or.inl rfl) (pe_call Z.GT hr2 (by rfl) Z.gT Z.kT Z.bT .nil pass0 (pa_cons (pv 0) (pa_cons (pv 2) (pa_cons pe_int pa_nil)))))
      (pss_cons (ps_set (i := 4) scL.nd rfl (Or.inl rfl) (pe_call Z.GT hr2 (by rfl) Z.gT Z.kT Z.bT .nil pass0 (pa_cons (pv 0) (pa_cons (pe_op op_sub (pv 1) (pv 2)) (pa_cons pe_int pa_nil)))))
      (pss_cons (ps_set (i := 5) scL.nd rfl (Or.inl rfl) (pe_op op_cat (pe_op op_cat
        (pe_lc (own := [("_law_number", 12)]) (g := gName 12) (tt := tYes) rfl scL.nd (pi_list (pv 3)) (blkOk_by (own := [("_law_number", 12)])
            (N := ["_law_script", "_law_size", "_law_i", "_law_left", "_law_right", "_law_due", "_law_kin", "_law_handed", "_law_k", "_law_both", "_law_parts", "_law_bare", "_law_number"]) (sc := defScope sLaw) (by decide +kernel))
          (fun _ _ _ _ _ => pg_name (i := 12) scL.nd rfl (Or.inl rfl)) (fun _ _ _ _ _ => pts_nil) (fun _ _ _ _ _ => pe_op op_add (pv 12) pe_int))
        (pe_lst (pa_cons pe_int pa_nil)))
        (pe_lc (own := [("_law_number", 12)]) (g := gName 12) (tt := tYes) rfl scL.nd (pi_list (pv 4)) (blkOk_by (own := [("_law_number", 12)])
            (N := ["_law_script", "_law_size", "_law_i", "_law_left", "_law_right", "_law_due", "_law_kin", "_law_handed", "_law_k", "_law_both", "_law_parts", "_law_bare", "_law_number"]) (sc := defScope sLaw) (by decide +kernel))
          (fun _ _ _ _ _ => pg_name (i := 12) scL.nd rfl (Or.inl rfl)) (fun _ _ _ _ _ => pts_nil) (fun _ _ _ _ _ => pe_op op_add (pe_op op_add (pv 12) (pv 2)) pe_int))))
      (pss_cons (ps_set (i := 6) scL.nd rfl (Or.inl rfl) (pe_make0 Z.M Z.GI hr rfl Z.mgC Z.bI .nil pass0))
      (pss_cons (ps_set (i := 7) scL.nd rfl (Or.inl rfl) (pe_lst (pa_cons (pe_callTy call_list_of (by rfl) Z.B.list (by decide +kernel) (pa_cons (pv 3) pa_nil)) (pa_cons (pe_callTy call_list_of (by rfl) Z.B.list (by decide +kernel) (pa_cons (pv 4) pa_nil))
        (pa_cons (pe_callTy call_list_of (by rfl) Z.B.list (by decide +kernel) (pa_cons (pv 5) pa_nil)) pa_nil)))))
      (pss_cons (ps_for PassesOwn.never rfl (pi_range1 rfl Z.B.range (pa_cons pe_int pa_nil)) (pg_name (i := 8) scL.nd rfl (Or.inl rfl))
        (pss_cons (ps_set (i := 9) scL.nd rfl (Or.inl rfl) (pe_meth (pv 6) Z.cl Z.mJ Z.GJ hr1 Z.bJ .nil pass0 (pa_cons (pe_ix ix_list (pv 7) pe_int (fun _ _ => rfl)) (pa_cons (pe_ix ix_list (pv 7) pe_int (fun _ _ => rfl)) pa_nil))))
        (pss_cons (ps_set (i := 10) scL.nd rfl (Or.inl rfl) (pe_meth (pv 6) Z.cl Z.mP Z.GP hr1 Z.bP .nil pass0 (pa_cons (pe_ix ix_list (pv 7) pe_int (fun _ _ => rfl)) pa_nil)))
        (pss_cons (ps_set (i := 11) scL.nd rfl (Or.inl rfl) (pe_meth0 (pv 6) Z.cl Z.mB Z.GB hr1 Z.bB .nil pass0))
        (pss_cons (ps_if (PW.pt (pw_or (pt_not (pt_val (pe_call Z.GA2 hr2 (by rfl) Z.gA Z.kA Z.bA .nil pass0 (pa_cons (pv 9) (pa_cons (pv 5) pa_nil)))))
            (pw_or (pt_not (pt_val (pe_call Z.GA3 hr3 (by rfl) Z.gA Z.kA Z.bA .nil pass0 (pa_cons (pv 10) (pa_cons (pe_tup (pa_cons (pv 3) (pa_cons (pv 4) pa_nil))) pa_nil)))))
            (pw_or1 (pt_not (pt_val (pe_call Z.GA2 hr2 (by rfl) Z.gA Z.kA Z.bA .nil pass0 (pa_cons (pv 11) (pa_cons (pe_lst pa_nil) pa_nil)))))))))
          pss_never pss_nil)
        (pss_cons (ps_expr (pe_bm PySem.F.plainAttrs_list PySem.F.slot_list_append PySem.F.type_list_append mt_append (pv 9) (pa_cons pe_int pa_nil)))
        (pss_cons (ps_expr (pe_bm PySem.F.plainAttrs_list PySem.F.slot_list_append PySem.F.type_list_append mt_append (pe_ix ix_tup (pv 10) pe_int (fun _ _ => rfl)) (pa_cons pe_int pa_nil)))
        (pss_cons (ps_expr (pe_bm PySem.F.plainAttrs_list PySem.F.slot_list_append PySem.F.type_list_append mt_append (pe_ix ix_tup (pv 10) pe_int (fun _ _ => rfl)) (pa_cons pe_int pa_nil)))
        (pss_one (ps_expr (pe_bm PySem.F.plainAttrs_list PySem.F.slot_list_append PySem.F.type_list_append mt_append (pv 11) (pa_cons pe_int pa_nil))))))))))))
      (pss_one (ps_ret (pe_cmpR (op_eqD (by exact hr.units)) (pv 7) (pe_lst (pa_cons (pv 3) (pa_cons (pv 4) (pa_cons (pv 5) pa_nil)))) (nomark _)))))))))))), ?_⟩
    -- the sizes
    refine ⟨_, rfl, a, ns, 0, rfl, hS, fun z0 => ⟨_, _, rfl, rfl, (by show (0 : Int) < 40; decide), ?_⟩⟩
    obtain ⟨z, ez, hz⟩ := size_of z0
    have pz : (0 : Int) < z0 % 40 + 1 := by omega
    refine ⟨_, rfl, a, ns, 1, rfl, hS, fun z1 => ⟨_, _, rfl, rfl, ⟨by decide, by decide⟩, _, rfl, _, _, rfl, rfl, _, _, rfl, rfl, pz, ?_⟩⟩
    refine ⟨fun σ' H' => H' = H ∧ ∃ i : Nat, i ≤ z ∧ σ' = [some (.ref a), some (.int z), some (.int i), none, none, none, none, none, none, none, none, none, none], ?_, ?_⟩
    · refine ⟨_, rfl, a, ns, 1, rfl, hS, fun z3 => ⟨_, _, rfl, rfl, (by show (0 : Int) < 3; decide), rfl, _, rfl, ite2 (fun _ => ?_) (fun _ => ?_)⟩⟩
      · refine ⟨_, rfl, a, ns, 2, rfl, hS, fun z2 => ⟨_, _, rfl, rfl, (by show (0 : Int) < 2; decide), _, rfl, _, _, rfl, rfl, .inl (lt64 (m := 2) (Int.emod_nonneg _ (by decide)) (Int.emod_lt_of_pos _ (by decide)) (by decide)), rfl, ?_⟩⟩
        obtain ⟨i, ei, hi⟩ := ends_of z2 z
        refine ⟨i, hi, ?_⟩
        rw [← ei, ← ez]
        rfl
      · obtain ⟨i, ei, hi⟩ := part_of (z1 / 3) z
        refine ⟨rfl, i, hi, ?_⟩
        rw [← ei, ← ez]
        rfl
    rintro σ' H' ⟨rfl, i, hi, rfl⟩
    -- the rows
    refine ⟨_, rfl, _, rfl, a, ns, i, 2, rfl, hS, hlen, by omega, by omega, fun H1 L ls s1 n1 e1 l1 p1 => ?_⟩
    have ezi : ((z : Int) - (i : Int)) = ((z - i : Nat) : Int) := by omega
    refine ⟨_, rfl, _, rfl, _, rfl, _, _, rfl, rfl, a, ns, z - i, 100, ?_, s1.seq hS, hlen, by omega, by omega, fun H2 R rs s2 n2 e2 l2 p2 => ?_⟩
    · show [V.ref a, V.int ((z : Int) - (i : Int)), V.int 100] = _
      rw [ezi]
      rfl
    have eL2 := s2 _ _ e1
    -- what is due
    refine ⟨_, rfl, L, rfl, ⟨_, SqL.of eL2⟩, fun D1 nD1 => lc_map (i := 12) (fun n => n + 1) (SqL.of eL2) nD1 (by omega) (fun n H' R q => ⟨_, rfl, _, _, rfl, rfl, q⟩) fun H3 s3 e3 => ?_⟩
    refine ⟨(by show 1 ≤ sizeLine; decide), fun o ho => ?_⟩
    have s4 : Same H3 (upd H3 o (.lst [.int 0])) := new_same ho
    refine ⟨D1, o, _, _, rfl, rfl, s4 _ _ e3, upd_same, ?_, fun p hp => ?_⟩
    · rw [List.length_map, List.length_map]
      exact small (by show ls.length + 1 ≤ 1000; omega)
    have s5 := s4.trans (new_same (o := .lst ((ls.map fun n => n + 1).map V.int ++ [.int 0])) hp)
    have ep : (upd (upd H3 o (.lst [.int 0])) p (.lst ((ls.map fun n => n + 1).map V.int ++ [.int 0]))) p = some (.lst ((ls.map fun n => n + 1).map V.int ++ [.int 0])) := upd_same
    generalize upd (upd H3 o (.lst [.int 0])) p (.lst ((ls.map fun n => n + 1).map V.int ++ [.int 0])) = H5 at s5 ep
    have s25 := s3.trans s5
    have eR5 := s25 _ _ e2
    refine ⟨_, rfl, R, rfl, ⟨_, SqL.of eR5⟩, fun D2 nD2 => lc_map (i := 12) (fun m => m + (i : Int) + 1) (SqL.of eR5) nD2 (by omega) (fun n H' R q => ⟨_, rfl, _, rfl, _, _, rfl, rfl, _, _, rfl, rfl, q⟩) fun H6 s6 e6 => ?_⟩
    refine ⟨p, D2, _, _, rfl, rfl, s6 _ _ ep, e6, ?_, fun D hD => ?_⟩
    · rw [List.length_append, List.length_map, List.length_map, List.length_map, List.length_map]
      exact small (by show ls.length + 1 + rs.length ≤ 1000; omega)
    have edue : (ls.map fun n => n + 1).map V.int ++ [.int 0] ++ (rs.map fun m => m + (i : Int) + 1).map V.int = (due i ls rs).map V.int := by
      unfold due
      rw [List.map_append, List.map_cons, List.append_assoc, List.singleton_append]
    have s27 := (s25.trans s6).trans (new_same (o := .lst ((ls.map fun n => n + 1).map V.int ++ [.int 0] ++ (rs.map fun m => m + (i : Int) + 1).map V.int)) hD)
    have eD7 : (upd H6 D (.lst ((ls.map fun n => n + 1).map V.int ++ [.int 0] ++ (rs.map fun m => m + (i : Int) + 1).map V.int))) D = some (LI (due i ls rs)) := by rw [upd_same, edue]
    generalize upd H6 D (.lst ((ls.map fun n => n + 1).map V.int ++ [.int 0] ++ (rs.map fun m => m + (i : Int) + 1).map V.int)) = H7 at s27 eD7
    have eL7 := s27 _ _ eL2
    have eR7 := s27 _ _ e2
    -- the object
    intro x dx nx ndx nex
    refine ⟨x, dx, rfl, upd_same, fun H8 hK kp => ⟨rfl, ?_⟩⟩
    have s8 : Same H7 H8 := Same.made nx ndx kp
    have eL8 := s8 _ _ eL7
    have eR8 := s8 _ _ eR7
    have eD8 := s8 _ _ eD7
    -- what is handed in
    refine ⟨_, rfl, L, _, rfl, .inl (SqL.of eL8), fun a1 h1 => ?_⟩
    have t1 : Same H8 (upd H8 a1 (LI ls)) := new_same h1
    refine ⟨_, rfl, R, _, rfl, .inl (SqL.of (t1 _ _ eR8)), fun a2 h2 => ?_⟩
    have t2 : Same (upd H8 a1 (LI ls)) (upd (upd H8 a1 (LI ls)) a2 (LI rs)) := new_same h2
    refine ⟨_, rfl, D, _, rfl, .inl (SqL.of (t2 _ _ (t1 _ _ eD8))), fun a3 h3 => ?_⟩
    have t3 : Same (upd (upd H8 a1 (LI ls)) a2 (LI rs)) (upd (upd (upd H8 a1 (LI ls)) a2 (LI rs)) a3 (LI (due i ls rs))) := new_same h3
    refine ⟨(by show 3 ≤ sizeLine; decide), fun hd hhd => ?_⟩
    have t4 : Same (upd (upd (upd H8 a1 (LI ls)) a2 (LI rs)) a3 (LI (due i ls rs))) (upd (upd (upd (upd H8 a1 (LI ls)) a2 (LI rs)) a3 (LI (due i ls rs))) hd (.lst [.ref a1, .ref a2, .ref a3])) := new_same hhd
    have s9 := ((t1.trans t2).trans t3).trans t4
    have ea1 := t4 _ _ (t3 _ _ (t2 _ _ (upd_same (H := H8) (a := a1) (o := LI ls))))
    have ea2 := t4 _ _ (t3 _ _ (upd_same (H := upd H8 a1 (LI ls)) (a := a2) (o := LI rs)))
    have ea3 := t4 _ _ (upd_same (H := upd (upd H8 a1 (LI ls)) a2 (LI rs)) (a := a3) (o := LI (due i ls rs)))
    have ehd : (upd (upd (upd (upd H8 a1 (LI ls)) a2 (LI rs)) a3 (LI (due i ls rs))) hd (.lst [.ref a1, .ref a2, .ref a3])) hd = some (.lst [.ref a1, .ref a2, .ref a3]) := upd_same
    have eL := s9 _ _ eL8
    have eR := s9 _ _ eR8
    have eD := s9 _ _ eD8
    obtain ⟨dy, ww, wl, hx8⟩ := hK
    have hx := s9 _ _ hx8
    generalize upd (upd (upd (upd H8 a1 (LI ls)) a2 (LI rs)) a3 (LI (due i ls rs))) hd (.lst [.ref a1, .ref a2, .ref a3]) = H9 at s9 ea1 ea2 ea3 ehd eL eR eD hx
    have noJ : (kf ww wl).lookup ("joined" : Str) = none := kf_no _ _ (by decide +kernel) (by decide +kernel)
    have noP : (kf ww wl).lookup ("parted" : Str) = none := kf_no _ _ (by decide +kernel) (by decide +kernel)
    have noB : (kf ww wl).lookup ("bare" : Str) = none := kf_no _ _ (by decide +kernel) (by decide +kernel)
    have ldue : (due i ls rs).length ≤ 1000 := by
      unfold due
      rw [List.length_append, List.length_cons, List.length_map, List.length_map]
      omega
    -- twice
    refine ⟨2, rfl, (by show -(2 ^ 62) ≤ (2 : Int); decide), (by show (2 : Int) < 2 ^ 62; decide), ?_⟩
    refine for_range (lo := 0) (n := 2) (fun j σ H' => ∃ v8 v9 v10 v11, σ = [some (.ref a), some (.int z), some (.int i), some (.ref L), some (.ref R), some (.ref D), some (.ref x), some (.ref hd), v8, v9, v10, v11, none] ∧ Same H9 H') ⟨none, none, none, none, rfl, Same.refl _⟩ ?_ ?_
    · rintro j σ H' hj ⟨v8, v9, v10, v11, rfl, sm⟩
      refine ⟨_, rfl, x, dy, _, rfl, sm _ _ hx, noJ, _, rfl, hd, _, _, .ref a1, rfl, rfl, SqL.of (sm _ _ ehd), at_of (j := 0) rfl rfl, _, rfl, hd, _, _, .ref a2, rfl, rfl, SqL.of (sm _ _ ehd), at_of (j := 1) rfl rfl,
        _, a1, a2, ls, rs, rfl, SqL.of (sm _ _ ea1), SqL.of (sm _ _ ea2), by omega, by omega, fun G1 b u1 nb eb => ?_⟩
      have m1 := sm.trans u1
      refine ⟨_, rfl, x, dy, _, rfl, m1 _ _ hx, noP, _, rfl, hd, _, _, .ref a3, rfl, rfl, SqL.of (m1 _ _ ehd), at_of (j := 2) rfl rfl,
        _, a3, ls.map (fun n => n + 1), rs.map (fun m => m + (i : Int) + 1), rfl, SqL.of (m1 _ _ ea3), (by rw [List.length_map]; omega), (by rw [List.length_map]; omega), due_pos p1, fun G2 t p q u2 nt np nq nqp et ep' eq' => ?_⟩
      rw [due_left] at ep'
      rw [due_right rs l1] at eq'
      rw [due_both l1] at eb
      have m2 := m1.trans u2
      refine ⟨_, rfl, x, dy, _, rfl, m2 _ _ hx, noB, _, rfl, fun G3 c u3 nc ec => ?_⟩
      have m3 := m2.trans u3
      have b3 := u3 _ _ (u2 _ _ eb)
      have q3 := u3 _ _ eq'
      have r3 := u3 _ _ ep'
      have w3 := u3 _ _ et
      refine ⟨_, rfl, _, rfl, b, D, due i ls rs, rfl, b3, m3 _ _ eD, ldue, _, rfl, iteF ?_⟩
      refine ⟨_, rfl, _, rfl, _, rfl, (by show 2 ≤ sizeLine; decide), fun u hu => ?_⟩
      have u4 : Same G3 (upd G3 u (.tup [.ref L, .ref R])) := new_same hu
      refine ⟨t, u, p, q, L, R, ls, rs, rfl, u4 _ _ w3, upd_same, u4 _ _ r3, u4 _ _ (m3 _ _ eL), u4 _ _ q3, u4 _ _ (m3 _ _ eR), by omega, by omega, _, rfl, iteF ?_⟩
      refine ⟨_, rfl, Nat.zero_le _, fun v hv => ?_⟩
      have u5 : Same (upd G3 u (.tup [.ref L, .ref R])) (upd (upd G3 u (.tup [.ref L, .ref R])) v (.lst [])) := new_same hv
      refine ⟨c, v, [], rfl, u5 _ _ (u4 _ _ ec), upd_same, Nat.zero_le _, _, rfl, iteF ?_⟩
      have u45 := u4.trans u5
      have m5 := m3.trans u45
      have b5 := u45 _ _ b3
      have p5 := u45 _ _ r3
      have q5 := u45 _ _ q3
      have t5 := u45 _ _ w3
      have c5 := u45 _ _ ec
      generalize upd (upd G3 u (.tup [.ref L, .ref R])) v (.lst []) = G5 at m5 b5 p5 q5 t5 c5
      -- apart
      have npb : p ≠ b := (ne_of_none eb np).symm
      have nqb : q ≠ b := (ne_of_none eb nq).symm
      have ntb : t ≠ b := (ne_of_none eb nt).symm
      have ncb : c ≠ b := (ne_of_none (u2 _ _ eb) nc).symm
      have ncp : c ≠ p := (ne_of_none ep' nc).symm
      have ncq : c ≠ q := (ne_of_none eq' nc).symm
      have ntp : t ≠ p := ne_of t5 p5 (by intro z; cases z)
      have ntq : t ≠ q := ne_of t5 q5 (by intro z; cases z)
      have fb : H9 b = none := sm.free nb
      have fp : H9 p = none := m1.free np
      have fq : H9 q = none := m1.free nq
      have fc : H9 c = none := m2.free nc
      -- the asker's changes
      refine ⟨_, rfl, .inl ⟨rfl, _, SqL.of b5⟩, b, _, _, rfl, rfl, b5, (by rw [lenI]; exact small1000 ldue), ?_⟩
      have p6 := (upd_ne (H := G5) (o := .lst ((due i ls rs).map V.int ++ [.int 0])) npb).trans p5
      have q6 := (upd_ne (H := G5) (o := .lst ((due i ls rs).map V.int ++ [.int 0])) nqb).trans q5
      have t6 := (upd_ne (H := G5) (o := .lst ((due i ls rs).map V.int ++ [.int 0])) ntb).trans t5
      have c6 := (upd_ne (H := G5) (o := .lst ((due i ls rs).map V.int ++ [.int 0])) ncb).trans c5
      have m6 : Same H9 (upd G5 b (.lst ((due i ls rs).map V.int ++ [.int 0]))) := put_same m5 fb
      generalize upd G5 b (.lst ((due i ls rs).map V.int ++ [.int 0])) = G6 at p6 q6 t6 c6 m6
      refine ⟨_, rfl, t, _, _, .ref p, rfl, rfl, .inl (.inl t6), at_of (j := 0) rfl rfl, .inl ⟨rfl, _, SqL.of p6⟩, p, _, _, rfl, rfl, p6, (by rw [lenI]; exact small1000 (by omega)), ?_⟩
      have q7 := (upd_ne (H := G6) (o := .lst (ls.map V.int ++ [.int 0])) nqp).trans q6
      have t7 := (upd_ne (H := G6) (o := .lst (ls.map V.int ++ [.int 0])) ntp).trans t6
      have c7 := (upd_ne (H := G6) (o := .lst (ls.map V.int ++ [.int 0])) ncp).trans c6
      have m7 : Same H9 (upd G6 p (.lst (ls.map V.int ++ [.int 0]))) := put_same m6 fp
      generalize upd G6 p (.lst (ls.map V.int ++ [.int 0])) = G7 at q7 t7 c7 m7
      refine ⟨_, rfl, t, _, _, .ref q, rfl, rfl, .inl (.inl t7), at_of (j := 1) rfl rfl, .inl ⟨rfl, _, SqL.of q7⟩, q, _, _, rfl, rfl, q7, (by rw [lenI]; exact small1000 (by omega)), ?_⟩
      have c8 := (upd_ne (H := G7) (o := .lst (rs.map V.int ++ [.int 0])) ncq).trans c7
      have m8 : Same H9 (upd G7 q (.lst (rs.map V.int ++ [.int 0]))) := put_same m7 fq
      generalize upd G7 q (.lst (rs.map V.int ++ [.int 0])) = G8 at c8 m8
      refine ⟨_, rfl, .inl ⟨rfl, _, SqL.of c8⟩, c, _, _, rfl, rfl, c8, (by decide), ?_⟩
      exact ⟨_, _, _, _, rfl, put_same m8 fc⟩
    · rintro σ H' ⟨v8, v9, v10, v11, rfl, sm⟩
      refine ⟨_, rfl, _, rfl, _, rfl, _, rfl, (by show 3 ≤ sizeLine; decide), fun m hm => ?_⟩
      have u := new_same (o := .lst [.ref L, .ref R, .ref D]) hm
      have su := sm.trans u
      refine ⟨D3 ls rs (due i ls rs), D3 ls rs (due i ls rs), dp3 (su _ _ ehd) (su _ _ ea1) (su _ _ ea2) (su _ _ ea3), dp3 upd_same (su _ _ eL) (su _ _ eR) (su _ _ eD), D3_shaped _ _ _, D3_shaped _ _ _, ?_⟩
      rw [SeqAt.eqv_refl _ (D3_lay _ _ _)]
      exact k _
end
end Kt
/-! K5: what the top has written, the end. -/
namespace Kt
open PySem L2
theorem all_mk {l : PySem.W.OpenLaw} {w : World} {K : PySem.W.Frag} {h : Heap} {mg : Str → Option Value} {fa C CS CF f1 f2 f3 f4 f5 f6 f7 f8 f9 f10 f11 : Addr} (X : K.In h) (G : h.Ns mainGlobals mg) (hfa : mg "law" = some (.ref fa))
    {od1 an1 : Option Addr} {sl1 : Array (Option Value)} {oc1 kV1 dc1 pm1 cd1 ct1 : Value}
    {od2 an2 : Option Addr} {sl2 : Array (Option Value)} {oc2 kV2 dc2 pm2 cd2 ct2 : Value}
    {od3 an3 : Option Addr} {sl3 : Array (Option Value)} {oc3 kV3 dc3 pm3 cd3 ct3 : Value}
    {od4 an4 : Option Addr} {sl4 : Array (Option Value)} {oc4 kV4 dc4 pm4 cd4 ct4 : Value}
    {od5 an5 : Option Addr} {sl5 : Array (Option Value)} {oc5 kV5 dc5 pm5 cd5 ct5 : Value}
    {od6 an6 : Option Addr} {sl6 : Array (Option Value)} {oc6 kV6 dc6 pm6 cd6 ct6 : Value}
    {od7 an7 : Option Addr} {sl7 : Array (Option Value)} {oc7 kV7 dc7 pm7 cd7 ct7 : Value}
    {od8 an8 : Option Addr} {sl8 : Array (Option Value)} {oc8 kV8 dc8 pm8 cd8 ct8 : Value}
    {od9 an9 : Option Addr} {sl9 : Array (Option Value)} {oc9 kV9 dc9 pm9 cd9 ct9 : Value}
    {od10 an10 : Option Addr} {sl10 : Array (Option Value)} {oc10 kV10 dc10 pm10 cd10 ct10 : Value}
    {od11 an11 : Option Addr} {sl11 : Array (Option Value)} {oc11 kV11 dc11 pm11 cd11 ct11 : Value}
    (aC : PySem.W.nsIn K mainGlobals "Turns" = some (some (.ref C)))
    (aCS : PySem.W.nsIn K mainGlobals "SplitFamily" = some (some (.ref CS)))
    (aCF : PySem.W.nsIn K mainGlobals "Family" = some (some (.ref CF)))
    (a1 : PySem.W.findCls K (.ref CF) (.type "type") "__init__" = some (.val (.ref f1)))
    (l1 : K.lookup f1 = some ⟨oc1, od1, .func (PySem.W.fnOf "__init__" "Family.__init__" (defArgs sFI) (defBody sFI) (defScope sFI) .none kV1 dc1 pm1 an1 cd1 ct1), sl1⟩)
    (c1 : PySem.W.codeIn K cd1 "Family.__init__" = true)
    (k1 : PySem.W.keepIn K (.ref f1) = true)
    (a2 : PySem.W.findCls K (.ref CS) (.type "type") "__init__" = some (.val (.ref f2)))
    (l2 : K.lookup f2 = some ⟨oc2, od2, .func (PySem.W.fnOf "__init__" "SplitFamily.__init__" (defArgs sSI) (defBody sSI) (defScope sSI) .none kV2 dc2 pm2 an2 cd2 ct2), sl2⟩)
    (c2 : PySem.W.codeIn K cd2 "SplitFamily.__init__" = true)
    (k2 : PySem.W.keepIn K (.ref f2) = true)
    (a3 : PySem.W.findIn K (.ref C) "__init__" = some (some (.ref f3)))
    (i3 : PySem.W.isFn K (.ref f3) = true)
    (l3 : K.lookup f3 = some ⟨oc3, od3, .func (PySem.W.fnOf "__init__" "Turns.__init__" (defArgs sTI) (defBody sTI) (defScope sTI) .none kV3 dc3 pm3 an3 cd3 ct3), sl3⟩)
    (c3 : PySem.W.codeIn K cd3 "Turns.__init__" = true)
    (k3 : PySem.W.keepIn K (.ref f3) = true)
    (a4 : PySem.W.findIn K (.ref C) "bare" = some (some (.ref f4)))
    (i4 : PySem.W.isFn K (.ref f4) = true)
    (l4 : K.lookup f4 = some ⟨oc4, od4, .func (PySem.W.fnOf "bare" "Turns.bare" (defArgs sBare) (defBody sBare) (defScope sBare) .none kV4 dc4 pm4 an4 cd4 ct4), sl4⟩)
    (c4 : PySem.W.codeIn K cd4 "Turns.bare" = true)
    (k4 : PySem.W.keepIn K (.ref f4) = true)
    (a5 : PySem.W.findIn K (.ref C) "parted" = some (some (.ref f5)))
    (i5 : PySem.W.isFn K (.ref f5) = true)
    (l5 : K.lookup f5 = some ⟨oc5, od5, .func (PySem.W.fnOf "parted" "Turns.parted" (defArgs sParted) (defBody sParted) (defScope sParted) .none kV5 dc5 pm5 an5 cd5 ct5), sl5⟩)
    (c5 : PySem.W.codeIn K cd5 "Turns.parted" = true)
    (k5 : PySem.W.keepIn K (.ref f5) = true)
    (a6 : PySem.W.findIn K (.ref C) "joined" = some (some (.ref f6)))
    (i6 : PySem.W.isFn K (.ref f6) = true)
    (l6 : K.lookup f6 = some ⟨oc6, od6, .func (PySem.W.fnOf "joined" "Turns.joined" (defArgs sJoined) (defBody sJoined) (defScope sJoined) .none kV6 dc6 pm6 an6 cd6 ct6), sl6⟩)
    (c6 : PySem.W.codeIn K cd6 "Turns.joined" = true)
    (k6 : PySem.W.keepIn K (.ref f6) = true)
    (a7 : PySem.W.nsIn K mainGlobals "_law_cell_at" = some (some (.ref f7)))
    (l7 : K.lookup f7 = some ⟨oc7, od7, .func (PySem.W.fnOf "_law_cell_at" "_law_cell_at" (defArgs sCell) (defBody sCell) (defScope sCell) .none kV7 dc7 pm7 an7 cd7 ct7), sl7⟩)
    (c7 : PySem.W.codeIn K cd7 "_law_cell_at" = true)
    (k7 : PySem.W.keepIn K (.ref f7) = true)
    (a8 : PySem.W.nsIn K mainGlobals "_law_draws" = some (some (.ref f8)))
    (l8 : K.lookup f8 = some ⟨oc8, od8, .func (PySem.W.fnOf "_law_draws" "_law_draws" (defArgs sDraws) (defBody sDraws) (defScope sDraws) .none kV8 dc8 pm8 an8 cd8 ct8), sl8⟩)
    (c8 : PySem.W.codeIn K cd8 "_law_draws" = true)
    (k8 : PySem.W.keepIn K (.ref f8) = true)
    (a9 : PySem.W.nsIn K mainGlobals "_law_alike" = some (some (.ref f9)))
    (l9 : K.lookup f9 = some ⟨oc9, od9, .func (PySem.W.fnOf "_law_alike" "_law_alike" (defArgs sAlike) (defBody sAlike) (defScope sAlike) .none kV9 dc9 pm9 an9 cd9 ct9), sl9⟩)
    (c9 : PySem.W.codeIn K cd9 "_law_alike" = true)
    (k9 : PySem.W.keepIn K (.ref f9) = true)
    (a10 : PySem.W.nsIn K mainGlobals "_law_turns" = some (some (.ref f10)))
    (l10 : K.lookup f10 = some ⟨oc10, od10, .func (PySem.W.fnOf "_law_turns" "_law_turns" (defArgs sTurns) (defBody sTurns) (defScope sTurns) .none kV10 dc10 pm10 an10 cd10 ct10), sl10⟩)
    (c10 : PySem.W.codeIn K cd10 "_law_turns" = true)
    (k10 : PySem.W.keepIn K (.ref f10) = true)
    (a11 : PySem.W.nsIn K mainGlobals "law" = some (some (.ref f11)))
    (l11 : K.lookup f11 = some ⟨oc11, od11, .func (PySem.W.fnOf "law" "law" (defArgs sLaw) (defBody sLaw) (defScope sLaw) .none kV11 dc11 pm11 an11 cd11 ct11), sl11⟩)
    (c11 : PySem.W.codeIn K cd11 "law" = true)
    (k11 : PySem.W.keepIn K (.ref f11) = true)
    (pg : PySem.W.plainGet K C Str.empty = true)
    (hd : PySem.W.hasDictIn K C = true)
    (po : PySem.W.plainOver K C = true)
    (sa : PySem.W.findIn K (.ref C) "__setattr__" = some (some (.builtin "object.__setattr__")))
    (mk : PySem.W.makesIn K C = true)
    (kc : PySem.W.keepIn K (.ref C) = true)
    (nW : PySem.W.findIn K (.ref C) "word" = some none)
    (nL : PySem.W.findIn K (.ref C) "least" = some none)
    (rdCS : PySem.W.readsIn K CS (.type "type") = true)
    (gaCS : PySem.W.specialIn K (.ref CS) "__getattribute__" = some (some (.builtin "type.__getattribute__")))
    (rdCF : PySem.W.readsIn K CF (.type "type") = true)
    (gaCF : PySem.W.specialIn K (.ref CF) "__getattribute__" = some (some (.builtin "type.__getattribute__")))
    (zlen : PySem.W.nsIn K mainGlobals "len" = some none)
    (zrange : PySem.W.nsIn K mainGlobals "range" = some none)
    (zisinstance : PySem.W.nsIn K mainGlobals "isinstance" = some none)
    (zint : PySem.W.nsIn K mainGlobals "int" = some none)
    (zbool : PySem.W.nsIn K mainGlobals "bool" = some none)
    (zlist : PySem.W.nsIn K mainGlobals "list" = some none)
    (ztuple : PySem.W.nsIn K mainGlobals "tuple" = some none)
    : ∃ fd : FuncData, (∀ (s : Shared) (v : Value), BindsTo s fd ⟨[v], []⟩ [("_law_script", v)]) ∧
      ∀ base : Heap, K.In base → base.Ns mainGlobals mg → FnOk l.prog w K mg base CX0 5 fa fd ["_law_script"] (spLaw K) := by
  have e := hfa.symm.trans (PySem.W.mg_of X G a11)
  cases e
  have F1 := fun_mk (st := sFI) l1 c1 k1
  have F2 := fun_mk (st := sSI) l2 c2 k2
  have F3 := fun_mk (st := sTI) l3 c3 k3
  have F4 := fun_mk (st := sBare) l4 c4 k4
  have F5 := fun_mk (st := sParted) l5 c5 k5
  have F6 := fun_mk (st := sJoined) l6 c6 k6
  have F7 := fun_mk (st := sCell) l7 c7 k7
  have F8 := fun_mk (st := sDraws) l8 c8 k8
  have F9 := fun_mk (st := sAlike) l9 c9 k9
  have F10 := fun_mk (st := sTurns) l10 c10 k10
  have F11 := fun_mk (st := sLaw) l11 c11 k11
  have b1 := F1.binds (ps := ["self", "word", "least"]) fun _ _ _ _ _ _ us hl => match us, hl with | [_, _, _], _ => rfl
  have b2 := F2.binds (ps := ["self", "word"]) fun _ _ _ _ _ _ us hl => match us, hl with | [_, _], _ => rfl
  have b3 := F3.binds (ps := ["self"]) fun _ _ _ _ _ _ us hl => match us, hl with | [_], _ => rfl
  have b4 := F4.binds (ps := ["self"]) fun _ _ _ _ _ _ us hl => match us, hl with | [_], _ => rfl
  have b5 := F5.binds (ps := ["self", "thing"]) fun _ _ _ _ _ _ us hl => match us, hl with | [_, _], _ => rfl
  have b6 := F6.binds (ps := ["self", "left", "right"]) fun _ _ _ _ _ _ us hl => match us, hl with | [_, _, _], _ => rfl
  have b7 := F7.binds (ps := ["_law_script", "_law_k"]) fun _ _ _ _ _ _ us hl => match us, hl with | [_, _], _ => rfl
  have b8 := F8.binds (ps := ["_law_script", "_law_turn", "_law_many"]) fun _ _ _ _ _ _ us hl => match us, hl with | [_, _, _], _ => rfl
  have b9 := F9.binds (ps := ["_law_found", "_law_due"]) fun _ _ _ _ _ _ us hl => match us, hl with | [_, _], _ => rfl
  have b10 := F10.binds (ps := ["_law_script", "_law_size", "_law_turn"]) fun _ _ _ _ _ _ us hl => match us, hl with | [_, _, _], _ => rfl
  have B : Blt mg := ⟨PySem.W.mg_none_of X G zlen, PySem.W.mg_none_of X G zrange, PySem.W.mg_none_of X G zisinstance, PySem.W.mg_none_of X G zint, PySem.W.mg_none_of X G zbool, PySem.W.mg_none_of X G zlist, PySem.W.mg_none_of X G ztuple⟩
  have T : Txt K mg C CS CF f2 f1 := ⟨⟨pg, hd, po, sa⟩, nW, nL, PySem.W.mg_of X G aC, PySem.W.mg_of X G aCS, ⟨rdCS, gaCS⟩, ⟨a2, rfl⟩, PySem.W.mg_of X G aCF, ⟨rdCF, gaCF⟩, ⟨a1, rfl⟩⟩
  have g7 := PySem.W.mg_of X G a7
  have g8 := PySem.W.mg_of X G a8
  have g9 := PySem.W.mg_of X G a9
  have g10 := PySem.W.mg_of X G a10
  refine ⟨PySem.W.fnOf "law" "law" (defArgs sLaw) (defBody sLaw) (defScope sLaw) .none kV11 dc11 pm11 an11 cd11 ct11, fun s v => .of_eq rfl, fun base _ _ => ok_law (C := C) (fI := f3) (fJ := f6) (fP := f5) (fB := f4) (fC := f7) (fA := f9) (fT := f10) F11 {
    B := B, cl := T.cl, mgC := T.mgC, M := ⟨mk, a3, i3, kc⟩
    GI := ok_ti F3 T F1 b1 F2 b2, bI := b3
    GJ := ok_joined F6 B.len, bJ := b6, mJ := ⟨a6, i6, k6⟩
    GP := ok_parted F5, bP := b5, mP := ⟨a5, i5, k5⟩
    GB := ok_bare F4, bB := b4, mB := ⟨a4, i4, k4⟩
    GC := ok_cell F7 B.len, bC := b7, gC := g7, kC := k7
    GA2 := ok_al2 F9 B b9 g9, GA3 := ok_al3 F9 B b9 g9, bA := b9, gA := g9, kA := k9
    GT := ok_turns F10 B F8 b8 g8, bT := b10, gT := g10, kT := k10 }⟩
end Kt
open PySem PySem.W PyProof.Rows
set_option maxRecDepth 100000 in
set_option maxHeartbeats 0 in
theorem PySem.Challenge.cw_countkin_k21_turns_parted_holds : PySem.Challenge.rw_countkin_k21_turns_parted.Holds := by
  w_on; o_law; k_head; (case hw => w_witness2)
  k_fill
  refine L2.walk_of (l := PySem.Challenge.rw_countkin_k21_turns_parted) (n := 63) (k := 5) (x := "_law_script") (CX := fun _ => L2.CX0) (sp := fun w => Kt.spLaw _) rfl (by decide) rfl ⟨rfl, by decide, by decide⟩
    (fun w h Y => PySem.W.kIn_of Y) ?F (fun _ _ a ns hl _ hS => ⟨a, ns, rfl, hS, hl, fun _ => rfl⟩) (fun _ _ _ _ _ h => h)
  case F =>
    intro w mg fa h KX G hmg
    refine' Kt.all_mk KX G hmg ?aC ?aCS ?aCF ?a1 ?l1 ?c1 ?k1 ?a2 ?l2 ?c2 ?k2 ?a3 ?i3 ?l3 ?c3 ?k3 ?a4 ?i4 ?l4 ?c4 ?k4 ?a5 ?i5 ?l5 ?c5 ?k5 ?a6 ?i6 ?l6 ?c6 ?k6 ?a7 ?l7 ?c7 ?k7 ?a8 ?l8 ?c8 ?k8 ?a9 ?l9 ?c9 ?k9 ?a10 ?l10 ?c10 ?k10 ?a11 ?l11 ?c11 ?k11 ?pg ?hd ?po ?sa ?mk ?kc ?nW ?nL ?rdCS ?gaCS ?rdCF ?gaCF ?zlen ?zrange ?zisinstance ?zint ?zbool ?zlist ?ztuple
    (case aC => k_is)
    (case aCS => k_is)
    (case aCF => k_is)
    (case a1 => k_is)
    (case l1 => k_is)
    (case c1 => k_is)
    (case k1 => k_is)
    (case a2 => k_is)
    (case l2 => k_is)
    (case c2 => k_is)
    (case k2 => k_is)
    (case a3 => k_is)
    (case i3 => k_is)
    (case l3 => k_is)
    (case c3 => k_is)
    (case k3 => k_is)
    (case a4 => k_is)
    (case i4 => k_is)
    (case l4 => k_is)
    (case c4 => k_is)
    (case k4 => k_is)
    (case a5 => k_is)
    (case i5 => k_is)
    (case l5 => k_is)
    (case c5 => k_is)
    (case k5 => k_is)
    (case a6 => k_is)
    (case i6 => k_is)
    (case l6 => k_is)
    (case c6 => k_is)
    (case k6 => k_is)
    (case a7 => k_is)
    (case l7 => k_is)
    (case c7 => k_is)
    (case k7 => k_is)
    (case a8 => k_is)
    (case l8 => k_is)
    (case c8 => k_is)
    (case k8 => k_is)
    (case a9 => k_is)
    (case l9 => k_is)
    (case c9 => k_is)
    (case k9 => k_is)
    (case a10 => k_is)
    (case l10 => k_is)
    (case c10 => k_is)
    (case k10 => k_is)
    (case a11 => k_is)
    (case l11 => k_is)
    (case c11 => k_is)
    (case k11 => k_is)
    (case pg => k_is)
    (case hd => k_is)
    (case po => k_is)
    (case sa => k_is)
    (case mk => k_is)
    (case kc => k_is)
    (case nW => k_is)
    (case nL => k_is)
    (case rdCS => k_is)
    (case gaCS => k_is)
    (case rdCF => k_is)
    (case gaCF => k_is)
    (case zlen => k_is)
    (case zrange => k_is)
    (case zisinstance => k_is)
    (case zint => k_is)
    (case zbool => k_is)
    (case zlist => k_is)
    (case ztuple => k_is)
