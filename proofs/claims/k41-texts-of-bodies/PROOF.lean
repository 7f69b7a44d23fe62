import PyProof.Rows.All
import Wide.All
import OpenK.AllK
import Wide.FinOn
import HandS.ForMost
import HandS.IsInst
import HandS.TupLe
import HandS.Walk
import KE.KStateDown
import HandS.Defaults
import HandS.Head0
import HandS.Head1
import HandS.Head2
import HandS.HeadEnd
import HandS.HeadHook1
import HandS.HeadHook2
import PySem.Challenge.RW_framepost_k41_texts_of_bodies
set_option Elab.async false
set_option maxRecDepth 100000
set_option maxHeartbeats 4100000
/-! Texts of bodies: what the machines hold, small rules of our own. -/
namespace FP
open PySem L2
/-! ### the text by places -/
def top (i : Nat) : Stmt := PySem.Challenge.pw_framepost_k41_texts_of_bodies.main.body.getD i (.Pass ⟨0, 0, 0, 0⟩)
abbrev sPlain : Stmt := top 5
abbrev bFed : Stmt := inClass (top 16) 0
abbrev bOpen : Stmt := inClass (top 16) 2
abbrev bAwaited : Stmt := inClass (top 16) 3
abbrev bTold : Stmt := inClass (top 16) 4
abbrev nWhole : Stmt := inClass (top 17) 0
abbrev lInit : Stmt := inClass (top 18) 0
abbrev lFed : Stmt := inClass (top 18) 1
abbrev lWhole : Stmt := inClass (top 18) 2
abbrev lAwaited : Stmt := inClass (top 18) 3
abbrev lTold : Stmt := inClass (top 18) 4
abbrev rInit : Stmt := inClass (top 19) 0
abbrev rFed : Stmt := inClass (top 19) 1
abbrev rWhole : Stmt := inClass (top 19) 2
abbrev rOpen : Stmt := inClass (top 19) 3
abbrev rTold : Stmt := inClass (top 19) 4
abbrev tInit : Stmt := inClass (top 21) 0
abbrev sBodyOf : Stmt := top 24
abbrev sMixed : Stmt := top 26
abbrev sCellAt : Stmt := top 27
abbrev sSign : Stmt := top 28
abbrev sBook : Stmt := top 29
abbrev sMade : Stmt := top 30
abbrev sDue : Stmt := top 31
abbrev sRight : Stmt := top 32
abbrev sLaw : Stmt := top 33
/-! ### tests whose answer is known -/
theorem iteYes {c A B : Prop} [Decidable c] (hc : c) (h : A) : if decide c = true then A else B := by
  rw [decide_eq_true hc]
  exact iteT h
theorem iteNo {c A B : Prop} [Decidable c] (hc : ¬ c) (h : B) : if decide c = true then A else B := by
  rw [decide_eq_false hc]
  exact iteF h
theorem iteNY {c A B : Prop} [Decidable c] (hc : ¬ c) (h : A) : if (!decide c) = true then A else B := by
  rw [decide_eq_false hc]
  exact iteT h
theorem iteB {b : Bool} {A B : Prop} (hb : b = true) (h : A) : if b = true then A else B := by
  rw [hb]
  exact iteT h
theorem iteBF {b : Bool} {A B : Prop} (hb : b = false) (h : B) : if b = true then A else B := by
  rw [hb]
  exact iteF h
/-! ### a reading made weaker -/
section
variable {X : Cx}
theorem PT.imp {e : Expr} {t0 t : TT} (h : PT X e t0) (i : ∀ σ H Q, t σ H Q → t0 σ H Q) : PT X e t := ⟨fun pins s σ H Q I q => h.run pins s σ H Q I (i σ H Q q)⟩
theorem PE.imp {e : Expr} {t0 t : TE} (h : PE X e t0) (i : ∀ σ H Q, t σ H Q → t0 σ H Q) : PE X e t := ⟨fun pins s σ H Q I q => h.run pins s σ H Q I (i σ H Q q)⟩
/-! ### a text times a number -/
theorem op_mul_str : OpR X (binaryOp .Mult) (fun x y H Q => ∃ i n, x = .str i ∧ y = .int n ∧ MulOk i n ∧ Q (.str (Txt.mul i n)) H) := by
  intro pins s σ H x y v u Q I rx ry hh
  obtain ⟨i, n, rfl, rfl, ok, q⟩ := hh
  obtain ⟨t, rfl⟩ := rx
  obtain ⟨t', rfl⟩ := ry
  exact SB.mul ok fun t' k => ⟨.str _, H, I.tok _, ⟨_, rfl⟩, q⟩
end
/-! ### an instance of a class that has no own __init__ -/
structure MkO (K : PySem.W.Frag) (C : Addr) : Prop where
  mkd : PySem.W.makesIn K C = true
  obj : PySem.W.findIn K (.ref C) "__init__" = some (some (.builtin "object.__init__"))
  kept : PySem.W.keepIn K (.ref C) = true
def tMakeO (C : Addr) : TE := fun _ H Q => ∀ x dx, H x = none → H dx = none → dx ≠ x → Q (.ref x) (upd (upd H dx (.own x)) x (.ins C dx []))
theorem pe_makeO {X : Cx} {C : Addr} {x : Str} {p pos : Pos} (M : MkO X.K C) (gl : Gl X x) (mgx : X.mg x = some (.ref C)) (ndb : (x == ("__debug__" : Str)) = false := by decide) : PE X (.Call (.Name x p) [] [] pos) (tMakeO C) := by
  constructor
  intro pins s σ H Q J hh
  refine wpAny_Call_Name_kw (ld_glob J gl mgx ?_ ndb)
  refine PySem.W.callWith_K0 J.kIn M.kept ?_
  have n0 : s.heap.objs.size ≠ s.heap.objs.size + 1 := by omega
  have hq := hh (s.heap.objs.size + 1) s.heap.objs.size (J.hok.fresh (by omega)) (J.hok.fresh (by omega)) n0
  have J2 := Inv.made (C := C) J
  have Y := PySem.W.makes_of (M := model X.prog X.w) J.kIn M.mkd
  refine wpAny_call (make_map0 J.kIn M.mkd M.obj (fun self => PySem.W.Looks.of_pure (PySem.W.oi_bind self)) ?_)
  -- the new instance is an object
  have there : ∃ mA, ObjM ((s.heap.push PySem.W.emptyDict).push (PySem.W.instObj C s.heap.objs.size)) (s.heap.objs.size + 1) s.heap.objs.size C mA := by
    obtain ⟨mA, om, _⟩ := ins_get J2.hok upd_same
    exact ⟨mA, om⟩
  obtain ⟨mA, om⟩ := there
  have t1 : PySem.W.Looks (model X.prog X.w) ((s.heap.push PySem.W.emptyDict).push (PySem.W.instObj C s.heap.objs.size)) (typeOf (.ref (s.heap.objs.size + 1))) (.ref C) := (PySem.W.Looks.ld om.obj).andThen .now
  have t2 : PySem.W.Looks (model X.prog X.w) ((s.heap.push PySem.W.emptyDict).push (PySem.W.instObj C s.heap.objs.size)) (isInstance (.ref (s.heap.objs.size + 1)) (.type "object")) true :=
    t1.andThen (Y.top.keeps fun b o e => Heap.get?_push_of_some _ (Heap.get?_push_of_some _ e))
  refine PySem.codeAny_call_builtin PySem.W.oi_plain PySem.W.entry_oi (@PySem.W.check_slot (model X.prog X.w) _ _ _ "object.__init__" "object" "__init__" (.ref (s.heap.objs.size + 1)) [] [] _ PySem.W.oi_kind PySem.W.oi_split t2 (PySem.W.oi_args (.ref (s.heap.objs.size + 1))) ?_)
  rw [PySem.W.oi_run]
  exact wpAny_pure (And.intro rfl ⟨V.ref (s.heap.objs.size + 1), _, J2, rfl, hq⟩)
/-! ### isinstance by an own class above -/
theorem kit_sub {K : PySem.W.Frag} {C B : Addr} (hd : PySem.W.hasDictIn K B = true) (ty : PySem.W.typeIn K (.ref B) = some (.type "type")) (su : PySem.W.subIn K (.ref C) (.ref B) = some true) : PySem.W.kitOne K (.ref C) (.ref B) = some true := by
  unfold PySem.W.kitOne
  split
  · rfl
  · obtain ⟨cd, hc, _⟩ := PySem.W.any_some hd
    unfold PySem.W.kitCls
    simp only [hc, ty, su]
    rfl
/-! ### signs -/
def Pl (c : Nat) : Prop := c = 10 ∨ (32 ≤ c ∧ c ≤ 126)
theorem lt_one {a b : Nat} : (([a] : List Nat) < [b]) ↔ a < b := by simp [List.cons_lt_cons_iff]
theorem emp : ("" : Str) = ⟨#[]⟩ := by decide +kernel
theorem cat_len (x : Str) (c : Nat) : (x ++ (⟨#[c]⟩ : Str)).length = x.length + 1 := by
  show (x.cps ++ #[c]).size = x.cps.size + 1
  simp
theorem cat_ok {x : Str} {c : Nat} (h : PyData.strOk x = true) (hc : Pl c) : PyData.strOk (x ++ (⟨#[c]⟩ : Str)) = true := by
  show (x.cps ++ #[c]).all (· < 0x110000) = true
  rw [Array.all_append]
  have h1 : x.cps.all (· < 0x110000) = true := h
  have h2 : c < 0x110000 := by
    rcases hc with h | h
    · omega
    · omega
  rw [h1]
  simp [h2]
/-! ### what awaited tells -/
def aText (n : Nat) : Str := ⟨(List.replicate n 97).toArray⟩
theorem aText_len (n : Nat) : (aText n).length = n := by
  show ((List.replicate n 97).toArray).size = n
  simp
theorem fold_a (m : Nat) : ∀ k : Nat, (List.replicate k #[97]).foldl (· ++ ·) (List.replicate m 97).toArray = (List.replicate (m + k) 97).toArray := by
  intro k
  induction k generalizing m with
  | zero => rfl
  | succ k ih =>
    rw [List.replicate_succ, List.foldl_cons]
    have e : (List.replicate m 97).toArray ++ #[97] = (List.replicate (m + 1) 97).toArray := by
      apply Array.toList_inj.mp
      rw [Array.toList_append, List.replicate_succ']
    rw [e, ih (m + 1)]
    congr 2
    omega
theorem mul_a {n : Int} : Txt.mul "a" n = aText n.toNat := by
  unfold Txt.mul
  have ea : ("a" : Str) = ⟨#[97]⟩ := by decide +kernel
  by_cases h : n < 1
  · rw [if_pos h, show n.toNat = 0 by omega]
    rfl
  · rw [if_neg h]
    by_cases h1 : n = 1
    · subst h1
      rw [if_pos (by simp), ea]
      rfl
    · rw [if_neg (by rw [ea]; simp [Str.length, h1]), ea]
      have := fold_a 0 n.toNat
      rw [Nat.zero_add] at this
      exact congrArg Str.mk this
theorem mulOk_a {n : Int} (h : n ≤ 1000) (h0 : -1000 ≤ n) : MulOk "a" n := by
  have ea : ("a" : Str).length = 1 := by decide +kernel
  refine ⟨?_, fun h1 _ => ?_, fun _ _ => ?_⟩
  · rw [decide_eq_false (by omega), decide_eq_false (by omega)]
    rfl
  · rw [ea]
    intro hb
    have h2 : (1 : Int) ≤ (2 ^ 63 - 1) / n := by
      rw [Int.le_ediv_iff_mul_le (by omega)]
      omega
    have h3 : ((1 : Nat) : Int) = 1 := rfl
    omega
  · rw [ea]
    unfold PySem.Builtin.Str.tooLong
    rw [sizeLine_eq]
    refine decide_eq_false ?_
    omega
/-! ### the three machines -/
inductive Kd where
  | n | l | r
  deriving DecidableEq
def Kd.way : Kd → Int
  | .n => 0
  | .l => 1
  | .r => 2
def txF (f : Str) (m : Int) (x : Str) : List (Str × V) := putF "text" (.str x) (putF f (.int m) [])
def fl : Kd → Int → Str → List (Str × V)
  | .n, _, _ => []
  | .l, m, x => txF "size" m x
  | .r, m, x => txF "most" m x
theorem k1 : ¬ (("size" : Str) = "text") := by decide +kernel
theorem k2 : ¬ (("most" : Str) = "text") := by decide +kernel
section
variable {f g : Str} {m : Int} {x y : Str}
theorem tx_f (hf : ¬ f = "text") : (txF f m x).lookup f = some (.int m) := by
  unfold txF
  rw [lookup_putF, if_neg hf, lookup_putF, if_pos rfl]
theorem tx_text : (txF f m x).lookup ("text" : Str) = some (.str x) := by
  unfold txF
  rw [lookup_putF, if_pos rfl]
theorem tx_no (h1 : ¬ g = "text") (h2 : ¬ g = f) : (txF f m x).lookup g = none := by
  unfold txF
  simp only [lookup_putF, if_neg h1, if_neg h2]
  rfl
theorem tx_eq (hf : ¬ f = "text") : txF f m x = ([(f, V.int m), ("text", V.str x)] : List (Str × V)) := by
  show (if f = ("text" : Str) then (f, V.str x) :: [] else (f, V.int m) :: putF "text" (V.str x) []) = ([(f, V.int m), ("text", V.str x)] : List (Str × V))
  rw [if_neg hf]
  all_goals rfl
theorem tx_put (hf : ¬ f = "text") : putF "text" (.str y) (txF f m x) = txF f m y := by
  rw [tx_eq hf, tx_eq hf]
  show (if f = "text" then _ else (f, V.int m) :: (if ("text" : Str) = "text" then [(("text" : Str), V.str y)] else _)) = ([(f, V.int m), ("text", V.str y)] : List (Str × V))
  rw [if_neg hf, if_pos rfl]
end
theorem fl_no {g : Str} (h1 : ¬ g = "text") (h2 : ¬ g = "size") (h3 : ¬ g = "most") : ∀ (k : Kd) (m : Int) (x : Str), (fl k m x).lookup g = none
  | .n, _, _ => rfl
  | .l, _, _ => tx_no h1 h2
  | .r, _, _ => tx_no h1 h3
def wholeB : Kd → Int → Str → Bool
  | .n, _, _ => true
  | .l, m, x => decide (V.int (x.length : Int) = V.int m)
  | .r, _, _ => true
def moreS : Kd → Int → Str → Str
  | .n, _, _ => ""
  | .l, m, x => aText (m - (x.length : Int)).toNat
  | .r, _, _ => ""
def toldV : Kd → Str → List V
  | .n, _ => [.str "none"]
  | .l, x => [.str "length", .str x]
  | .r, x => [.str "rest", .str x]
/-! ### what the machines' methods promise -/
section
variable (C : Kd → Addr)
def spWhole (k : Kd) : Sp := fun vs H Q _ => ∃ (p dx : Addr) (m : Int) (x : Str), vs = [.ref p] ∧ H p = some (.ins (C k) dx (fl k m x)) ∧ x.length ≤ 2000 ∧ Q (.bl (wholeB k m x)) H
def spOpen (k : Kd) : Sp := fun vs H Q _ => ∃ p : Addr, vs = [.ref p] ∧ Q (.bl (decide (k = .r))) H
def spFed (k : Kd) : Sp := fun vs H Q _ => ∃ (p dx : Addr) (m : Int) (x : Str) (c : Nat), vs = [.ref p, .str ⟨#[c]⟩] ∧ Pl c ∧ H p = some (.ins (C k) dx (fl k m x)) ∧ x.length ≤ 2000 ∧ (k = .n → m = 0) ∧ (x.length : Int) ≤ m ∧
  ((x.length : Int) < m → Q (.bl true) (upd H p (.ins (C k) dx (fl k m (x ++ ⟨#[c]⟩))))) ∧ ((x.length : Int) = m → Q (.bl false) H)
def spAwaited (k : Kd) : Sp := fun vs H Q _ => ∃ (p dx : Addr) (m : Int) (x : Str), vs = [.ref p] ∧ H p = some (.ins (C k) dx (fl k m x)) ∧ x.length ≤ 2000 ∧ (x.length : Int) ≤ m ∧ m ≤ 1000 ∧ Q (.str (moreS k m x)) H
def spTold (k : Kd) : Sp := fun vs H Q _ => ∃ (p dx : Addr) (m : Int) (x : Str), vs = [.ref p] ∧ H p = some (.ins (C k) dx (fl k m x)) ∧ ∀ t, H t = none → Q (.ref t) (upd H t (.tup (toldV k x)))
end
/-- what is asked of the classes as the top has made them -/
structure Txt (K : PySem.W.Frag) (mg : Str → Option Value) (C : Kd → Addr) : Prop where
  cl : ∀ k, Cls K (C k)
  nSize : NoAttr K (C .l) "size"
  nMost : NoAttr K (C .r) "most"
  nText : NoAttr K (C .l) "text"
  nText2 : NoAttr K (C .r) "text"
  len : mg "len" = none
theorem small2000 {n : Nat} (h : n ≤ 2000) : n ≤ sizeLine := by
  rw [sizeLine_eq]
  omega
end FP
set_option Elab.async false
set_option maxRecDepth 100000
set_option maxHeartbeats 4100000
namespace FP
open PySem L2
section
variable {P : Program} {w : World} {K : PySem.W.Frag} {mg : Str → Option Value} {base : Heap} {C : Kd → Addr} {f : Addr} {fd : FuncData}
/-! ### is_plain -/
def spPlain : Sp := fun vs H Q _ => ∃ c : Nat, vs = [.str ⟨#[c]⟩] ∧ Pl c ∧ Q (.bl true) H
theorem scPlain : FnScope ["sign"] ["sign"] (defScope sPlain) := ⟨rfl, rfl, rfl, by decide +kernel, rfl, by decide +kernel, by decide +kernel⟩
theorem ok_plain (F : Fun K "is_plain" "is_plain" sPlain f fd) (len : mg "len" = none) : FnOk P w K mg base CX0 1 f fd ["sign"] spPlain := by
  refine F.ok scPlain (fun vs H Q E h => ?_) (fun cdv A outer s H vs Q E hr h => ?_)
  · obtain ⟨c, rfl, _⟩ := h
    rfl
  · obtain ⟨c, rfl, hc, k⟩ := h
    refine ⟨_, pss_one (ps_ret (pe_or (pe_cmpR op_eq (pv 0) pe_str (nomark _))
      (pe_one (pe_and (pe_cmpR op_eq (pe_callB call_len_str (by rfl) len PySem.boot_len (pa_cons (pv 0) pa_nil)) pe_int (nomark _))
        (pe_one (pe_chain op_le_str op_le_str pe_str (pv 0) pe_str)))))), ?_⟩
    refine ⟨_, rfl, rfl, _, rfl, ite2 (fun _ => k) (fun hn => ?_)⟩
    have hc' : 32 ≤ c ∧ c ≤ 126 := by
      rcases hc with e | e
      · exfalso
        apply hn
        subst e
        decide +kernel
      · exact e
    refine ⟨_, rfl, _, rfl, (by show 1 ≤ sizeLine; decide), rfl, _, rfl, ?_⟩
    refine iteYes rfl ?_
    have e1 : (" " : Str).cps.toList = [32] := by decide +kernel
    have e2 : ("~" : Str).cps.toList = [126] := by decide +kernel
    refine ⟨_, rfl, _, _, rfl, rfl, _, rfl, iteNY (fun h => ?_) ?_⟩
    · rw [e1] at h
      have := lt_one.mp h
      omega
    · refine ⟨_, _, rfl, rfl, ?_⟩
      rw [decide_eq_false (fun h => by
        rw [e2] at h
        have := lt_one.mp h
        omega)]
      exact k
/-! ### Body's own -/
theorem scB1 : FnScope ["self", "sign"] ["self", "sign"] (defScope bFed) := ⟨rfl, rfl, rfl, by decide +kernel, rfl, by decide +kernel, by decide +kernel⟩
theorem ok_bFed (F : Fun K "fed" "Body.fed" bFed f fd) : FnOk P w K mg base CX0 2 f fd ["self", "sign"] (spFed C .n) := by
  refine F.ok scB1 (fun vs H Q E h => ?_) (fun cdv A outer s H vs Q E hr h => ?_)
  · obtain ⟨p, dx, m, x, c, rfl, _⟩ := h
    rfl
  · obtain ⟨p, dx, m, x, c, rfl, hc, hp, hx, hm, hle, _, k⟩ := h
    refine ⟨_, pss_one (ps_ret pe_bl), ?_⟩
    exact k (by have := hm rfl; omega)
theorem scB2 : FnScope ["self"] ["self"] (defScope bOpen) := ⟨rfl, rfl, rfl, by decide +kernel, rfl, by decide +kernel, by decide +kernel⟩
theorem ok_bOpen {k : Kd} (hk : k ≠ .r) (F : Fun K "is_open" "Body.is_open" bOpen f fd) : FnOk P w K mg base CX0 2 f fd ["self"] (spOpen k) := by
  refine F.ok scB2 (fun vs H Q E h => ?_) (fun cdv A outer s H vs Q E hr h => ?_)
  · obtain ⟨p, rfl, _⟩ := h
    rfl
  · obtain ⟨p, rfl, q⟩ := h
    refine ⟨_, pss_one (ps_ret pe_bl), ?_⟩
    rw [decide_eq_false hk] at q
    exact q
theorem scB3 : FnScope ["self"] ["self"] (defScope bAwaited) := ⟨rfl, rfl, rfl, by decide +kernel, rfl, by decide +kernel, by decide +kernel⟩
theorem ok_bAwaited {k : Kd} (hk : k ≠ .l) (F : Fun K "awaited" "Body.awaited" bAwaited f fd) : FnOk P w K mg base CX0 2 f fd ["self"] (spAwaited C k) := by
  refine F.ok scB3 (fun vs H Q E h => ?_) (fun cdv A outer s H vs Q E hr h => ?_)
  · obtain ⟨p, dx, m, x, rfl, _⟩ := h
    rfl
  · obtain ⟨p, dx, m, x, rfl, _, _, _, _, q⟩ := h
    refine ⟨_, pss_one (ps_ret pe_str), ?_⟩
    cases k with
    | n => exact q
    | l => exact absurd rfl hk
    | r => exact q
theorem scB4 : FnScope ["self"] ["self"] (defScope bTold) := ⟨rfl, rfl, rfl, by decide +kernel, rfl, by decide +kernel, by decide +kernel⟩
theorem ok_bTold (F : Fun K "told" "Body.told" bTold f fd) : FnOk P w K mg base CX0 2 f fd ["self"] (spTold C .n) := by
  refine F.ok scB4 (fun vs H Q E h => ?_) (fun cdv A outer s H vs Q E hr h => ?_)
  · obtain ⟨p, dx, m, x, rfl, _⟩ := h
    rfl
  · obtain ⟨p, dx, m, x, rfl, _, q⟩ := h
    refine ⟨_, pss_one (ps_ret (pe_tup (pa_cons pe_str pa_nil))), ?_⟩
    exact ⟨by show 1 ≤ sizeLine; decide, q⟩
theorem scN1 : FnScope ["self"] ["self"] (defScope nWhole) := ⟨rfl, rfl, rfl, by decide +kernel, rfl, by decide +kernel, by decide +kernel⟩
theorem ok_nWhole (F : Fun K "whole" "NoBody.whole" nWhole f fd) : FnOk P w K mg base CX0 2 f fd ["self"] (spWhole C .n) := by
  refine F.ok scN1 (fun vs H Q E h => ?_) (fun cdv A outer s H vs Q E hr h => ?_)
  · obtain ⟨p, dx, m, x, rfl, _⟩ := h
    rfl
  · obtain ⟨p, dx, m, x, rfl, _, _, q⟩ := h
    exact ⟨_, pss_one (ps_ret pe_bl), q⟩
/-! ### a length -/
def spInit (k : Kd) (C : Addr) (one : V → Hp → Int → Prop) : Sp := fun vs H Q _ => ∃ (p dx : Addr) (v : V) (m : Int), vs = [.ref p, v] ∧ H p = some (.ins C dx []) ∧ one v H m ∧ Q .non (upd H p (.ins C dx (fl k m "")))
def oneL : V → Hp → Int → Prop := fun v _ m => v = .int m
theorem scL0 : FnScope ["self", "size"] ["self", "size"] (defScope lInit) := ⟨rfl, rfl, rfl, by decide +kernel, rfl, by decide +kernel, by decide +kernel⟩
theorem ok_lInit (F : Fun K "__init__" "LengthBody.__init__" lInit f fd) (T : Txt K mg C) : FnOk P w K mg base CX0 1 f fd ["self", "size"] (spInit .l (C .l) oneL) := by
  refine F.ok scL0 (fun vs H Q E h => ?_) (fun cdv A outer s H vs Q E hr h => ?_)
  · obtain ⟨p, dx, v, m, rfl, _⟩ := h
    rfl
  · obtain ⟨p, dx, v, m, rfl, hp, rfl, q⟩ := h
    refine ⟨_, pss_cons (ps_fld (pv 0) (pv 1) rfl) (pss_one (ps_fld (pv 0) pe_str rfl)), ?_⟩
    refine ⟨_, rfl, _, rfl, p, _, dx, [], rfl, hp, T.cl .l, T.nSize, (by show 0 < 1000; decide), _, rfl, p, _, dx, _, rfl, upd_same, T.cl .l, T.nText, (by show 1 < 1000; decide), ?_⟩
    rw [upd_upd]
    exact q
theorem scL1 : FnScope ["self", "sign"] ["self", "sign"] (defScope lFed) := ⟨rfl, rfl, rfl, by decide +kernel, rfl, by decide +kernel, by decide +kernel⟩
theorem ok_lFed {fP : Addr} {fdP : FuncData} (F : Fun K "fed" "LengthBody.fed" lFed f fd) (T : Txt K mg C) (FP : Fun K "is_plain" "is_plain" sPlain fP fdP) (bP : Binds K fdP ["sign"] []) (gP : mg "is_plain" = some (.ref fP)) :
    FnOk P w K mg base CX0 2 f fd ["self", "sign"] (spFed C .l) := by
  have GP : FnOk P w K mg base CX0 1 fP fdP ["sign"] spPlain := ok_plain FP T.len
  refine F.ok scL1 (fun vs H Q E h => ?_) (fun cdv A outer s H vs Q E hr h => ?_)
  · obtain ⟨p, dx, m, x, c, rfl, _⟩ := h
    rfl
  · obtain ⟨p, dx, m, x, c, rfl, hc, hp, hx, _, hle, kt, kf⟩ := h
    have hx' : x.length ≤ sizeLine := small2000 hx
    refine ⟨_, pss_cons (ps_if (PW.pt (pw_or (pt_cmpR op_eq (pe_callB call_len_str (by rfl) T.len PySem.boot_len (pa_cons (pe_fld (pv 0) rfl) pa_nil)) (pe_fld (pv 0) rfl) (nomark _))
        (pw_or1 (pt_not (pt_val (pe_call GP hr (by rfl) gP FP.kp bP .nil pass0 (pa_cons (pv 1) pa_nil))))))) (pss_one (ps_ret pe_bl)) pss_nil)
      (pss_cons (ps_fld (pv 0) (pe_op op_add_str (pe_fld (pv 0) rfl) (pv 1)) rfl) (pss_one (ps_ret pe_bl))), ?_⟩
    refine ⟨_, rfl, p, _, dx, _, _, rfl, hp, T.cl .l, T.nText, tx_text, _, rfl, hx', _, rfl, p, _, dx, _, _, rfl, hp, T.cl .l, T.nSize, tx_f k1, rfl, _, rfl, ?_⟩
    refine ite2 (fun e => ?_) (fun e => ?_)
    · have e' : V.int (x.length : Int) = V.int m := of_decide_eq_true e
      exact iteT (kf (V.int.inj e'))
    · have hlt : (x.length : Int) < m := by
        rcases Int.lt_or_eq_of_le hle with q | q
        · exact q
        · exact absurd (decide_eq_true (congrArg V.int q)) e
      refine ⟨_, rfl, c, rfl, hc, _, rfl, ?_⟩
      refine iteF ?_
      refine ⟨_, rfl, p, _, dx, _, _, rfl, hp, T.cl .l, T.nText, tx_text, _, rfl, _, _, rfl, rfl, ?_, _, rfl, p, _, dx, _, rfl, hp, T.cl .l, T.nText, ?_, ?_⟩
      · show x.length + 1 ≤ sizeLine
        rw [sizeLine_eq]
        omega
      · rw [show fl .l m x = txF "size" m x from rfl, tx_eq k1]
        show 2 < 1000
        decide
      · rw [show fl .l m x = txF "size" m x from rfl, tx_put k1]
        exact kt hlt
theorem scL2 : FnScope ["self"] ["self"] (defScope lWhole) := ⟨rfl, rfl, rfl, by decide +kernel, rfl, by decide +kernel, by decide +kernel⟩
theorem ok_lWhole (F : Fun K "whole" "LengthBody.whole" lWhole f fd) (T : Txt K mg C) : FnOk P w K mg base CX0 2 f fd ["self"] (spWhole C .l) := by
  refine F.ok scL2 (fun vs H Q E h => ?_) (fun cdv A outer s H vs Q E hr h => ?_)
  · obtain ⟨p, dx, m, x, rfl, _⟩ := h
    rfl
  · obtain ⟨p, dx, m, x, rfl, hp, hx, q⟩ := h
    refine ⟨_, pss_one (ps_ret (pe_cmpR op_eq (pe_callB call_len_str (by rfl) T.len PySem.boot_len (pa_cons (pe_fld (pv 0) rfl) pa_nil)) (pe_fld (pv 0) rfl) (nomark _))), ?_⟩
    exact ⟨_, rfl, p, _, dx, _, _, rfl, hp, T.cl .l, T.nText, tx_text, _, rfl, small2000 hx, _, rfl, p, _, dx, _, _, rfl, hp, T.cl .l, T.nSize, tx_f k1, rfl, q⟩
theorem scL3 : FnScope ["self"] ["self"] (defScope lAwaited) := ⟨rfl, rfl, rfl, by decide +kernel, rfl, by decide +kernel, by decide +kernel⟩
theorem ok_lAwaited (F : Fun K "awaited" "LengthBody.awaited" lAwaited f fd) (T : Txt K mg C) : FnOk P w K mg base CX0 2 f fd ["self"] (spAwaited C .l) := by
  refine F.ok scL3 (fun vs H Q E h => ?_) (fun cdv A outer s H vs Q E hr h => ?_)
  · obtain ⟨p, dx, m, x, rfl, _⟩ := h
    rfl
  · obtain ⟨p, dx, m, x, rfl, hp, hx, hle, hm, q⟩ := h
    refine ⟨_, pss_one (ps_ret (pe_op op_mul_str pe_str (pe_op op_sub (pe_fld (pv 0) rfl) (pe_callB call_len_str (by rfl) T.len PySem.boot_len (pa_cons (pe_fld (pv 0) rfl) pa_nil))))), ?_⟩
    refine ⟨_, rfl, p, _, dx, _, _, rfl, hp, T.cl .l, T.nSize, tx_f k1, _, rfl, p, _, dx, _, _, rfl, hp, T.cl .l, T.nText, tx_text, _, rfl, small2000 hx, _, _, rfl, rfl, _, _, rfl, rfl, ?_, ?_⟩
    · exact mulOk_a (by omega) (by omega)
    · rw [mul_a]
      exact q
theorem scL4 : FnScope ["self"] ["self"] (defScope lTold) := ⟨rfl, rfl, rfl, by decide +kernel, rfl, by decide +kernel, by decide +kernel⟩
theorem ok_lTold (F : Fun K "told" "LengthBody.told" lTold f fd) (T : Txt K mg C) : FnOk P w K mg base CX0 2 f fd ["self"] (spTold C .l) := by
  refine F.ok scL4 (fun vs H Q E h => ?_) (fun cdv A outer s H vs Q E hr h => ?_)
  · obtain ⟨p, dx, m, x, rfl, _⟩ := h
    rfl
  · obtain ⟨p, dx, m, x, rfl, hp, q⟩ := h
    refine ⟨_, pss_one (ps_ret (pe_tup (pa_cons pe_str (pa_cons (pe_fld (pv 0) rfl) pa_nil)))), ?_⟩
    exact ⟨_, rfl, p, _, dx, _, _, rfl, hp, T.cl .l, T.nText, tx_text, (by show 2 ≤ sizeLine; decide), q⟩
/-! ### a rest -/
def Book (K : PySem.W.Frag) (H : Hp) (b : Addr) (fs M ps dp : Int) : Prop := ∃ (wd nm vl : Int), SqT K H b [.int wd, .int nm, .int vl, .int fs, .int M, .int ps, .int dp]
def oneR (K : PySem.W.Frag) : V → Hp → Int → Prop := fun v H m => ∃ (b : Addr) (fs ps dp : Int), v = .ref b ∧ Book K H b fs m ps dp
theorem scR0 : FnScope ["self", "book"] ["self", "book"] (defScope rInit) := ⟨rfl, rfl, rfl, by decide +kernel, rfl, by decide +kernel, by decide +kernel⟩
theorem ok_rInit (F : Fun K "__init__" "RestBody.__init__" rInit f fd) (T : Txt K mg C) : FnOk P w K mg base CX0 1 f fd ["self", "book"] (spInit .r (C .r) (oneR K)) := by
  refine F.ok scR0 (fun vs H Q E h => ?_) (fun cdv A outer s H vs Q E hr h => ?_)
  · obtain ⟨p, dx, v, m, rfl, _⟩ := h
    rfl
  · obtain ⟨p, dx, v, m, rfl, hp, ⟨b, fs, ps, dp, rfl, wd, nm, vl, hb⟩, q⟩ := h
    refine ⟨_, pss_cons (ps_fld (pv 0) (pe_ix ix_tup (pv 1) pe_int (fun _ _ => rfl)) rfl) (pss_one (ps_fld (pv 0) pe_str rfl)), ?_⟩
    refine ⟨_, rfl, b, _, 4, V.int m, rfl, rfl, hb, rfl, _, rfl, p, _, dx, [], rfl, hp, T.cl .r, T.nMost, (by show 0 < 1000; decide), _, rfl, p, _, dx, _, rfl, upd_same, T.cl .r, T.nText2, (by show 1 < 1000; decide), ?_⟩
    rw [upd_upd]
    exact q
theorem scR1 : FnScope ["self", "sign"] ["self", "sign"] (defScope rFed) := ⟨rfl, rfl, rfl, by decide +kernel, rfl, by decide +kernel, by decide +kernel⟩
theorem ok_rFed {fP : Addr} {fdP : FuncData} (F : Fun K "fed" "RestBody.fed" rFed f fd) (T : Txt K mg C) (FP : Fun K "is_plain" "is_plain" sPlain fP fdP) (bP : Binds K fdP ["sign"] []) (gP : mg "is_plain" = some (.ref fP)) :
    FnOk P w K mg base CX0 2 f fd ["self", "sign"] (spFed C .r) := by
  have GP : FnOk P w K mg base CX0 1 fP fdP ["sign"] spPlain := ok_plain FP T.len
  refine F.ok scR1 (fun vs H Q E h => ?_) (fun cdv A outer s H vs Q E hr h => ?_)
  · obtain ⟨p, dx, m, x, c, rfl, _⟩ := h
    rfl
  · obtain ⟨p, dx, m, x, c, rfl, hc, hp, hx, _, hle, kt, kf⟩ := h
    have hx' : x.length ≤ sizeLine := small2000 hx
    refine ⟨_, pss_cons (ps_if (PW.pt (pw_or (pt_cmpR op_eq (pe_callB call_len_str (by rfl) T.len PySem.boot_len (pa_cons (pe_fld (pv 0) rfl) pa_nil)) (pe_fld (pv 0) rfl) (nomark _))
        (pw_or1 (pt_not (pt_val (pe_call GP hr (by rfl) gP FP.kp bP .nil pass0 (pa_cons (pv 1) pa_nil))))))) (pss_one (ps_ret pe_bl)) pss_nil)
      (pss_cons (ps_fld (pv 0) (pe_op op_add_str (pe_fld (pv 0) rfl) (pv 1)) rfl) (pss_one (ps_ret pe_bl))), ?_⟩
    refine ⟨_, rfl, p, _, dx, _, _, rfl, hp, T.cl .r, T.nText2, tx_text, _, rfl, hx', _, rfl, p, _, dx, _, _, rfl, hp, T.cl .r, T.nMost, tx_f k2, rfl, _, rfl, ?_⟩
    refine ite2 (fun e => ?_) (fun e => ?_)
    · have e' : V.int (x.length : Int) = V.int m := of_decide_eq_true e
      exact iteT (kf (V.int.inj e'))
    · have hlt : (x.length : Int) < m := by
        rcases Int.lt_or_eq_of_le hle with q | q
        · exact q
        · exact absurd (decide_eq_true (congrArg V.int q)) e
      refine ⟨_, rfl, c, rfl, hc, _, rfl, ?_⟩
      refine iteF ?_
      refine ⟨_, rfl, p, _, dx, _, _, rfl, hp, T.cl .r, T.nText2, tx_text, _, rfl, _, _, rfl, rfl, ?_, _, rfl, p, _, dx, _, rfl, hp, T.cl .r, T.nText2, ?_, ?_⟩
      · show x.length + 1 ≤ sizeLine
        rw [sizeLine_eq]
        omega
      · rw [show fl .r m x = txF "most" m x from rfl, tx_eq k2]
        show 2 < 1000
        decide
      · rw [show fl .r m x = txF "most" m x from rfl, tx_put k2]
        exact kt hlt
theorem scR2 : FnScope ["self"] ["self"] (defScope rWhole) := ⟨rfl, rfl, rfl, by decide +kernel, rfl, by decide +kernel, by decide +kernel⟩
theorem ok_rWhole (F : Fun K "whole" "RestBody.whole" rWhole f fd) : FnOk P w K mg base CX0 2 f fd ["self"] (spWhole C .r) := by
  refine F.ok scR2 (fun vs H Q E h => ?_) (fun cdv A outer s H vs Q E hr h => ?_)
  · obtain ⟨p, dx, m, x, rfl, _⟩ := h
    rfl
  · obtain ⟨p, dx, m, x, rfl, _, _, q⟩ := h
    exact ⟨_, pss_one (ps_ret pe_bl), q⟩
theorem scR3 : FnScope ["self"] ["self"] (defScope rOpen) := ⟨rfl, rfl, rfl, by decide +kernel, rfl, by decide +kernel, by decide +kernel⟩
theorem ok_rOpen (F : Fun K "is_open" "RestBody.is_open" rOpen f fd) : FnOk P w K mg base CX0 2 f fd ["self"] (spOpen .r) := by
  refine F.ok scR3 (fun vs H Q E h => ?_) (fun cdv A outer s H vs Q E hr h => ?_)
  · obtain ⟨p, rfl, _⟩ := h
    rfl
  · obtain ⟨p, rfl, q⟩ := h
    exact ⟨_, pss_one (ps_ret pe_bl), q⟩
theorem scR4 : FnScope ["self"] ["self"] (defScope rTold) := ⟨rfl, rfl, rfl, by decide +kernel, rfl, by decide +kernel, by decide +kernel⟩
theorem ok_rTold (F : Fun K "told" "RestBody.told" rTold f fd) (T : Txt K mg C) : FnOk P w K mg base CX0 2 f fd ["self"] (spTold C .r) := by
  refine F.ok scR4 (fun vs H Q E h => ?_) (fun cdv A outer s H vs Q E hr h => ?_)
  · obtain ⟨p, dx, m, x, rfl, _⟩ := h
    rfl
  · obtain ⟨p, dx, m, x, rfl, hp, q⟩ := h
    refine ⟨_, pss_one (ps_ret (pe_tup (pa_cons pe_str (pa_cons (pe_fld (pv 0) rfl) pa_nil)))), ?_⟩
    exact ⟨_, rfl, p, _, dx, _, _, rfl, hp, T.cl .r, T.nText2, tx_text, (by show 2 ≤ sizeLine; decide), q⟩
end
end FP
set_option Elab.async false
set_option maxRecDepth 100000
set_option maxHeartbeats 4100000
namespace FP
open PySem L2
/-! ### heaps -/
theorem seqT {K : PySem.W.Frag} {H H' : Hp} {a : Addr} {xs : List V} (e : Same H H') (h : SqT K H a xs) : SqT K H' a xs := by
  rcases h with h | kk
  · rcases h with t | ⟨ob, t⟩
    · exact .inl (.inl (e _ _ t))
    · exact .inl (.inr ⟨ob, e _ _ t⟩)
  · exact .inr kk
theorem same_upd {H : Hp} {a : Addr} {o : HO} (h : H a = none) : Same H (upd H a o) := fun b u e => by
  rw [upd_ne (ne_of_none e h)]
  exact e
theorem same_new {H : Hp} {x dx : Addr} {o1 o2 : HO} (nx : H x = none) (nd : H dx = none) : Same H (upd (upd H dx o1) x o2) := fun b u e => by
  rw [upd_ne (ne_of_none e nx), upd_ne (ne_of_none e nd)]
  exact e
theorem Book.mono {K : PySem.W.Frag} {H H' : Hp} {b : Addr} {fs M ps dp : Int} (s : Same H H') (h : Book K H b fs M ps dp) : Book K H' b fs M ps dp := by
  obtain ⟨wd, nm, vl, h⟩ := h
  exact ⟨wd, nm, vl, seqT s h⟩
/-- the machine of kind k, of room m, stands at p and has taken in x -/
def MAt (C : Kd → Addr) (k : Kd) (m : Int) (H : Hp) (p : Addr) (x : Str) : Prop := ∃ dx, H p = some (.ins (C k) dx (fl k m x))
/-- how many signs there is room for -/
def rm : Kd → Int → Int → Int
  | .n, _, _ => 0
  | .l, size, _ => size
  | .r, _, M => M
/-! ### an item of a written list of four -/
theorem pick4 {a b c d z : Int} {R : Int → Prop} (ha : R a) (hb : R b) (hc : R c) (hd : R d) : ∃ v, atI [V.int a, V.int b, V.int c, V.int d] (z % 4) = some (V.int v) ∧ R v := by
  have h : z % 4 = 0 ∨ z % 4 = 1 ∨ z % 4 = 2 ∨ z % 4 = 3 := by omega
  rcases h with h | h | h | h
  · rw [h]
    exact ⟨a, rfl, ha⟩
  · rw [h]
    exact ⟨b, rfl, hb⟩
  · rw [h]
    exact ⟨c, rfl, hc⟩
  · rw [h]
    exact ⟨d, rfl, hd⟩
def plB (c : Nat) : Bool := decide (c = 10) || (decide (32 ≤ c) && decide (c ≤ 126))
theorem plB_ok {c : Nat} (h : plB c = true) : Pl c := by
  unfold plB at h
  simp only [Bool.or_eq_true, Bool.and_eq_true, decide_eq_true_eq] at h
  exact h
theorem pick95 {l : List Nat} (hl : l.length = 95) (h : l.all plB = true) (z : Int) : ∃ c, atI l (z % 95) = some c ∧ Pl c := by
  have h0 : 0 ≤ z % 95 := Int.emod_nonneg _ (by decide)
  have h1 : z % 95 < 95 := Int.emod_lt_of_pos _ (by decide)
  obtain ⟨j, ej⟩ : ∃ j : Nat, z % 95 = (j : Int) := ⟨(z % 95).toNat, by omega⟩
  have hj : j < l.length := by omega
  refine ⟨l[j], ?_, plB_ok (List.all_eq_true.mp h _ (List.getElem_mem hj))⟩
  rw [ej]
  exact atI_nat (List.getElem?_eq_getElem hj)
section
variable {P : Program} {w : World} {K : PySem.W.Frag} {mg : Str → Option Value} {base : Heap} {C : Kd → Addr} {f : Addr} {fd : FuncData}
/-! ### the law's draws -/
def spMixed : Sp := fun vs H Q _ => ∃ c k : Int, vs = [.int c, .int k] ∧ ∀ z : Int, 0 ≤ z → z < 2147483647 → Q (.int z) H
theorem scMixed : FnScope ["_law_cell", "_law_k", "_law_number"] ["_law_cell", "_law_k"] (defScope sMixed) := ⟨rfl, rfl, rfl, by decide +kernel, rfl, by decide +kernel, by decide +kernel⟩
theorem ok_mixed (F : Fun K "_law_mixed" "_law_mixed" sMixed f fd) : FnOk P w K mg base CX0 1 f fd ["_law_cell", "_law_k"] spMixed := by
  refine F.ok scMixed (fun vs H Q E h => ?_) (fun cdv A outer s H vs Q E hr h => ?_)
  · obtain ⟨c, k, rfl, _⟩ := h
    rfl
  · obtain ⟨c, k, rfl, q⟩ := h
    refine ⟨_, pss_cons (ps_set (i := 2) scMixed.nd rfl (Or.inl rfl) (pe_op op_mod (pe_op op_mul (pe_op op_add (pe_op op_add (pv 0) (pe_op op_mul pe_int (pv 1))) pe_int) pe_int) pe_int))
      (pss_one (ps_ret (pe_op op_mod (pe_op op_mul (pv 2) (pe_op op_add (pe_op op_fdiv (pv 2) pe_int) pe_int)) pe_int))), ?_⟩
    refine ⟨_, rfl, _, rfl, _, _, rfl, rfl, .inl ⟨by decide, by decide⟩, _, _, rfl, rfl, _, _, rfl, rfl, _, _, rfl, rfl, .inr ⟨by decide, by decide⟩, _, _, rfl, rfl, (by show (0 : Int) < 2147483647; decide), ?_⟩
    have b0 : 0 ≤ (c + 7919 * k + 1) * 48271 % 2147483647 := Int.emod_nonneg _ (by decide)
    have b1 : (c + 7919 * k + 1) * 48271 % 2147483647 < 2147483647 := Int.emod_lt_of_pos _ (by decide)
    refine ⟨_, rfl, _, rfl, _, _, rfl, rfl, ⟨by decide, by decide⟩, _, _, rfl, rfl, _, _, rfl, rfl, .inl ⟨by omega, by omega⟩, _, _, rfl, rfl, (by show (0 : Int) < 2147483647; decide), ?_⟩
    exact q _ (Int.emod_nonneg _ (by decide)) (Int.emod_lt_of_pos _ (by decide))
def spCellAt (K : PySem.W.Frag) : Sp := fun vs H Q _ => ∃ (a : Addr) (ns : List Int) (j : Nat), vs = [.ref a, .int (j : Int)] ∧ SqL K H a (ns.map V.int) ∧ ∀ z : Int, Q (.int z) H
theorem scCellAt : FnScope ["_law_script", "_law_k"] ["_law_script", "_law_k"] (defScope sCellAt) := ⟨rfl, rfl, rfl, by decide +kernel, rfl, by decide +kernel, by decide +kernel⟩
theorem ok_cellAt (F : Fun K "_law_cell_at" "_law_cell_at" sCellAt f fd) (len : mg "len" = none) : FnOk P w K mg base CX0 1 f fd ["_law_script", "_law_k"] (spCellAt K) := by
  refine F.ok scCellAt (fun vs H Q E h => ?_) (fun cdv A outer s H vs Q E hr h => ?_)
  · obtain ⟨a, ns, j, rfl, _⟩ := h
    rfl
  · obtain ⟨a, ns, j, rfl, hS, q⟩ := h
    refine ⟨_, pss_cons (ps_if (pt_cmpR op_lt (pv 1) (pe_callB call_len_seq (by rfl) len PySem.boot_len (pa_cons (pv 0) pa_nil)) (nomark _)) (pss_one (ps_ret (pe_ix ix_list (pv 0) (pv 1) (fun _ _ => rfl)))) pss_nil) (pss_one (ps_ret pe_int)), ?_⟩
    refine ⟨_, rfl, _, rfl, a, _, rfl, .inl hS, _, _, rfl, rfl, _, rfl, ite2 (fun e => ?_) (fun _ => q 0)⟩
    have hj : (j : Int) < ((ns.map V.int).length : Int) := of_decide_eq_true e
    rw [List.length_map] at hj
    have hj' : j < ns.length := by omega
    exact ⟨_, rfl, _, rfl, a, _, _, _, rfl, rfl, hS, atI_nat (by rw [List.getElem?_map, List.getElem?_eq_getElem hj']; rfl), q _⟩
def spSign : Sp := fun vs H Q _ => ∃ z : Int, vs = [.int z] ∧ ∀ c, Pl c → Q (.str ⟨#[c]⟩) H
theorem scSign : FnScope ["_law_number", "_law_some"] ["_law_number"] (defScope sSign) := ⟨rfl, rfl, rfl, by decide +kernel, rfl, by decide +kernel, by decide +kernel⟩
theorem ok_sign (F : Fun K "_law_sign" "_law_sign" sSign f fd) : FnOk P w K mg base CX0 1 f fd ["_law_number"] spSign := by
  refine F.ok scSign (fun vs H Q E h => ?_) (fun cdv A outer s H vs Q E hr h => ?_)
  · obtain ⟨z, rfl, _⟩ := h
    rfl
  · obtain ⟨z, rfl, q⟩ := h
    refine ⟨_, pss_cons (ps_set (i := 1) scSign.nd rfl (Or.inl rfl) pe_str) (pss_cons (ps_set (i := 1) scSign.nd rfl (Or.inl rfl) (pe_op op_add_str (pv 1) pe_str))
      (pss_one (ps_ret (pe_ix ix_str (pv 1) (pe_op op_mod (pv 0) pe_int) (fun _ _ => rfl))))), ?_⟩
    refine ⟨_, rfl, _, _, rfl, rfl, ?_, _, rfl, _, rfl, _, _, rfl, rfl, (by show (0 : Int) < 95; decide), ?_⟩
    · rw [sizeLine_eq]
      decide +kernel
    · have h95 : ∀ (T : Str), T.cps.toList.length = 95 → T.cps.toList.all plB = true → T.length ≤ sizeLine → ∃ zz i c, V.str T = .str zz ∧ V.int (z % 95) = .int i ∧ zz.length ≤ sizeLine ∧ atI zz.cps.toList i = some c ∧ Q (.str ⟨#[c]⟩) H := fun T h1 h2 h3 => by
        obtain ⟨c, e, hc⟩ := pick95 h1 h2 z
        exact ⟨T, _, c, rfl, rfl, h3, e, q c hc⟩
      exact h95 _ (by decide +kernel) (by decide +kernel) (by rw [sizeLine_eq]; decide +kernel)
def spBook (K : PySem.W.Frag) : Sp := fun vs H Q _ => ∃ z : Int, vs = [.int z] ∧ 0 ≤ z ∧ ∀ (b : Addr) (fs M ps dp : Int) (H' : Hp), Same H H' → Book K H' b fs M ps dp → 0 ≤ M → M ≤ 1000 → Q (.ref b) H'
theorem scBook : FnScope ["_law_cell", "_law_most", "_law_rows"] ["_law_cell"] (defScope sBook) := ⟨rfl, rfl, rfl, by decide +kernel, rfl, by decide +kernel, by decide +kernel⟩
theorem ok_book (F : Fun K "_law_book" "_law_book" sBook f fd) : FnOk P w K mg base CX0 1 f fd ["_law_cell"] (spBook K) := by
  refine F.ok scBook (fun vs H Q E h => ?_) (fun cdv A outer s H vs Q E hr h => ?_)
  · obtain ⟨z, rfl, _⟩ := h
    rfl
  · obtain ⟨z, rfl, hz, q⟩ := h
    refine ⟨_, pss_cons (ps_set (i := 1) scBook.nd rfl (Or.inl rfl) (pe_ix ix_list (pe_lst (pa_cons (pe_op op_mod (pe_op op_fdiv (pv 0) pe_int) pe_int) (pa_cons (pe_op op_mod (pe_op op_fdiv (pv 0) pe_int) pe_int) (pa_cons pe_int (pa_cons pe_int pa_nil))))) (pe_op op_mod (pv 0) pe_int) (fun _ _ => rfl)))
      (pss_cons (ps_set (i := 2) scBook.nd rfl (Or.inl rfl) (pe_tup (pa_cons (pe_op op_add pe_int (pe_op op_mod (pe_op op_fdiv (pv 0) pe_int) pe_int)) (pa_cons (pe_op op_add pe_int (pe_op op_mod (pe_op op_fdiv (pv 0) pe_int) pe_int))
        (pa_cons (pe_op op_add pe_int (pe_op op_mod (pe_op op_fdiv (pv 0) pe_int) pe_int)) (pa_cons (pe_op op_mod (pe_op op_fdiv (pv 0) pe_int) pe_int) pa_nil))))))
      (pss_one (ps_ret (pe_op op_catT (pv 2) (pe_tup (pa_cons (pv 1) (pa_cons (pe_op op_mod (pe_op op_fdiv (pv 0) pe_int) pe_int) (pa_cons (pe_op op_mod (pe_op op_fdiv (pv 0) pe_int) pe_int) pa_nil)))))))), ?_⟩
    refine ⟨_, rfl, _, _, rfl, rfl, ⟨by decide, by decide⟩, _, _, rfl, rfl, (by show (0 : Int) < 61; decide), _, rfl, _, _, rfl, rfl, ⟨by decide, by decide⟩, _, _, rfl, rfl, (by show (0 : Int) < 9; decide), (by show 4 ≤ sizeLine; decide), fun l hl => ?_⟩
    obtain ⟨M, eM, hM0, hM1⟩ := pick4 (a := z / 4 % 61) (b := z / 4 % 9) (c := 400) (d := 1000) (z := z) (R := fun M => 0 ≤ M ∧ M ≤ 1000) (by omega) (by omega) (by omega) (by omega)
    refine ⟨_, rfl, _, _, rfl, rfl, (by show (0 : Int) < 4; decide), l, _, _, _, rfl, rfl, SqL.of upd_same, eM, ?_⟩
    refine ⟨_, rfl, _, _, rfl, rfl, ⟨by decide, by decide⟩, _, _, rfl, rfl, (by show (0 : Int) < 9; decide), _, _, rfl, rfl, _, rfl, _, _, rfl, rfl, ⟨by decide, by decide⟩, _, _, rfl, rfl, (by show (0 : Int) < 13; decide), _, _, rfl, rfl,
      _, rfl, _, _, rfl, rfl, ⟨by decide, by decide⟩, _, _, rfl, rfl, (by show (0 : Int) < 40; decide), _, _, rfl, rfl, _, rfl, _, _, rfl, rfl, ⟨by decide, by decide⟩, _, _, rfl, rfl, (by show (0 : Int) < 5; decide), (by show 4 ≤ sizeLine; decide), fun t ht => ?_⟩
    refine ⟨_, rfl, _, rfl, _, rfl, _, _, rfl, rfl, ⟨by decide, by decide⟩, _, _, rfl, rfl, (by show (0 : Int) < 4; decide), _, rfl, _, _, rfl, rfl, ⟨by decide, by decide⟩, _, _, rfl, rfl, (by show (0 : Int) < 4; decide), (by show 3 ≤ sizeLine; decide), fun u hu => ?_⟩
    have htu : t ≠ u := ne_of_none upd_same hu
    refine ⟨t, u, _, _, rfl, rfl, SqT.of (by rw [upd_ne htu]; exact upd_same), SqT.of upd_same, (fun h => by cases h), (by show 7 ≤ sizeLine; decide), (fun h => by cases h), fun _ v hv => ?_⟩
    exact q v _ M _ _ _ (((same_upd hl).trans (same_upd ht)).trans ((same_upd hu).trans (same_upd hv))) ⟨_, _, _, SqT.of upd_same⟩ hM0 hM1
/-! ### what is due -/
def spDue : Sp := fun vs H Q _ => ∃ (k : Kd) (x : Str), vs = [.int k.way, .str x] ∧ ∀ (t : Addr) (H' : Hp), Same H H' → H' t = some (.tup (toldV k x)) → Q (.ref t) H'
theorem scDue : FnScope ["_law_way", "_law_text"] ["_law_way", "_law_text"] (defScope sDue) := ⟨rfl, rfl, rfl, by decide +kernel, rfl, by decide +kernel, by decide +kernel⟩
theorem ok_due (F : Fun K "_law_due" "_law_due" sDue f fd) : FnOk P w K mg base CX0 1 f fd ["_law_way", "_law_text"] spDue := by
  refine F.ok scDue (fun vs H Q E h => ?_) (fun cdv A outer s H vs Q E hr h => ?_)
  · obtain ⟨k, x, rfl, _⟩ := h
    rfl
  · obtain ⟨k, x, rfl, q⟩ := h
    refine ⟨_, pss_cons (ps_if (pt_cmpR op_eq (pv 0) pe_int (nomark _)) (pss_one (ps_ret (pe_tup (pa_cons pe_str pa_nil)))) pss_nil)
      (pss_one (ps_ret (pe_tup (pa_cons (pe_ix ix_list (pe_lst (pa_cons pe_str (pa_cons pe_str (pa_cons pe_str pa_nil)))) (pv 0) (fun _ _ => rfl)) (pa_cons (pv 1) pa_nil))))), ?_⟩
    cases k with
    | n => exact ⟨_, rfl, rfl, _, rfl, iteYes rfl ⟨(by show 1 ≤ sizeLine; decide), fun t ht => q t _ (same_upd ht) upd_same⟩⟩
    | l => exact ⟨_, rfl, rfl, _, rfl, iteNo (by decide) ⟨(by show 3 ≤ sizeLine; decide), fun l hl => ⟨_, rfl, l, _, _, _, rfl, rfl, SqL.of upd_same, rfl, _, rfl, (by show 2 ≤ sizeLine; decide), fun t ht => q t _ ((same_upd hl).trans (same_upd ht)) upd_same⟩⟩⟩
    | r => exact ⟨_, rfl, rfl, _, rfl, iteNo (by decide) ⟨(by show 3 ≤ sizeLine; decide), fun l hl => ⟨_, rfl, l, _, _, _, rfl, rfl, SqL.of upd_same, rfl, _, rfl, (by show 2 ≤ sizeLine; decide), fun t ht => q t _ ((same_upd hl).trans (same_upd ht)) upd_same⟩⟩⟩
/-! ### the machines made -/
def spTally (CT : Addr) : Sp := fun vs H Q _ => ∃ (p dx : Addr) (n : Int), vs = [.ref p, .int n] ∧ H p = some (.ins CT dx []) ∧ ∀ o, Q .non (upd H p o)
theorem scTally : FnScope ["self", "parts"] ["self", "parts"] (defScope tInit) := ⟨rfl, rfl, rfl, by decide +kernel, rfl, by decide +kernel, by decide +kernel⟩
theorem ok_tally {CT : Addr} (F : Fun K "__init__" "Tally.__init__" tInit f fd) (cl : Cls K CT) (no : NoAttr K CT "spare") : FnOk P w K mg base CX0 1 f fd ["self", "parts"] (spTally CT) := by
  refine F.ok scTally (fun vs H Q E h => ?_) (fun cdv A outer s H vs Q E hr h => ?_)
  · obtain ⟨p, dx, n, rfl, _⟩ := h
    rfl
  · obtain ⟨p, dx, n, rfl, hp, q⟩ := h
    exact ⟨_, pss_one (ps_fld (pv 0) (pv 1) rfl), ⟨_, rfl, _, rfl, p, _, dx, _, rfl, hp, cl, no, (by show 0 < 1000; decide), q _⟩⟩
def EndIs (K : PySem.W.Frag) (H : Hp) : Kd → Int → Addr → V → Prop
  | .n, _, _, e => e = .non
  | .l, m, _, e => ∃ t, e = .ref t ∧ SqT K H t [.str "length", .int m]
  | .r, m, b, e => ∃ (t : Addr) (fs ps dp : Int), e = .ref t ∧ SqT K H t [.str "rest", .int 0] ∧ Book K H b fs m ps dp
def spBodyOf (K : PySem.W.Frag) (C : Kd → Addr) : Sp := fun vs H Q _ => ∃ (k : Kd) (m : Int) (b : Addr) (e v1 v2 v3 : V), vs = [e, .ref b, v1, v2, v3] ∧ EndIs K H k m b e ∧
  ∀ (x : Addr) (H' : Hp), Same H H' → H x = none → MAt C k m H' x "" → Q (.ref x) H'
theorem scBodyOf : FnScope ["end", "book", "room", "deep", "tally"] ["end", "book", "room", "deep", "tally"] (defScope sBodyOf) := ⟨rfl, rfl, rfl, by decide +kernel, rfl, by decide +kernel, by decide +kernel⟩
theorem ok_bodyOf {fL fR : Addr} {fdL fdR : FuncData} (F : Fun K "body_of" "body_of" sBodyOf f fd) (T : Txt K mg C) (MN : MkO K (C .n)) (gN : mg "NoBody" = some (.ref (C .n)))
    (ML : Mk K (C .l) fL) (FL : Fun K "__init__" "LengthBody.__init__" lInit fL fdL) (bL : Binds K fdL ["self", "size"] []) (gL : mg "LengthBody" = some (.ref (C .l)))
    (MR : Mk K (C .r) fR) (FR : Fun K "__init__" "RestBody.__init__" rInit fR fdR) (bR : Binds K fdR ["self", "book"] []) (gR : mg "RestBody" = some (.ref (C .r))) :
    FnOk P w K mg base CX0 3 f fd ["end", "book", "room", "deep", "tally"] (spBodyOf K C) := by
  have GL : FnOk P w K mg base CX0 1 fL fdL ["self", "size"] (spInit .l (C .l) oneL) := ok_lInit FL T
  have GR : FnOk P w K mg base CX0 1 fR fdR ["self", "book"] (spInit .r (C .r) (oneR K)) := ok_rInit FR T
  refine F.ok scBodyOf (fun vs H Q E h => ?_) (fun cdv A outer s H vs Q E hr h => ?_)
  · obtain ⟨k, m, b, e, v1, v2, v3, rfl, _⟩ := h
    rfl
  · obtain ⟨k, m, b, e, v1, v2, v3, rfl, he, q⟩ := h
    refine ⟨_, pss_cons (ps_if (pt_cmp (pc_isN (pv 0))) (pss_one (ps_ret (pe_makeO MN (by rfl) gN))) pss_nil)
      (pss_cons (ps_if (pt_cmpR op_eq (pe_ix ix_tup (pv 0) pe_int (fun _ _ => rfl)) pe_str (nomark _)) (pss_one (ps_ret (pe_make ML GL hr (by rfl) gL bL .nil pass0 (pa_cons (pe_ix ix_tup (pv 0) pe_int (fun _ _ => rfl)) pa_nil)))) pss_nil)
      (pss_cons (ps_if (pt_cmpR op_eq (pe_ix ix_tup (pv 0) pe_int (fun _ _ => rfl)) pe_str (nomark _)) (pss_one (ps_ret (pe_make MR GR hr (by rfl) gR bR .nil pass0 (pa_cons (pv 1) pa_nil)))) pss_nil)
      pss_never)), ?_⟩
    cases k with
    | n =>
      obtain rfl : e = V.non := he
      exact ⟨_, rfl, _, rfl, iteYes rfl fun x dx nx nd ne => q x _ (same_new nx nd) nx ⟨dx, upd_same⟩⟩
    | l =>
      obtain ⟨t, rfl, ht⟩ := he
      refine ⟨_, rfl, _, rfl, iteNo (by intro z; cases z) ?_⟩
      refine ⟨_, rfl, t, _, _, _, rfl, rfl, ht, rfl, rfl, _, rfl, iteYes rfl ?_⟩
      refine ⟨_, rfl, t, _, _, _, rfl, rfl, ht, rfl, fun x dx nx nd ne => ?_⟩
      refine ⟨x, dx, _, m, rfl, upd_same, rfl, rfl, ?_⟩
      rw [upd_upd]
      exact q x _ (same_new nx nd) nx ⟨dx, upd_same⟩
    | r =>
      obtain ⟨t, fs, ps, dp, rfl, ht, hb⟩ := he
      refine ⟨_, rfl, _, rfl, iteNo (by intro z; cases z) ?_⟩
      refine ⟨_, rfl, t, _, _, _, rfl, rfl, ht, rfl, rfl, _, rfl, iteNo (by decide +kernel) ?_⟩
      refine ⟨_, rfl, t, _, _, _, rfl, rfl, ht, rfl, rfl, _, rfl, iteYes rfl ?_⟩
      refine ⟨_, rfl, fun x dx nx nd ne => ?_⟩
      refine ⟨x, dx, _, m, rfl, upd_same, ⟨b, fs, ps, dp, rfl, hb.mono (same_new nx nd)⟩, rfl, ?_⟩
      rw [upd_upd]
      exact q x _ (same_new nx nd) nx ⟨dx, upd_same⟩
def spMade (K : PySem.W.Frag) (C : Kd → Addr) : Sp := fun vs H Q _ => ∃ (k : Kd) (size : Int) (b : Addr) (fs M ps dp : Int), vs = [.int k.way, .int size, .ref b] ∧ Book K H b fs M ps dp ∧
  ∀ (l m1 m2 : Addr) (H' : Hp), Same H H' → m1 ≠ m2 → H' l = some (.lst [.ref m1, .ref m2]) → MAt C k (rm k size M) H' m1 "" → MAt C k (rm k size M) H' m2 "" → H m1 = none → H m2 = none → Q (.ref l) H'
theorem scMade : FnScope ["_law_way", "_law_size", "_law_book_here", "_law_tally", "_law_deep"] ["_law_way", "_law_size", "_law_book_here"] (defScope sMade) := ⟨rfl, rfl, rfl, by decide +kernel, rfl, by decide +kernel, by decide +kernel⟩
theorem MAt.mono {H H' : Hp} {k : Kd} {m : Int} {p : Addr} {x : Str} (s : Same H H') (h : MAt C k m H p x) : MAt C k m H' p x := by
  obtain ⟨dx, h⟩ := h
  exact ⟨dx, s _ _ h⟩
theorem MAt.ne_none {H : Hp} {k : Kd} {m : Int} {p q : Addr} {x : Str} (h : MAt C k m H p x) (e : H q = none) : p ≠ q := by
  obtain ⟨dx, h⟩ := h
  exact ne_of_none h e
theorem ok_made {CT fT fB : Addr} {fdT fdB : FuncData} (F : Fun K "_law_made" "_law_made" sMade f fd) (GB : FnOk P w K mg base CX0 3 fB fdB ["end", "book", "room", "deep", "tally"] (spBodyOf K C)) (kB : PySem.W.keepIn K (.ref fB) = true) (bB : Binds K fdB ["end", "book", "room", "deep", "tally"] []) (gB : mg "body_of" = some (.ref fB))
    (MT : Mk K CT fT) (FT : Fun K "__init__" "Tally.__init__" tInit fT fdT) (bT : Binds K fdT ["self", "parts"] []) (gT : mg "Tally" = some (.ref CT)) (clT : Cls K CT) (noT : NoAttr K CT "spare") (min : mg "min" = none) :
    FnOk P w K mg base CX0 4 f fd ["_law_way", "_law_size", "_law_book_here"] (spMade K C) := by
  have GT : FnOk P w K mg base CX0 1 fT fdT ["self", "parts"] (spTally CT) := ok_tally FT clT noT
  refine F.ok scMade (fun vs H Q E h => ?_) (fun cdv A outer s H vs Q E hr h => ?_)
  · obtain ⟨k, size, b, fs, M, ps, dp, rfl, _⟩ := h
    rfl
  · obtain ⟨k, size, b, fs, M, ps, dp, rfl, hb, q⟩ := h
    have r2 : Room 2 _ := hr.mono (by decide)
    refine ⟨_, pss_cons (ps_set (i := 3) scMade.nd rfl (Or.inl rfl) (pe_make MT GT r2 (by rfl) gT bT .nil pass0 (pa_cons (pe_ix ix_tup (pv 2) pe_int (fun _ _ => rfl)) pa_nil)))
      (pss_cons (ps_set (i := 4) scMade.nd rfl (Or.inl rfl) (pe_callB (call_min2 rfl) (by rfl) min (by decide +kernel) (pa_cons pe_int (pa_cons (pe_ix ix_tup (pv 2) pe_int (fun _ _ => rfl)) pa_nil))))
      (pss_cons (ps_if (pt_cmpR op_eq (pv 0) pe_int (nomark _)) (pss_one (ps_ret (pe_lst (pa_cons (pe_call GB hr (by rfl) gB kB bB .nil pass0 (pa_cons pe_non (pa_cons (pv 2) (pa_cons pe_int (pa_cons pe_int (pa_cons (pv 3) pa_nil))))))
          (pa_cons (pe_call GB hr (by rfl) gB kB bB .nil pass0 (pa_cons pe_non (pa_cons (pv 2) (pa_cons (pe_ix ix_tup (pv 2) pe_int (fun _ _ => rfl)) (pa_cons (pv 4) (pa_cons (pv 3) pa_nil)))))) pa_nil))))) pss_nil)
      (pss_cons (ps_if (pt_cmpR op_eq (pv 0) pe_int (nomark _)) (pss_one (ps_ret (pe_lst (pa_cons (pe_call GB hr (by rfl) gB kB bB .nil pass0 (pa_cons (pe_tup (pa_cons pe_str (pa_cons (pv 1) pa_nil))) (pa_cons (pv 2) (pa_cons pe_int (pa_cons pe_int (pa_cons (pv 3) pa_nil))))))
          (pa_cons (pe_call GB hr (by rfl) gB kB bB .nil pass0 (pa_cons (pe_tup (pa_cons pe_str (pa_cons (pv 1) pa_nil))) (pa_cons (pv 2) (pa_cons (pe_ix ix_tup (pv 2) pe_int (fun _ _ => rfl)) (pa_cons (pv 4) (pa_cons (pv 3) pa_nil)))))) pa_nil))))) pss_nil)
      (pss_one (ps_ret (pe_lst (pa_cons (pe_call GB hr (by rfl) gB kB bB .nil pass0 (pa_cons (pe_tup (pa_cons pe_str (pa_cons pe_int pa_nil))) (pa_cons (pv 2) (pa_cons pe_int (pa_cons pe_int (pa_cons (pv 3) pa_nil))))))
          (pa_cons (pe_call GB hr (by rfl) gB kB bB .nil pass0 (pa_cons (pe_tup (pa_cons pe_str (pa_cons pe_int pa_nil))) (pa_cons (pv 2) (pa_cons (pe_ix ix_tup (pv 2) pe_int (fun _ _ => rfl)) (pa_cons pe_int (pa_cons (pv 3) pa_nil)))))) pa_nil)))))))), ?_⟩
    obtain ⟨wd, nm, vl, hb0⟩ := id hb
    refine ⟨_, rfl, b, _, 5, V.int ps, rfl, rfl, hb0, rfl, fun y dy ny nd ne => ?_⟩
    refine ⟨y, dy, ps, rfl, upd_same, fun o => ⟨rfl, ?_⟩⟩
    rw [upd_upd]
    have s1 : Same H (upd (upd H dy (.own y)) y o) := same_new ny nd
    generalize upd (upd H dy (.own y)) y o = H1 at s1
    have hb1 := seqT s1 hb0
    refine ⟨_, rfl, b, _, 6, V.int dp, rfl, rfl, hb1, rfl, _, _, rfl, ?_⟩
    generalize (if dp < 1 then dp else 1) = dd
    cases k with
    | n =>
      refine ⟨_, rfl, rfl, _, rfl, iteYes rfl ?_⟩
      refine ⟨_, rfl, _, rfl, .n, 0, b, _, _, _, _, rfl, rfl, fun x1 H2 s2 n1 a1 => ?_⟩
      refine ⟨_, rfl, _, rfl, b, _, 3, V.int fs, rfl, rfl, seqT s2 hb1, rfl, _, rfl, _, rfl, .n, 0, b, _, _, _, _, rfl, rfl, fun x2 H3 s3 n2 a2 => ?_⟩
      refine ⟨(by show 2 ≤ sizeLine; decide), fun l hl => ?_⟩
      exact q l x1 x2 _ (((s1.trans s2).trans s3).trans (same_upd hl)) (a1.ne_none n2) upd_same ((a1.mono s3).mono (same_upd hl)) (a2.mono (same_upd hl)) (s1.free n1) ((s1.trans s2).free n2)
    | l =>
      refine ⟨_, rfl, rfl, _, rfl, iteNo (by decide) ?_⟩
      refine ⟨_, rfl, rfl, _, rfl, iteYes rfl ?_⟩
      refine ⟨_, rfl, (by show 2 ≤ sizeLine; decide), fun t1 h1 => ?_⟩
      refine ⟨_, rfl, _, rfl, .l, size, b, _, _, _, _, rfl, ⟨t1, rfl, SqT.of upd_same⟩, fun x1 H2 s2 n1 a1 => ?_⟩
      refine ⟨_, rfl, (by show 2 ≤ sizeLine; decide), fun t2 h2 => ?_⟩
      have s12 : Same H1 H2 := (same_upd h1).trans s2
      refine ⟨_, rfl, _, rfl, b, _, 3, V.int fs, rfl, rfl, seqT (s12.trans (same_upd h2)) hb1, rfl, _, rfl, _, rfl, .l, size, b, _, _, _, _, rfl, ⟨t2, rfl, SqT.of upd_same⟩, fun x2 H3 s3 n2 a2 => ?_⟩
      refine ⟨(by show 2 ≤ sizeLine; decide), fun l hl => ?_⟩
      have s23 : Same H2 H3 := (same_upd h2).trans s3
      have n2' : H2 x2 = none := (same_upd h2).free n2
      exact q l x1 x2 _ (((s1.trans s12).trans s23).trans (same_upd hl)) (a1.ne_none n2') upd_same ((a1.mono s23).mono (same_upd hl)) (a2.mono (same_upd hl)) ((s1.trans (same_upd h1)).free n1) ((s1.trans s12).free n2')
    | r =>
      refine ⟨_, rfl, rfl, _, rfl, iteNo (by decide) ?_⟩
      refine ⟨_, rfl, rfl, _, rfl, iteNo (by decide) ?_⟩
      refine ⟨(by show 2 ≤ sizeLine; decide), fun t1 h1 => ?_⟩
      refine ⟨_, rfl, _, rfl, .r, M, b, _, _, _, _, rfl, ⟨t1, fs, ps, dp, rfl, SqT.of upd_same, hb.mono (s1.trans (same_upd h1))⟩, fun x1 H2 s2 n1 a1 => ?_⟩
      refine ⟨(by show 2 ≤ sizeLine; decide), fun t2 h2 => ?_⟩
      have s12 : Same H1 H2 := (same_upd h1).trans s2
      refine ⟨_, rfl, _, rfl, b, _, 3, V.int fs, rfl, rfl, seqT (s12.trans (same_upd h2)) hb1, rfl, _, rfl, .r, M, b, _, _, _, _, rfl, ⟨t2, fs, ps, dp, rfl, SqT.of upd_same, hb.mono ((s1.trans s12).trans (same_upd h2))⟩, fun x2 H3 s3 n2 a2 => ?_⟩
      refine ⟨(by show 2 ≤ sizeLine; decide), fun l hl => ?_⟩
      have s23 : Same H2 H3 := (same_upd h2).trans s3
      have n2' : H2 x2 = none := (same_upd h2).free n2
      exact q l x1 x2 _ (((s1.trans s12).trans s23).trans (same_upd hl)) (a1.ne_none n2') upd_same ((a1.mono s23).mono (same_upd hl)) (a2.mono (same_upd hl)) ((s1.trans (same_upd h1)).free n1) ((s1.trans s12).free n2')
end
end FP
set_option Elab.async false
set_option maxRecDepth 100000
set_option maxHeartbeats 4100000
namespace FP
open PySem L2
/-! ### all that was tracked stands as it stood, but p -/
def But (p : Addr) (H H' : Hp) : Prop := ∀ b o, H b = some o → b ≠ p → H' b = some o
theorem But.refl {p : Addr} {H : Hp} : But p H H := fun _ _ e _ => e
theorem But.same {p : Addr} {H H1 H2 : Hp} (a : But p H H1) (b : Same H1 H2) : But p H H2 := fun c o e n => b c o (a c o e n)
theorem But.upd {p : Addr} {H H1 : Hp} {o : HO} (a : But p H H1) : But p H (L2.upd H1 p o) := fun c u e n => by
  rw [upd_ne n]
  exact a c u e n
theorem But.seq {K : PySem.W.Frag} {p : Addr} {H H' : Hp} {l : Addr} {xs : List V} (e : But p H H') (ne : l ≠ p) (h : SqL K H l xs) : SqL K H' l xs := by
  rcases h with h | kk
  · rcases h with t | ⟨ob, t⟩
    · exact .inl (.inl (e _ _ t ne))
    · exact .inl (.inr ⟨ob, e _ _ t ne⟩)
  · exact .inr kk
/-! ### the machine's interface -/
structure Face (P : Program) (w : World) (K : PySem.W.Frag) (mg : Str → Option Value) (base : Heap) (C : Kd → Addr) (k : Kd) where
  cl : Cls K (C k)
  ha : PySem.W.findIn K (.ref (C k)) "__class__" = some (some (.builtin "object.__class__"))
  hm : PySem.W.mroIn K (C k) (.type "object") = some true
  fW : Addr
  dW : FuncData
  mW : Meth K (C k) "whole" fW
  GW : FnOk P w K mg base CX0 2 fW dW ["self"] (spWhole C k)
  bW : Binds K dW ["self"] []
  fO : Addr
  dO : FuncData
  mO : Meth K (C k) "is_open" fO
  GO : FnOk P w K mg base CX0 2 fO dO ["self"] (spOpen k)
  bO : Binds K dO ["self"] []
  fF : Addr
  dF : FuncData
  mF : Meth K (C k) "fed" fF
  GF : FnOk P w K mg base CX0 2 fF dF ["self", "sign"] (spFed C k)
  bF : Binds K dF ["self", "sign"] []
  fA : Addr
  dA : FuncData
  mA : Meth K (C k) "awaited" fA
  GA : FnOk P w K mg base CX0 2 fA dA ["self"] (spAwaited C k)
  bA : Binds K dA ["self"] []
  fT : Addr
  dT : FuncData
  mT : Meth K (C k) "told" fT
  GT : FnOk P w K mg base CX0 2 fT dT ["self"] (spTold C k)
  bT : Binds K dT ["self"] []
/-! ### tests that are known, apart -/
/-- the test is false, whatever it makes -/
def tNo (pre : St → Hp → Prop) : TT := fun σ H Q => pre σ H ∧ ∀ H', Same H H' → Q false H'
/-- the seven first slots -/
def St7 (p : Addr) (k : Kd) (m : Int) (l : Addr) (x : Str) (o5 o6 o7 o8 : Option V) : St := [some (.ref p), some (.int k.way), some (.int m), some (.ref l), some (.str x), o5, o6, o7, o8]
theorem way_ne {k : Kd} (h : k ≠ .l) : k.way ≠ 1 := by
  cases k with
  | n => decide
  | l => exact absurd rfl h
  | r => decide
/-- whole's answer is what the law says -/
theorem whole_is (k : Kd) (m : Int) (x : Str) : wholeB k m x = (!decide (V.int k.way = V.int 1) || decide (V.int (x.length : Int) = V.int m)) := by
  cases k with
  | n => rw [decide_eq_false (show ¬ (V.int Kd.n.way = V.int 1) by decide)]; rfl
  | l => rw [decide_eq_true (show V.int Kd.l.way = V.int 1 from rfl)]; rfl
  | r => rw [decide_eq_false (show ¬ (V.int Kd.r.way = V.int 1) by decide)]; rfl
theorem open_is (k : Kd) : decide (V.int k.way = V.int 2) = decide (k = .r) := by
  cases k <;> decide
/-- what told tells, as data -/
def toldD : Kd → Str → List PyData
  | .n, _ => [.str "none"]
  | .l, x => [.str "length", .str x]
  | .r, x => [.str "rest", .str x]
theorem told_dp {K : PySem.W.Frag} {H : Hp} (k : Kd) (x : Str) : DpAll K H (toldV k x) (toldD k x) := by
  cases k with
  | n => exact .cons (.str _) .nil
  | l => exact .cons (.str _) (.cons (.str _) .nil)
  | r => exact .cons (.str _) (.cons (.str _) .nil)
theorem told_lay {k : Kd} {x : Str} (h : PyData.strOk x = true) : PyData.canLay0 (.tuple (toldD k x)) = true := by
  cases k with
  | n =>
    show PyData.canLay0 (.tuple [.str "none"]) = true
    decide +kernel
  | l =>
    show PyData.canLayAll0 [.str "length", .str x] = true
    have e : PyData.strOk ("length" : Str) = true := by decide +kernel
    simp only [PyData.canLayAll0, PyData.canLay0, h, e, Bool.and_self]
  | r =>
    show PyData.canLayAll0 [.str "rest", .str x] = true
    have e : PyData.strOk ("rest" : Str) = true := by decide +kernel
    simp only [PyData.canLayAll0, PyData.canLay0, h, e, Bool.and_self]
theorem told_shaped {k : Kd} {x : Str} (h : PyData.strOk x = true) : SeqAt.shaped (.tuple (toldD k x)) = true := by
  unfold SeqAt.shaped
  rw [told_lay h]
  cases k with
  | n => rfl
  | l => rfl
  | r => rfl
theorem told_eqv {k : Kd} {x : Str} (h : PyData.strOk x = true) : PyData.eqv (.tuple (toldD k x)) (.tuple (toldD k x)) = true := SeqAt.eqv_refl _ (told_lay h)
end FP
set_option Elab.async false
set_option maxRecDepth 100000
set_option maxHeartbeats 4100000
namespace FP
open PySem L2
theorem noQ {c : Prop} [Decidable c] {Q : Bool → Hp → Prop} {H : Hp} (hc : c) (q : Q false H) : Q (!decide c) H := by
  rw [decide_eq_true hc]
  exact q
theorem yesQ {c : Prop} [Decidable c] {Q : V → Hp → Prop} {H : Hp} (hc : c) (q : Q (.bl true) H) : Q (.bl (decide c)) H := by
  rw [decide_eq_true hc]
  exact q
theorem vi {a b : Int} (e : a = b) : V.int a = V.int b := by rw [e]
/-! ### what is awaited, as so many a's -/
def moreN : Kd → Int → Str → Nat
  | .n, _, _ => 0
  | .l, m, x => (m - (x.length : Int)).toNat
  | .r, _, _ => 0
theorem more_is (k : Kd) (m : Int) (x : Str) : moreS k m x = aText (moreN k m x) := by
  cases k with
  | n => exact emp
  | l => rfl
  | r => exact emp
theorem aText_at {n i c : Nat} (h : (aText n).cps[i]? = some c) : c = 97 := by
  have h1 : (List.replicate n 97).toArray[i]? = some c := h
  rw [List.getElem?_toArray] at h1
  exact (List.eq_of_mem_replicate (List.mem_of_getElem? h1))
theorem cat_one (x : Str) (i : Nat) : (x ++ aText i) ++ (⟨#[97]⟩ : Str) = x ++ aText (i + 1) := by
  show (⟨(x.cps ++ (List.replicate i 97).toArray) ++ #[97]⟩ : Str) = ⟨x.cps ++ (List.replicate (i + 1) 97).toArray⟩
  apply congrArg
  rw [Array.append_assoc]
  congr 1
  apply Array.toList_inj.mp
  rw [Array.toList_append, List.replicate_succ']
theorem cat_zero (x : Str) : x ++ aText 0 = x := by
  show (⟨x.cps ++ #[]⟩ : Str) = x
  rw [Array.append_empty]
theorem cat_n (x : Str) (i : Nat) : (x ++ aText i).length = x.length + i := by
  show (x.cps ++ (List.replicate i 97).toArray).size = x.cps.size + i
  simp
theorem cat_a_ok {x : Str} (h : PyData.strOk x = true) : ∀ i, PyData.strOk (x ++ aText i) = true
  | 0 => by rw [cat_zero]; exact h
  | i + 1 => by
    rw [← cat_one]
    exact cat_ok (cat_a_ok h i) (.inr (by decide))
theorem nm1 : ¬ (("whole" : Str) = "text") ∧ ¬ (("whole" : Str) = "size") ∧ ¬ (("whole" : Str) = "most") := by decide +kernel
theorem nm2 : ¬ (("is_open" : Str) = "text") ∧ ¬ (("is_open" : Str) = "size") ∧ ¬ (("is_open" : Str) = "most") := by decide +kernel
theorem nm3 : ¬ (("fed" : Str) = "text") ∧ ¬ (("fed" : Str) = "size") ∧ ¬ (("fed" : Str) = "most") := by decide +kernel
theorem nm4 : ¬ (("awaited" : Str) = "text") ∧ ¬ (("awaited" : Str) = "size") ∧ ¬ (("awaited" : Str) = "most") := by decide +kernel
theorem nm5 : ¬ (("told" : Str) = "text") ∧ ¬ (("told" : Str) = "size") ∧ ¬ (("told" : Str) = "most") := by decide +kernel
section
variable (k : Kd) (m : Int) (x : Str)
theorem no1 : (fl k m x).lookup ("whole" : Str) = none := fl_no nm1.1 nm1.2.1 nm1.2.2 k m x
theorem no2 : (fl k m x).lookup ("is_open" : Str) = none := fl_no nm2.1 nm2.2.1 nm2.2.2 k m x
theorem no3 : (fl k m x).lookup ("fed" : Str) = none := fl_no nm3.1 nm3.2.1 nm3.2.2 k m x
theorem no4 : (fl k m x).lookup ("awaited" : Str) = none := fl_no nm4.1 nm4.2.1 nm4.2.2 k m x
theorem no5 : (fl k m x).lookup ("told" : Str) = none := fl_no nm5.1 nm5.2.1 nm5.2.2 k m x
end
def spRight (K : PySem.W.Frag) (C : Kd → Addr) : Sp := fun vs H Q _ => ∃ (k : Kd) (m : Int) (p l : Addr) (cs : List Nat), vs = [.ref p, .int k.way, .int m, .ref l] ∧ SqL K H l (cs.map fun c => V.str ⟨#[c]⟩) ∧ (∀ c ∈ cs, Pl c) ∧ cs.length ≤ 63 ∧
  MAt C k m H p "" ∧ 0 ≤ m ∧ m ≤ 1000 ∧ (k = .n → m = 0) ∧ l ≠ p ∧ ∀ H', But p H H' → Q (.bl true) H'
theorem scRight : FnScope ["_law_machine", "_law_way", "_law_room", "_law_signs", "_law_text", "_law_sign_here", "_law_whole", "_law_found", "_law_more"] ["_law_machine", "_law_way", "_law_room", "_law_signs"] (defScope sRight) := ⟨rfl, rfl, rfl, by decide +kernel, rfl, by decide +kernel, by decide +kernel⟩
section
variable {P : Program} {w : World} {K : PySem.W.Frag} {mg : Str → Option Value} {base : Heap} {C : Kd → Addr} {f : Addr} {fd : FuncData}
theorem bBool : bootBuiltins "bool" = some (.type "bool") := by decide +kernel
theorem bStr : bootBuiltins "str" = some (.type "str") := by decide +kernel
theorem bIsi : bootBuiltins "isinstance" = some (.builtin "isinstance") := by decide +kernel
theorem kb : PySem.W.kitOne K (.type "bool") (.type "bool") = some true := kit_ty (by decide +kernel)
theorem ks : PySem.W.kitOne K (.type "str") (.type "str") = some true := kit_ty (by decide +kernel)
/-- told against due, both ways of comparing -/
theorem told_due {r : V → V → Hp → VK → Prop} {k : Kd} {m : Int} {p dx : Addr} {y : Str} {σ : St} {H : Hp} {Q : VK} (h0 : σ[0]? = some (some (.ref p))) (hp : H p = some (.ins (C k) dx (fl k m y)))
    (te : TA) (hte : ∀ (H' : Hp) (R : List V → Hp → Prop), R [.int k.way, .str y] H' → te σ H' R)
    (q : ∀ t u H', Same H H' → H' t = some (.tup (toldV k y)) → H' u = some (.tup (toldV k y)) → r (.ref t) (.ref u) H' Q) :
    tOp r (tMeth (C k) "told" (spTold C k) [] E0 (tVar 0) tNil) (tCall spDue [] E0 te) σ H Q := by
  refine ⟨_, h0, p, dx, _, rfl, hp, no5 k m y, p, dx, m, y, rfl, hp, fun t ht => ?_⟩
  refine hte _ _ ⟨k, y, rfl, fun u H' s' hu => ?_⟩
  exact q t u H' ((same_upd ht).trans s') (s' t _ upd_same) hu
theorem ok_right {fD : Addr} {fdD : FuncData} (F : Fun K "_law_right" "_law_right" sRight f fd) (FI : ∀ k, Face P w K mg base C k) (FD : Fun K "_law_due" "_law_due" sDue fD fdD) (bD : Binds K fdD ["_law_way", "_law_text"] []) (gD : mg "_law_due" = some (.ref fD))
    (gL : mg "len" = none) (gI : mg "isinstance" = none) (gB : mg "bool" = none) (gS : mg "str" = none) :
    FnOk P w K mg base CX0 3 f fd ["_law_machine", "_law_way", "_law_room", "_law_signs"] (spRight K C) := by
  have GD : FnOk P w K mg base CX0 1 fD fdD ["_law_way", "_law_text"] spDue := ok_due FD
  refine F.ok scRight (fun vs H Q E h => ?_) (fun cdv A outer s H vs Q E hr h => ?_)
  · obtain ⟨k, m, p, l, cs, rfl, _⟩ := h
    rfl
  · obtain ⟨k, m, p, l, cs, rfl, hS, hcs, hlen, hM, hm0, hm1, hmn, hlp, q⟩ := h
    have r1 : Room 1 _ := hr.mono (by decide)
    have I := FI k
    refine ⟨_, pss_cons (ps_set (i := 4) scRight.nd rfl (Or.inl rfl) pe_str)
      (pss_cons (ps_for PassesOwn.never rfl (pi_list (pv 3)) (pg_name (i := 5) scRight.nd rfl (Or.inl rfl))
        (pss_cons (ps_set (i := 6) scRight.nd rfl (Or.inl rfl) (pe_meth0 (pv 0) I.cl I.mW I.GW hr I.bW .nil pass0))
        (pss_cons (ps_if (PT.imp (t := tNo fun σ _ => ∃ x o5 o7 o8, σ = St7 p k m l x o5 (some (.bl (wholeB k m x))) o7 o8 ∧ x.length ≤ 2000)
          (PW.pt (pw_or (pt_not (pt_val (pe_callB call_isi (by rfl) gI bIsi (pa_cons (pv 6) (pa_cons (pe_bltn (v := .ty "bool") (by rfl) gB bBool rfl) pa_nil)))))
            (pw_or1 (pt_cmpR op_ne (pv 6) (pe_or (pe_cmpR op_ne (pv 1) pe_int (nomark _)) (pe_one (pe_cmpR op_eq (pe_callB call_len_str (by rfl) gL PySem.boot_len (pa_cons (pv 4) pa_nil)) (pv 2) (nomark _)))) (nomark _))))) ?tb) (pss_one (ps_ret pe_bl)) pss_nil)
        (pss_cons (ps_if (PT.imp (t := tNo fun σ H => ∃ x o5 o6 o7 o8, σ = St7 p k m l x o5 o6 o7 o8 ∧ MAt C k m H p x)
          (PW.pt (pw_or (pt_cmpR op_ne (pe_meth0 (pv 0) I.cl I.mO I.GO hr I.bO .nil pass0) (pe_cmpR op_eq (pv 1) pe_int (nomark _)) (nomark _))
            (pw_or1 (pt_not (pt_val (pe_callB call_isi (by rfl) gI bIsi (pa_cons (pe_meth0 (pv 0) I.cl I.mO I.GO hr I.bO .nil pass0) (pa_cons (pe_bltn (v := .ty "bool") (by rfl) gB bBool rfl) pa_nil)))))))) ?tc) (pss_one (ps_ret pe_bl)) pss_nil)
        (pss_cons (ps_set (i := 7) scRight.nd rfl (Or.inl rfl) (pe_meth (pv 0) I.cl I.mF I.GF hr I.bF .nil pass0 (pa_cons (pv 5) pa_nil)))
        (pss_cons (ps_if (PT.imp (t := tNo fun σ _ => ∃ x o5 o6 o8, σ = St7 p k m l x o5 o6 (some (.bl (decide ((x.length : Int) < m)))) o8 ∧ x.length ≤ 2000)
          (PW.pt (pw_or (pt_not (pt_val (pe_callB call_isi (by rfl) gI bIsi (pa_cons (pv 7) (pa_cons (pe_bltn (v := .ty "bool") (by rfl) gB bBool rfl) pa_nil)))))
            (pw_or1 (pt_cmpR op_ne (pv 7) (pe_cmpR op_lt (pe_callB call_len_str (by rfl) gL PySem.boot_len (pa_cons (pv 4) pa_nil)) (pv 2) (nomark _)) (nomark _))))) ?te) (pss_one (ps_ret pe_bl)) pss_nil)
        (pss_cons (ps_if (pt_val (pv 7)) (pss_one (ps_set (i := 4) scRight.nd rfl (Or.inl rfl) (pe_op op_add_str (pv 4) (pv 5)))) pss_nil)
        (pss_one (ps_if (PT.imp (t := tNo fun σ H => ∃ x o5 o6 o7 o8, σ = St7 p k m l x o5 o6 o7 o8 ∧ MAt C k m H p x ∧ x.length ≤ 2000 ∧ PyData.strOk x = true)
          (PW.pt (pw_and (PW.pt (pw_or (pt_cmpR op_ne (pv 1) pe_int (nomark _)) (pw_or1 (pt_cmpR op_eq (pe_callB call_len_str (by rfl) gL PySem.boot_len (pa_cons (pv 4) pa_nil)) (pv 2) (nomark _)))))
            (pw_and1 (pt_cmpR (op_neD hr.units) (pe_meth0 (pv 0) I.cl I.mT I.GT hr I.bT .nil pass0) (pe_call GD r1 (by rfl) gD FD.kp bD .nil pass0 (pa_cons (pv 1) (pa_cons (pv 4) pa_nil))) (nomark _))))) ?tg) (pss_one (ps_ret pe_bl)) pss_nil)))))))))
      (pss_cons (ps_set (i := 8) scRight.nd rfl (Or.inl rfl) (pe_meth0 (pv 0) I.cl I.mA I.GA hr I.bA .nil pass0))
      (pss_cons (ps_if (PT.imp (t := tNo fun σ _ => ∃ x o5 o6 o7, σ = St7 p k m l x o5 o6 o7 (some (.str (moreS k m x))) ∧ x.length ≤ 2000 ∧ (x.length : Int) ≤ m)
          (PW.pt (pw_or (pt_not (pt_val (pe_callB call_isi (by rfl) gI bIsi (pa_cons (pv 8) (pa_cons (pe_bltn (v := .ty "str") (by rfl) gS bStr rfl) pa_nil)))))
            (pw_or (PW.pt (pw_and (pt_cmpR op_ne (pv 1) pe_int (nomark _)) (pw_and1 (pt_cmpR op_ne (pv 8) pe_str (nomark _)))))
            (pw_or1 (PW.pt (pw_and (pt_cmpR op_eq (pv 1) pe_int (nomark _)) (pw_and1 (pt_cmpR op_ne (pe_callB call_len_str (by rfl) gL PySem.boot_len (pa_cons (pv 8) pa_nil)) (pe_op op_sub (pv 2) (pe_callB call_len_str (by rfl) gL PySem.boot_len (pa_cons (pv 4) pa_nil))) (nomark _))))))))) ?tm) (pss_one (ps_ret pe_bl)) pss_nil)
      (pss_cons (ps_for PassesOwn.never rfl (pi_str (pv 8)) (pg_name (i := 5) scRight.nd rfl (Or.inl rfl))
        (pss_one (ps_if (pt_cmpR op_isnot_bl (pe_meth (pv 0) I.cl I.mF I.GF hr I.bF .nil pass0 (pa_cons (pv 5) pa_nil)) pe_bl (nomark _)) (pss_one (ps_ret pe_bl)) pss_nil)))
      (pss_one (ps_ret (pe_and (pe_cmpR op_is_bl (pe_meth0 (pv 0) I.cl I.mW I.GW hr I.bW .nil pass0) pe_bl (nomark _)) (pe_and (pe_cmpR op_eq (pe_meth0 (pv 0) I.cl I.mA I.GA hr I.bA .nil pass0) pe_str (nomark _))
        (pe_one (pe_cmpR (op_eqD hr.units) (pe_meth0 (pv 0) I.cl I.mT I.GT hr I.bT .nil pass0) (pe_call GD r1 (by rfl) gD FD.kp bD .nil pass0 (pa_cons (pv 1) (pa_cons (pe_op op_add_str (pv 4) (pv 8)) pa_nil))) (nomark _))))))))))), ?main⟩
    case tb =>
      rintro σ H Q ⟨⟨x, o5, o7, o8, rfl, hx⟩, q⟩
      refine ⟨_, rfl, _, _, _, _, true, rfl, ClsV.ty _, TyX.base (TyOf.bl _), kb, _, rfl, iteF ?_⟩
      refine ⟨_, rfl, _, rfl, rfl, _, rfl, (?_ : ite _ _ _)⟩
      by_cases hk : k = .l
      · subst hk
        refine iteNS rfl ?_
        exact ⟨_, rfl, _, rfl, small2000 hx, _, rfl, rfl, rfl, _, rfl, noQ rfl (q H (Same.refl H))⟩
      · refine iteNY (fun e => way_ne hk (V.int.inj e)) ?_
        refine ⟨rfl, _, rfl, noQ ?_ (q H (Same.refl H))⟩
        cases k with
        | n => rfl
        | l => exact absurd rfl hk
        | r => rfl
    case tc =>
      rintro σ H Q ⟨⟨x, o5, o6, o7, o8, rfl, dx, hp⟩, q⟩
      refine ⟨_, rfl, p, dx, _, rfl, hp, no2 k m x, p, rfl, _, rfl, rfl, rfl, _, rfl, iteNS (congrArg V.bl (open_is k).symm) ?_⟩
      exact ⟨_, rfl, p, dx, _, rfl, hp, no2 k m x, p, rfl, _, _, _, _, true, rfl, ClsV.ty _, TyX.base (TyOf.bl _), kb, _, rfl, q H (Same.refl H)⟩
    case te =>
      rintro σ H Q ⟨⟨x, o5, o6, o8, rfl, hx⟩, q⟩
      refine ⟨_, rfl, _, _, _, _, true, rfl, ClsV.ty _, TyX.base (TyOf.bl _), kb, _, rfl, iteF ?_⟩
      exact ⟨_, rfl, _, rfl, _, rfl, small2000 hx, _, rfl, _, _, rfl, rfl, rfl, _, rfl, noQ rfl (q H (Same.refl H))⟩
    case tg =>
      rintro σ H Q ⟨⟨x, o5, o6, o7, o8, rfl, ⟨dx, hp⟩, hx, hok⟩, q⟩
      have sec : ∀ Q : Bool → Hp → Prop, (∀ H', Same H H' → Q false H') → tTest (tOp (rNeD K) (tMeth (C k) "told" (spTold C k) [] E0 (tVar 0) tNil) (tCall spDue [] E0 (tCons (tVar 1) (tCons (tVar 4) tNil)))) (St7 p k m l x o5 o6 o7 o8) H Q := fun Q q => by
        refine told_due rfl hp _ (fun H' R h => ⟨_, rfl, _, rfl, h⟩) fun t u H' s' ht hu => ?_
        refine ⟨_, _, Dp.tup (SqT.of ht) (told_dp k x), Dp.tup (SqT.of hu) (told_dp k x), told_shaped hok, told_shaped hok, _, rfl, ?_⟩
        rw [told_eqv hok]
        exact q H' s'
      refine ⟨_, rfl, rfl, _, rfl, ite2 (fun _ => iteT (sec _ q)) (fun _ => ?_)⟩
      refine ⟨_, rfl, _, rfl, small2000 hx, _, rfl, rfl, _, rfl, ?_⟩
      exact ite2 (fun _ => sec _ q) (fun _ => q H (Same.refl H))
    case tm =>
      rintro σ H Q ⟨⟨x, o5, o6, o7, rfl, hx, hle⟩, q⟩
      refine ⟨_, rfl, _, _, _, _, true, rfl, ClsV.ty _, TyX.base (TyOf.str _), ks, _, rfl, iteF ?_⟩
      have qf := q H (Same.refl H)
      cases k with
      | n => exact ⟨_, rfl, rfl, _, rfl, iteNY (by decide) ⟨_, rfl, rfl, _, rfl, iteNS rfl ⟨_, rfl, rfl, _, rfl, iteNo (by decide) qf⟩⟩⟩
      | l =>
        refine ⟨_, rfl, rfl, _, rfl, iteNS rfl (iteF ⟨_, rfl, rfl, _, rfl, iteYes rfl ?_⟩)⟩
        have hl : (aText (m - (x.length : Int)).toNat).length = (m - (x.length : Int)).toNat := aText_len _
        refine ⟨_, rfl, _, rfl, small2000 (n := (aText (m - (x.length : Int)).toNat).length) (by omega), _, rfl, _, rfl, _, rfl, small2000 hx, _, _, rfl, rfl, rfl, _, rfl, noQ (vi ?_) qf⟩
        show ((aText (m - (x.length : Int)).toNat).length : Int) = m - (x.length : Int)
        omega
      | r => exact ⟨_, rfl, rfl, _, rfl, iteNY (by decide) ⟨_, rfl, rfl, _, rfl, iteNS rfl ⟨_, rfl, rfl, _, rfl, iteNo (by decide) qf⟩⟩⟩
    case main =>
      refine ⟨_, rfl, l, rfl, ⟨_, hS⟩, for_list (K := K) (a := l) (xs := cs.map fun c => V.str ⟨#[c]⟩)
        (fun i σ H2 => ∃ x o5 o6 o7, σ = St7 p k m l x o5 o6 o7 none ∧ MAt C k m H2 p x ∧ x.length ≤ i ∧ (x.length : Int) ≤ m ∧ PyData.strOk x = true ∧ But p H H2)
        ⟨"", none, none, none, rfl, hM, (by decide +kernel), (by rw [show ("" : Str).length = 0 by decide +kernel]; exact hm0), (by decide +kernel), But.refl⟩ (fun i σ H2 _ ⟨_, _, _, _, _, _, _, _, _, b⟩ => b.seq hlp hS) ?_ ?_⟩
      · rintro i y σ H2 hi ⟨x, o5, o6, o7, rfl, ⟨dx, hp⟩, hxi, hxm, hok, hb⟩
        have hil : i < cs.length := by
          have hlt := (List.getElem?_eq_some_iff.mp hi).1
          rwa [List.length_map] at hlt
        obtain ⟨c, hcm, rfl⟩ : ∃ c, c ∈ cs ∧ y = V.str ⟨#[c]⟩ := by
          rw [List.getElem?_map, List.getElem?_eq_getElem hil] at hi
          exact ⟨cs[i], List.getElem_mem hil, (Option.some.inj hi).symm⟩
        have hc := hcs c hcm
        have hx : x.length ≤ 2000 := by omega
        refine ⟨_, rfl, p, dx, _, rfl, hp, no1 k m x, p, dx, m, x, rfl, hp, hx, ?_⟩
        refine ⟨⟨x, _, _, _, rfl, hx⟩, fun H3 s3 => iteF ⟨⟨x, _, _, _, _, rfl, dx, s3 _ _ hp⟩, fun H4 s4 => iteF ?_⟩⟩
        have hp4 := s4 _ _ (s3 _ _ hp)
        refine ⟨_, rfl, p, dx, _, rfl, hp4, no3 k m x, _, rfl, p, dx, m, x, c, rfl, hc, hp4, hx, hmn, hxm, fun hlt => ?_, fun heq => ?_⟩
        · refine ⟨⟨x, _, _, _, (by rw [decide_eq_true hlt]; rfl), hx⟩, fun H5 s5 => iteF ?_⟩
          refine ⟨_, rfl, _, rfl, iteT ?_⟩
          refine ⟨_, rfl, _, rfl, _, _, rfl, rfl, (by rw [sizeLine_eq]; show x.length + 1 ≤ 16777216; omega), ?_⟩
          have hl1 := cat_len x c
          refine ⟨⟨x ++ ⟨#[c]⟩, _, _, _, _, rfl, ⟨dx, s5 _ _ upd_same⟩, by omega, cat_ok hok hc⟩, fun H6 s6 => iteF ?_⟩
          exact ⟨x ++ ⟨#[c]⟩, _, _, _, rfl, ⟨dx, s6 _ _ (s5 _ _ upd_same)⟩, by omega, by omega, cat_ok hok hc, (((hb.same s3).same s4).upd.same s5).same s6⟩
        · refine ⟨⟨x, _, _, _, (by rw [decide_eq_false (by omega)]; rfl), hx⟩, fun H5 s5 => iteF ?_⟩
          refine ⟨_, rfl, _, rfl, iteF ?_⟩
          refine ⟨⟨x, _, _, _, _, rfl, ⟨dx, s5 _ _ hp4⟩, hx, hok⟩, fun H6 s6 => iteF ?_⟩
          exact ⟨x, _, _, _, rfl, ⟨dx, s6 _ _ (s5 _ _ hp4)⟩, by omega, hxm, hok, (((hb.same s3).same s4).same s5).same s6⟩
      · rintro σ H2 ⟨x, o5, o6, o7, rfl, ⟨dx, hp⟩, hxi, hxm, hok, hb⟩
        rw [List.length_map] at hxi
        have hx : x.length ≤ 2000 := by omega
        refine ⟨_, rfl, p, dx, _, rfl, hp, no4 k m x, p, dx, m, x, rfl, hp, hx, hxm, hm1, ?_⟩
        refine ⟨⟨x, _, _, _, rfl, hx, hxm⟩, fun H3 s3 => iteF ?_⟩
        rw [more_is k m x]
        have hN : (moreN k m x : Int) ≤ m - x.length ∧ (k = .l → (moreN k m x : Int) = m - x.length) ∧ (k ≠ .l → moreN k m x = 0) := by
          cases k with
          | n => exact ⟨by show (0 : Int) ≤ _; omega, (fun h => by cases h), fun _ => rfl⟩
          | l => exact ⟨by show ((m - (x.length : Int)).toNat : Int) ≤ _; omega, fun _ => by show ((m - (x.length : Int)).toNat : Int) = _; omega, fun h => absurd rfl h⟩
          | r => exact ⟨by show (0 : Int) ≤ _; omega, (fun h => by cases h), fun _ => rfl⟩
        generalize moreN k m x = N at hN
        have hsz : (aText N).cps.size = N := aText_len N
        refine ⟨_, rfl, _, rfl, for_it (walk_str (z := aText N)) (fun i σ H4 => ∃ o5 o6 o7, σ = St7 p k m l x o5 o6 o7 (some (.str (aText N))) ∧ MAt C k m H4 p (x ++ aText i) ∧ But p H H4)
          ⟨_, _, _, rfl, (by rw [cat_zero]; exact ⟨dx, s3 _ _ hp⟩), hb.same s3⟩ (fun _ _ _ _ _ => trivial) ?_ ?_⟩
        · rintro i y σ H4 H5 hi ⟨o5, o6, o7, rfl, ⟨dx, hp⟩, hb⟩ ⟨rfl, c, hc, rfl⟩
          obtain rfl := aText_at hc
          rw [hsz] at hi
          have hl := cat_n x i
          refine ⟨_, rfl, p, dx, _, rfl, hp, no3 k m _, _, rfl, p, dx, m, x ++ aText i, 97, rfl, .inr (by decide), hp, by omega, hmn, by omega, fun _ => ?_, fun e => ?_⟩
          · exact ⟨true, true, rfl, rfl, _, rfl, iteNS rfl ⟨_, _, _, rfl, (by rw [← cat_one]; exact ⟨dx, upd_same⟩), hb.upd⟩⟩
          · exfalso
            omega
        · rintro σ H4 ⟨o5, o6, o7, rfl, ⟨dx, hp⟩, hb⟩
          rw [hsz] at hp
          have hl := cat_n x N
          have hX : PyData.strOk (x ++ aText N) = true := cat_a_ok hok N
          have hw : wholeB k m (x ++ aText N) = true := by
            cases k with
            | n => rfl
            | l => exact decide_eq_true (vi (by have := hN.2.1 rfl; omega))
            | r => rfl
          have ha : moreS k m (x ++ aText N) = "" := by
            cases k with
            | n => rfl
            | l =>
              show aText (m - ((x ++ aText N).length : Int)).toNat = ""
              rw [show (m - ((x ++ aText N).length : Int)).toNat = 0 by have := hN.2.1 rfl; omega]
              exact emp.symm
            | r => rfl
          refine ⟨_, rfl, p, dx, _, rfl, hp, no1 k m _, p, dx, m, _, rfl, hp, by omega, _, _, rfl, rfl, _, rfl, iteYes hw ?_⟩
          refine ⟨_, rfl, p, dx, _, rfl, hp, no4 k m _, p, dx, m, _, rfl, hp, by omega, by omega, hm1, rfl, _, rfl, iteYes (congrArg V.str ha) ?_⟩
          refine told_due rfl hp _ (fun H' R h => ⟨_, rfl, _, rfl, _, rfl, _, _, rfl, rfl, (by rw [sizeLine_eq]; have := aText_len N; omega), h⟩) fun t u H' s' ht hu => ?_
          refine ⟨_, _, Dp.tup (SqT.of ht) (told_dp k _), Dp.tup (SqT.of hu) (told_dp k _), told_shaped hX, told_shaped hX, ?_⟩
          rw [told_eqv hX]
          exact q H' (hb.same s')
end
end FP
set_option Elab.async false
set_option maxRecDepth 100000
set_option maxHeartbeats 4100000
namespace FP
open PySem L2
theorem way_of (z : Int) : ∃ k : Kd, z % 3 = k.way := by
  have h : z % 3 = 0 ∨ z % 3 = 1 ∨ z % 3 = 2 := by omega
  rcases h with h | h | h
  · exact ⟨.n, h⟩
  · exact ⟨.l, h⟩
  · exact ⟨.r, h⟩
theorem cut_int {ns : List Int} {lo hi : Option Int} {i : Nat} {y : V} (h : (cutV (ns.map V.int) lo hi)[i]? = some y) : ∃ z : Int, y = V.int z := by
  have h1 : y ∈ cutV (ns.map V.int) lo hi := List.mem_of_getElem? h
  have h2 : y ∈ ns.map V.int := List.mem_of_mem_drop (List.mem_of_mem_take h1)
  obtain ⟨z, _, e⟩ := List.mem_map.mp h2
  exact ⟨z, e.symm⟩
theorem room_at (k : Kd) (size M : Int) : atI [V.int 0, V.int size, V.int M] k.way = some (V.int (rm k size M)) := by
  cases k <;> rfl
theorem seqT_but {K : PySem.W.Frag} {H H' : Hp} {D b : Addr} {xs ys : List V} (e : But D H H') (hD : H D = some (.lst xs)) (h : SqT K H b ys) : SqT K H' b ys := by
  rcases h with h | kk
  · rcases h with t | ⟨ob, t⟩
    · exact .inl (.inl (e _ _ t (ne_of t hD (by intro z; cases z))))
    · exact .inl (.inr ⟨ob, e _ _ t (ne_of t hD (by intro z; cases z))⟩)
  · exact .inr kk
theorem Book.but {K : PySem.W.Frag} {H H' : Hp} {D b : Addr} {xs : List V} {fs M ps dp : Int} (h : Book K H b fs M ps dp) (hD : H D = some (.lst xs)) (e : But D H H') : Book K H' b fs M ps dp := by
  obtain ⟨wd, nm, vl, h⟩ := h
  exact ⟨wd, nm, vl, seqT_but e hD h⟩
def spLaw (K : PySem.W.Frag) : Sp := fun vs H Q _ => ∃ (a : Addr) (zs : List Int), vs = [.ref a] ∧ zs.length ≤ 63 ∧ SqL K H a (zs.map V.int) ∧ ∀ Hz, Q (.bl true) Hz
abbrev nmLaw : List Str := ["_law_script", "_law_book_here", "_law_number", "_law_way", "_law_size", "_law_room", "_law_signs", "_law_machine", "_law_cell"]
theorem scLaw : FnScope nmLaw ["_law_script"] (defScope sLaw) := ⟨rfl, rfl, rfl, by decide +kernel, rfl, by decide +kernel, by decide +kernel⟩
section
variable {P : Program} {w : World} {K : PySem.W.Frag} {mg : Str → Option Value} {base : Heap} {C : Kd → Addr} {f : Addr} {fd : FuncData}
theorem ok_law {B fM fC fS fK fD fR : Addr} {fdM fdC fdS fdK fdD fdR : FuncData} (F : Fun K "law" "law" sLaw f fd) (FI : ∀ k, Face P w K mg base C k)
    (FM : Fun K "_law_mixed" "_law_mixed" sMixed fM fdM) (bM : Binds K fdM ["_law_cell", "_law_k"] []) (gM : mg "_law_mixed" = some (.ref fM))
    (FC : Fun K "_law_cell_at" "_law_cell_at" sCellAt fC fdC) (bC : Binds K fdC ["_law_script", "_law_k"] []) (gC : mg "_law_cell_at" = some (.ref fC))
    (FS : Fun K "_law_sign" "_law_sign" sSign fS fdS) (bS : Binds K fdS ["_law_number"] []) (gS : mg "_law_sign" = some (.ref fS))
    (FK : Fun K "_law_book" "_law_book" sBook fK fdK) (bK : Binds K fdK ["_law_cell"] []) (gK : mg "_law_book" = some (.ref fK))
    (GD : FnOk P w K mg base CX0 4 fD fdD ["_law_way", "_law_size", "_law_book_here"] (spMade K C)) (kD : PySem.W.keepIn K (.ref fD) = true) (bD : Binds K fdD ["_law_way", "_law_size", "_law_book_here"] []) (gD : mg "_law_made" = some (.ref fD))
    (GR : FnOk P w K mg base CX0 3 fR fdR ["_law_machine", "_law_way", "_law_room", "_law_signs"] (spRight K C)) (kR : PySem.W.keepIn K (.ref fR) = true) (bR : Binds K fdR ["_law_machine", "_law_way", "_law_room", "_law_signs"] []) (gR : mg "_law_right" = some (.ref fR))
    (gB : mg "Body" = some (.ref B)) (kit : ∀ k, PySem.W.kitOne K (.ref (C k)) (.ref B) = some true)
    (hgd : PySem.W.specialIn K (.builtin "object.__class__") "__get__" = some (some (.builtin "getset_descriptor.__get__"))) (htk : PySem.W.takesIn K (.builtin "object.__class__") = some true)
    (gL : mg "len" = none) (gI : mg "isinstance" = none) (gN : mg "min" = none) : FnOk P w K mg base CX0 5 f fd ["_law_script"] (spLaw K) := by
  have GM : FnOk P w K mg base CX0 1 fM fdM ["_law_cell", "_law_k"] spMixed := ok_mixed FM
  have GC : FnOk P w K mg base CX0 1 fC fdC ["_law_script", "_law_k"] (spCellAt K) := ok_cellAt FC gL
  have GS : FnOk P w K mg base CX0 1 fS fdS ["_law_number"] spSign := ok_sign FS
  have GK : FnOk P w K mg base CX0 1 fK fdK ["_law_cell"] (spBook K) := ok_book FK
  refine F.ok scLaw (fun vs H Q E h => ?_) (fun cdv A outer s H vs Q E hr h => ?_)
  · obtain ⟨a, ns, rfl, _⟩ := h
    rfl
  · obtain ⟨a, ns, rfl, hlen, hSc, q⟩ := h
    have r1 : Room 1 _ := hr.mono (by decide)
    have r3 : Room 3 _ := hr.mono (by decide)
    refine ⟨_, pss_cons (ps_set (i := 1) scLaw.nd rfl (Or.inl rfl) (pe_call GK r1 (by rfl) gK FK.kp bK .nil pass0 (pa_cons (pe_call GM r1 (by rfl) gM FM.kp bM .nil pass0 (pa_cons (pe_call GC r1 (by rfl) gC FC.kp bC .nil pass0 (pa_cons (pv 0) (pa_cons pe_int pa_nil))) (pa_cons pe_int pa_nil))) pa_nil)))
      (pss_cons (ps_set (i := 2) scLaw.nd rfl (Or.inl rfl) (pe_call GM r1 (by rfl) gM FM.kp bM .nil pass0 (pa_cons (pe_call GC r1 (by rfl) gC FC.kp bC .nil pass0 (pa_cons (pv 0) (pa_cons pe_int pa_nil))) (pa_cons pe_int pa_nil))))
      (pss_cons (ps_set (i := 3) scLaw.nd rfl (Or.inl rfl) (PE.imp (t := fun σ H Q => ∃ (z : Int) (k : Kd), σ[2]? = some (some (V.int z)) ∧ z % 3 = k.way ∧ Q (V.int k.way) H) (pe_op op_mod (pv 2) pe_int)
        (fun σ H Q ⟨z, k, e, h, q⟩ => ⟨_, e, _, _, rfl, rfl, (by show (0 : Int) < 3; decide), (by show Q (V.int (z % 3)) H; rw [h]; exact q)⟩)))
      (pss_cons (ps_set (i := 4) scLaw.nd rfl (Or.inl rfl) (pe_ix ix_list (pe_lst (pa_cons (pe_op op_mod (pe_op op_fdiv (pv 2) pe_int) (pe_op op_add (pe_ix ix_tup (pv 1) pe_int (fun _ _ => rfl)) pe_int))
          (pa_cons (pe_op op_mod (pe_op op_fdiv (pv 2) pe_int) (pe_callB (call_min2 rfl) (by rfl) gN (by decide +kernel) (pa_cons (pe_op op_add (pe_ix ix_tup (pv 1) pe_int (fun _ _ => rfl)) pe_int) (pa_cons pe_int pa_nil))))
          (pa_cons (pe_ix ix_tup (pv 1) pe_int (fun _ _ => rfl)) (pa_cons pe_int pa_nil))))) (pe_op op_mod (pe_op op_fdiv (pv 2) pe_int) pe_int) (fun _ _ => rfl)))
      (pss_cons (ps_set (i := 5) scLaw.nd rfl (Or.inl rfl) (pe_ix ix_list (pe_lst (pa_cons pe_int (pa_cons (pv 4) (pa_cons (pe_ix ix_tup (pv 1) pe_int (fun _ _ => rfl)) pa_nil)))) (pv 3) (fun _ _ => rfl)))
      (pss_cons (ps_setLc (i := 6) (own := [("_law_cell", 8)]) (g := gName 8) (tt := tYes) rfl scLaw.nd rfl rfl (sw_true rfl rfl rfl (by decide +kernel)) (pi_list (pe_slice sl_list (pv 0) (po_some pe_int) (po_some pe_int)))
          (blkOk_by (own := [("_law_cell", 8)]) (N := nmLaw) (sc := defScope sLaw) (by decide +kernel)) (fun _ _ _ _ _ => pg_name (i := 8) scLaw.nd rfl (Or.inl rfl)) (fun _ _ _ _ _ => pts_nil)
          (fun _ _ _ _ _ => pe_call GS r1 (by rfl) gS FS.kp bS .nil pass0 (pa_cons (pe_call GM r1 (by rfl) gM FM.kp bM .nil pass0 (pa_cons (pv 8) (pa_cons pe_int pa_nil))) pa_nil)))
      (pss_cons (ps_for PassesOwn.never rfl (pi_list (pe_call GD hr (by rfl) gD kD bD .nil pass0 (pa_cons (pv 3) (pa_cons (pv 4) (pa_cons (pv 1) pa_nil))))) (pg_name (i := 7) scLaw.nd rfl (Or.inl rfl))
        (pss_one (ps_if (PW.pt (pw_or (pt_not (pt_val (pe_callB call_isi (by rfl) gI bIsi (pa_cons (pv 7) (pa_cons (pe_glob (by rfl) gB (v := .ref B) rfl) pa_nil)))))
          (pw_or1 (pt_not (pt_val (pe_call GR r3 (by rfl) gR kR bR .nil pass0 (pa_cons (pv 7) (pa_cons (pv 3) (pa_cons (pv 5) (pa_cons (pv 6) pa_nil)))))))))) (pss_one (ps_ret pe_bl)) pss_nil)))
      (pss_one (ps_ret pe_bl)))))))), ?_⟩
    -- the book
    refine ⟨_, rfl, a, ns, 0, rfl, hSc, fun z0 => ⟨z0, 1, rfl, fun z1 z1a z1b => ⟨z1, rfl, z1a, fun b fs M ps dp H1 s1 hb hM0 hM1 => ?_⟩⟩⟩
    -- the number, the way
    refine ⟨_, rfl, a, ns, 1, rfl, s1.seq hSc, fun z2 => ⟨z2, 2, rfl, fun z z2a z2b => ?_⟩⟩
    obtain ⟨k, hk⟩ := way_of z
    refine ⟨z, k, rfl, hk, ?_⟩
    -- the size
    obtain ⟨wd, nm, vl, hb0⟩ := id hb
    have hmn : 0 < (if 30 < M + 1 then (30 : Int) else M + 1) := by split <;> omega
    have hmx : (if 30 < M + 1 then (30 : Int) else M + 1) ≤ M + 1 := by split <;> omega
    refine ⟨_, rfl, _, _, rfl, rfl, ⟨by decide, by decide⟩, _, rfl, b, _, 4, V.int M, rfl, rfl, hb0, rfl, _, _, rfl, rfl, _, _, rfl, rfl, (by show (0 : Int) < M + 1; omega),
      _, rfl, _, _, rfl, rfl, ⟨by decide, by decide⟩, _, rfl, b, _, 4, V.int M, rfl, rfl, hb0, rfl, _, _, rfl, rfl, _, _, rfl, _, _, rfl, rfl, hmn,
      _, rfl, b, _, 4, V.int M, rfl, rfl, hb0, rfl, (by show 4 ≤ sizeLine; decide), fun l1 hl1 => ?_⟩
    obtain ⟨size, eS, hs0, hs1⟩ := pick4 (a := z / 3 % (M + 1)) (b := z / 3 % (if 30 < M + 1 then (30 : Int) else M + 1)) (c := M) (d := 0) (z := z / 7) (R := fun v => 0 ≤ v ∧ v ≤ M)
      ⟨Int.emod_nonneg _ (by omega), by have := Int.emod_lt_of_pos (z / 3) (show 0 < M + 1 by omega); omega⟩
      ⟨Int.emod_nonneg _ (by omega), by have := Int.emod_lt_of_pos (z / 3) hmn; omega⟩ (by omega) (by omega)
    refine ⟨_, rfl, _, _, rfl, rfl, ⟨by decide, by decide⟩, _, _, rfl, rfl, (by show (0 : Int) < 4; decide), l1, _, _, _, rfl, rfl, SqL.of upd_same, eS, ?_⟩
    -- the room
    refine ⟨_, rfl, _, rfl, b, _, 4, V.int M, rfl, rfl, seqT (same_upd hl1) hb0, rfl, (by show 3 ≤ sizeLine; decide), fun l2 hl2 => ?_⟩
    refine ⟨_, rfl, l2, _, _, V.int (rm k size M), rfl, rfl, SqL.of upd_same, room_at k size M, ?_⟩
    have hr0 : 0 ≤ rm k size M ∧ rm k size M ≤ 1000 ∧ (k = .n → rm k size M = 0) := by
      cases k with
      | n => exact ⟨Int.le_refl 0, (by show (0 : Int) ≤ 1000; decide), fun _ => rfl⟩
      | l => exact ⟨hs0, by show size ≤ 1000; omega, fun h => by cases h⟩
      | r => exact ⟨hM0, hM1, fun h => by cases h⟩
    -- the signs
    refine ⟨_, rfl, _, rfl, _, rfl, a, _, rfl, ((s1.trans (same_upd hl1)).trans (same_upd hl2)).seq hSc, fun p hp => ⟨p, rfl, ⟨_, SqL.of upd_same⟩, fun D hD => lc_list (K := K) (a := p) (xs := cutV (ns.map V.int) (some 2) (some 42))
      (fun i H5 => ∃ cs : List Nat, H5 D = some (.lst (cs.map fun c => V.str ⟨#[c]⟩)) ∧ (∀ c ∈ cs, Pl c) ∧ cs.length ≤ i ∧ H5 p = some (.lst (cutV (ns.map V.int) (some 2) (some 42))) ∧ Book K H5 b fs M ps dp)
      ⟨[], upd_same, (fun c hc => by cases hc), Nat.le_refl _, (same_upd hD) _ _ upd_same, ⟨wd, nm, vl, seqT ((((same_upd hl1).trans (same_upd hl2)).trans (same_upd hp)).trans (same_upd hD)) hb0⟩⟩ (fun i H5 _ ⟨_, _, _, _, s5, _⟩ => SqL.of s5) ?_ ?_⟩⟩
    · rintro i y H5 hi ⟨cs, hD5, hcs, hl5, s5, hb5⟩
      obtain ⟨u, rfl⟩ := cut_int hi
      have hil : i < (cutV (ns.map V.int) (some 2) (some 42)).length := (List.getElem?_eq_some_iff.mp hi).1
      have hcl := cutV_length (ns.map V.int) (some 2) (some 42)
      rw [List.length_map] at hcl
      refine ⟨rfl, ?_⟩
      refine ⟨_, rfl, u, 3, rfl, fun v _ _ => ⟨v, rfl, fun c hc => ⟨_, hD5, small1000 (by rw [List.length_map]; omega), ?_⟩⟩⟩
      refine ⟨cs ++ [c], by rw [List.map_append]; exact upd_same, fun c' hc' => ?_, by rw [List.length_append]; show cs.length + 1 ≤ i + 1; omega, ?_, hb5.but hD5 (But.refl.upd)⟩
      · rcases List.mem_append.mp hc' with h | h
        · exact hcs c' h
        · obtain rfl := List.mem_singleton.mp h
          exact hc
      · rw [upd_ne (ne_of_none upd_same hD)]
        exact s5
    · rintro H5 ⟨cs, hD5, hcs, hl5, s5, hb5⟩
      have hcl := cutV_length (ns.map V.int) (some 2) (some 42)
      rw [List.length_map] at hcl
      -- for machine in made
      refine ⟨_, rfl, _, rfl, _, rfl, k, size, b, fs, M, ps, dp, rfl, hb5, fun l m1 m2 H6 s6 hne hl a1 a2 n1 n2 => ?_⟩
      refine ⟨l, rfl, ⟨_, SqL.of hl⟩, for_list (K := K) (a := l) (xs := [V.ref m1, V.ref m2])
        (fun i σ H7 => ∃ o7, σ = [some (.ref a), some (.ref b), some (.int z), some (.int k.way), some (.int size), some (.int (rm k size M)), some (.ref D), o7, none] ∧ H7 l = some (.lst [V.ref m1, V.ref m2]) ∧
          H7 D = some (.lst (cs.map fun c => V.str ⟨#[c]⟩)) ∧ (i = 0 → MAt C k (rm k size M) H7 m1 "") ∧ (i ≤ 1 → MAt C k (rm k size M) H7 m2 ""))
        ⟨none, rfl, hl, s6 _ _ hD5, fun _ => a1, fun _ => a2⟩ (fun i σ H7 _ ⟨_, _, h, _⟩ => SqL.of h) ?_ ?_⟩
      · rintro i y σ H7 hi ⟨o7, rfl, hl7, hD7, c1, c2⟩
        obtain ⟨p, rfl, hM, hp1⟩ : ∃ p, y = V.ref p ∧ MAt C k (rm k size M) H7 p "" ∧ (i = 0 → p = m1) := by
          match i, hi with
          | 0, hi => exact ⟨m1, (Option.some.inj hi).symm, c1 rfl, fun _ => rfl⟩
          | 1, hi => exact ⟨m2, (Option.some.inj hi).symm, c2 (Nat.le_refl _), fun h => by cases h⟩
          | i + 2, hi => cases hi
        obtain ⟨dx, hpx⟩ := hM
        have I := FI k
        refine ⟨_, rfl, _, _, _, _, true, rfl, ClsV.own B, TyX.base (TyOf.ins hpx I.cl I.ha hgd htk I.hm), kit k, _, rfl, iteF ?_⟩
        refine ⟨_, rfl, _, rfl, _, rfl, _, rfl, k, _, p, D, cs, rfl, SqL.of hD7, hcs, by omega, ⟨dx, hpx⟩, hr0.1, hr0.2.1, hr0.2.2, ne_of hD7 hpx (by intro z; cases z), fun H8 b8 => ⟨_, rfl, iteF ?_⟩⟩
        refine ⟨_, rfl, b8 _ _ hl7 (ne_of hl7 hpx (by intro z; cases z)), b8 _ _ hD7 (ne_of hD7 hpx (by intro z; cases z)), (fun h => by cases h), fun h => ?_⟩
        have h0 : i = 0 := by omega
        obtain rfl := hp1 h0
        obtain ⟨dy, hy⟩ := c2 (by omega)
        exact ⟨dy, b8 _ _ hy (Ne.symm hne)⟩
      · rintro σ H7 ⟨o7, rfl, _⟩
        exact q H7
end
end FP
set_option Elab.async false
set_option maxRecDepth 100000
set_option maxHeartbeats 0
namespace FP
open PySem L2
/-! ### what the top has written: defs and facts by names -/
def mkD (at_ : Str × Option Str) (x qual : Str) (st : Stmt) : He.DefD := ⟨at_, x, qual, defArgs st, defBody st, defScope st, [], []⟩
def fn : List He.DefD := [
  mkD ("is_plain", none) "is_plain" "is_plain" sPlain,
  mkD ("NoBody", some "fed") "fed" "Body.fed" bFed,
  mkD ("NoBody", some "whole") "whole" "NoBody.whole" nWhole,
  mkD ("NoBody", some "is_open") "is_open" "Body.is_open" bOpen,
  mkD ("NoBody", some "awaited") "awaited" "Body.awaited" bAwaited,
  mkD ("NoBody", some "told") "told" "Body.told" bTold,
  mkD ("LengthBody", some "__init__") "__init__" "LengthBody.__init__" lInit,
  mkD ("LengthBody", some "fed") "fed" "LengthBody.fed" lFed,
  mkD ("LengthBody", some "whole") "whole" "LengthBody.whole" lWhole,
  mkD ("LengthBody", some "is_open") "is_open" "Body.is_open" bOpen,
  mkD ("LengthBody", some "awaited") "awaited" "LengthBody.awaited" lAwaited,
  mkD ("LengthBody", some "told") "told" "LengthBody.told" lTold,
  mkD ("RestBody", some "__init__") "__init__" "RestBody.__init__" rInit,
  mkD ("RestBody", some "fed") "fed" "RestBody.fed" rFed,
  mkD ("RestBody", some "whole") "whole" "RestBody.whole" rWhole,
  mkD ("RestBody", some "is_open") "is_open" "RestBody.is_open" rOpen,
  mkD ("RestBody", some "awaited") "awaited" "Body.awaited" bAwaited,
  mkD ("RestBody", some "told") "told" "RestBody.told" rTold,
  mkD ("Tally", some "__init__") "__init__" "Tally.__init__" tInit,
  mkD ("body_of", none) "body_of" "body_of" sBodyOf,
  mkD ("_law_mixed", none) "_law_mixed" "_law_mixed" sMixed,
  mkD ("_law_cell_at", none) "_law_cell_at" "_law_cell_at" sCellAt,
  mkD ("_law_sign", none) "_law_sign" "_law_sign" sSign,
  mkD ("_law_book", none) "_law_book" "_law_book" sBook,
  mkD ("_law_made", none) "_law_made" "_law_made" sMade,
  mkD ("_law_due", none) "_law_due" "_law_due" sDue,
  mkD ("_law_right", none) "_law_right" "_law_right" sRight,
  mkD ("law", none) "law" "law" sLaw]
def fa : List He.Fa := [
  .glo "is_plain", .glo "Body", .glo "NoBody", .glo "LengthBody", .glo "RestBody", .glo "Tally", .glo "body_of", .glo "_law_mixed", .glo "_law_cell_at", .glo "_law_sign", .glo "_law_book", .glo "_law_made", .glo "_law_due", .glo "_law_right", .glo "law",
  .free "len", .free "isinstance", .free "bool", .free "str", .free "min",
  .cls "NoBody", .cls "LengthBody", .cls "RestBody", .cls "Tally",
  .noat "LengthBody" "size", .noat "LengthBody" "text", .noat "RestBody" "most", .noat "RestBody" "text", .noat "Tally" "spare",
  .meth "NoBody" "fed", .meth "NoBody" "whole", .meth "NoBody" "is_open", .meth "NoBody" "awaited", .meth "NoBody" "told",
  .meth "LengthBody" "fed", .meth "LengthBody" "whole", .meth "LengthBody" "is_open", .meth "LengthBody" "awaited", .meth "LengthBody" "told",
  .meth "RestBody" "fed", .meth "RestBody" "whole", .meth "RestBody" "is_open", .meth "RestBody" "awaited", .meth "RestBody" "told",
  .mkr "LengthBody", .mkr "RestBody", .mkr "Tally"]
/-- a class under another one, as isinstance asks -/
def exC (K : PySem.W.Frag) (C B : Addr) : Bool := He.eqO (PySem.W.findIn K (.ref C) "__class__") (some (some (.builtin "object.__class__"))) && (decide (PySem.W.mroIn K C (.type "object") = some true) && decide (PySem.W.subIn K (.ref C) (.ref B) = some true))
def exO (K : PySem.W.Frag) (C : Addr) : Bool := PySem.W.makesIn K C && (He.eqO (PySem.W.findIn K (.ref C) "__init__") (some (some (.builtin "object.__init__"))) && PySem.W.keepIn K (.ref C))
def exB (K : PySem.W.Frag) (B : Addr) : Bool := PySem.W.hasDictIn K B && (decide (PySem.W.typeIn K (.ref B) = some (.type "type")) && (He.eqO (PySem.W.specialIn K (.builtin "object.__class__") "__get__") (some (some (.builtin "getset_descriptor.__get__"))) && decide (PySem.W.takesIn K (.builtin "object.__class__") = some true)))
def ex (K : PySem.W.Frag) : Bool := exO K (He.ga K "NoBody") && (exB K (He.ga K "Body") && (exC K (He.ga K "NoBody") (He.ga K "Body") && (exC K (He.ga K "LengthBody") (He.ga K "Body") && exC K (He.ga K "RestBody") (He.ga K "Body"))))
abbrev AlY : Type := Bool × He.AlD
def obsY (K : PySem.W.Frag) : AlY := (ex K, He.obsD fa fn K)
def valY : AlY := (true, He.valD fn)
def hookY : PySem.W.Hook where
  α := AlY
  obs := fun s => obsY (He.frG s.heap.get? (He.asD s.heap.get? 5))
  val := fun _ => valY
  says := fun _ h => ∃ K : PySem.W.Frag, K.In h ∧ obsY K = valY
  of := fun _ _ e => ⟨_, He.frG_in, e⟩
  keeps := fun _ _ _ ⟨K, kin, e⟩ kp => ⟨K, PySem.W.Frag.In.keeps kin kp, e⟩
abbrev R : PySem.W.OpenRow := PySem.W.OpenLaw.row PySem.Challenge.rw_framepost_k41_texts_of_bodies
def ob (s : PySem.W.SharedT) : AlY := obsY (He.frG (HandSHeadRun.getT s) (He.asD (HandSHeadRun.getT s) 5))
theorem ob_eq (s : PySem.W.SharedT) : ob s = hookY.obs s.abs := by
  have e : HandSHeadRun.getT s = s.abs.heap.get? := funext (HandSHeadRun.getT_eq s)
  unfold ob
  rw [e]
  rfl
def loose : List Str := ["__name__", "FIGURES", "END_NAMES", "ROW_END", "is_small", "is_plain", "Exact", "RowEnd", "Number", "Name", "Value", "FieldRow", "Fields", "Body", "NoBody", "LengthBody", "RestBody", "PiecesBody", "Tally", "PartReader", "PartsBody", "body_of",
  "_law_mixed", "_law_cell_at", "_law_sign", "_law_book", "_law_made", "_law_due", "_law_right"]
theorem run (w : World) : HandSHeadRun.RunEq R (PySem.W.view R.prog [33]) hookY ob 7000 loose w := by
  intro os
  kernel_rfl
end FP
set_option Elab.async false
set_option maxRecDepth 100000
set_option maxHeartbeats 4100000
namespace FP
open L2 PySem PySem.Spec PyProof.Rows
section
variable {K : PySem.W.Frag}
theorem ex_o {C : Addr} (c : exO K C = true) : MkO K C := by
  obtain ⟨c1, c⟩ := He.ba c
  obtain ⟨c2, c3⟩ := He.ba c
  exact ⟨c1, He.eqO_ok c2, c3⟩
theorem ex_c {C B : Addr} (c : exC K C B = true) : PySem.W.findIn K (.ref C) "__class__" = some (some (.builtin "object.__class__")) ∧ PySem.W.mroIn K C (.type "object") = some true ∧ PySem.W.subIn K (.ref C) (.ref B) = some true := by
  obtain ⟨c1, c⟩ := He.ba c
  obtain ⟨c2, c3⟩ := He.ba c
  exact ⟨He.eqO_ok c1, of_decide_eq_true c2, of_decide_eq_true c3⟩
theorem ex_b {B : Addr} (c : exB K B = true) : PySem.W.hasDictIn K B = true ∧ PySem.W.typeIn K (.ref B) = some (.type "type") ∧
    PySem.W.specialIn K (.builtin "object.__class__") "__get__" = some (some (.builtin "getset_descriptor.__get__")) ∧ PySem.W.takesIn K (.builtin "object.__class__") = some true := by
  obtain ⟨c1, c⟩ := He.ba c
  obtain ⟨c2, c⟩ := He.ba c
  obtain ⟨c3, c4⟩ := He.ba c
  exact ⟨c1, of_decide_eq_true c2, He.eqO_ok c3, of_decide_eq_true c4⟩
theorem fun_of {x qual : Str} {st : Stmt} {f : Addr} {fd : FuncData} (F : FunD K x qual (defArgs st) (defBody st) (defScope st) [] [] f fd) : Fun K x qual st f fd := by
  obtain ⟨⟨oc, od, dV, kV, doc, pm, an, cdv, ct, osl, e, lk, hcd, hd, _⟩, kp⟩ := F
  have e2 : dV = .none := by
    rcases hd with ⟨_, e⟩ | ⟨n, _⟩
    · exact e
    · exact absurd rfl n
  subst e2
  exact ⟨⟨oc, od, kV, doc, pm, an, cdv, ct, osl, e, lk, hcd⟩, kp⟩
theorem def_fun (c : He.SaysD fa fn K) (i : Nat) {at_ : Str × Option Str} {x qual : Str} {st : Stmt} (h : fn[i]? = some (mkD at_ x qual st)) : ∃ fd, Fun K x qual st (He.fAd K at_) fd := by
  obtain ⟨fd, F⟩ := c.def_ i h
  exact ⟨fd, fun_of F⟩
end
def CC (K : PySem.W.Frag) : Kd → Addr
  | .n => He.ga K "NoBody"
  | .l => He.ga K "LengthBody"
  | .r => He.ga K "RestBody"
theorem facts {P : Program} {w : World} {K : PySem.W.Frag} {h : Heap} {mg : Str → Option Value} {f : Addr} (X : K.In h) (G : h.Ns mainGlobals mg) (hfa : mg ("law" : Str) = some (.ref f)) (cc : obsY K = valY) :
    ∃ fd : FuncData, (∀ (s : Shared) (v : Value), BindsTo s fd ⟨[v], []⟩ [("_law_script", v)]) ∧ ∀ base : Heap, K.In base → base.Ns mainGlobals mg → FnOk P w K mg base CX0 5 f fd ["_law_script"] (spLaw K) := by
  have c0 : ex K = true := congrArg (fun z : AlY => z.1) cc
  have c : He.SaysD fa fn K := congrArg (fun z : AlY => z.2) cc
  obtain ⟨x1, c0⟩ := He.ba c0
  obtain ⟨x2, c0⟩ := He.ba c0
  obtain ⟨x3, c0⟩ := He.ba c0
  obtain ⟨x4, x5⟩ := He.ba c0
  have MN := ex_o x1
  obtain ⟨hdB, tyB, hgd, htk⟩ := ex_b x2
  obtain ⟨na, nm, ns⟩ := ex_c x3
  obtain ⟨la, lm, ls⟩ := ex_c x4
  obtain ⟨ra, rm, rs⟩ := ex_c x5
  obtain ⟨d0, F0⟩ := def_fun c 0 (at_ := ("is_plain", none)) (x := "is_plain") (qual := "is_plain") (st := sPlain) rfl
  obtain ⟨d1, F1⟩ := def_fun c 1 (at_ := ("NoBody", some "fed")) (x := "fed") (qual := "Body.fed") (st := bFed) rfl
  obtain ⟨d2, F2⟩ := def_fun c 2 (at_ := ("NoBody", some "whole")) (x := "whole") (qual := "NoBody.whole") (st := nWhole) rfl
  obtain ⟨d3, F3⟩ := def_fun c 3 (at_ := ("NoBody", some "is_open")) (x := "is_open") (qual := "Body.is_open") (st := bOpen) rfl
  obtain ⟨d4, F4⟩ := def_fun c 4 (at_ := ("NoBody", some "awaited")) (x := "awaited") (qual := "Body.awaited") (st := bAwaited) rfl
  obtain ⟨d5, F5⟩ := def_fun c 5 (at_ := ("NoBody", some "told")) (x := "told") (qual := "Body.told") (st := bTold) rfl
  obtain ⟨d6, F6⟩ := def_fun c 6 (at_ := ("LengthBody", some "__init__")) (x := "__init__") (qual := "LengthBody.__init__") (st := lInit) rfl
  obtain ⟨d7, F7⟩ := def_fun c 7 (at_ := ("LengthBody", some "fed")) (x := "fed") (qual := "LengthBody.fed") (st := lFed) rfl
  obtain ⟨d8, F8⟩ := def_fun c 8 (at_ := ("LengthBody", some "whole")) (x := "whole") (qual := "LengthBody.whole") (st := lWhole) rfl
  obtain ⟨d9, F9⟩ := def_fun c 9 (at_ := ("LengthBody", some "is_open")) (x := "is_open") (qual := "Body.is_open") (st := bOpen) rfl
  obtain ⟨d10, F10⟩ := def_fun c 10 (at_ := ("LengthBody", some "awaited")) (x := "awaited") (qual := "LengthBody.awaited") (st := lAwaited) rfl
  obtain ⟨d11, F11⟩ := def_fun c 11 (at_ := ("LengthBody", some "told")) (x := "told") (qual := "LengthBody.told") (st := lTold) rfl
  obtain ⟨d12, F12⟩ := def_fun c 12 (at_ := ("RestBody", some "__init__")) (x := "__init__") (qual := "RestBody.__init__") (st := rInit) rfl
  obtain ⟨d13, F13⟩ := def_fun c 13 (at_ := ("RestBody", some "fed")) (x := "fed") (qual := "RestBody.fed") (st := rFed) rfl
  obtain ⟨d14, F14⟩ := def_fun c 14 (at_ := ("RestBody", some "whole")) (x := "whole") (qual := "RestBody.whole") (st := rWhole) rfl
  obtain ⟨d15, F15⟩ := def_fun c 15 (at_ := ("RestBody", some "is_open")) (x := "is_open") (qual := "RestBody.is_open") (st := rOpen) rfl
  obtain ⟨d16, F16⟩ := def_fun c 16 (at_ := ("RestBody", some "awaited")) (x := "awaited") (qual := "Body.awaited") (st := bAwaited) rfl
  obtain ⟨d17, F17⟩ := def_fun c 17 (at_ := ("RestBody", some "told")) (x := "told") (qual := "RestBody.told") (st := rTold) rfl
  obtain ⟨d18, F18⟩ := def_fun c 18 (at_ := ("Tally", some "__init__")) (x := "__init__") (qual := "Tally.__init__") (st := tInit) rfl
  obtain ⟨d19, F19⟩ := def_fun c 19 (at_ := ("body_of", none)) (x := "body_of") (qual := "body_of") (st := sBodyOf) rfl
  obtain ⟨d20, F20⟩ := def_fun c 20 (at_ := ("_law_mixed", none)) (x := "_law_mixed") (qual := "_law_mixed") (st := sMixed) rfl
  obtain ⟨d21, F21⟩ := def_fun c 21 (at_ := ("_law_cell_at", none)) (x := "_law_cell_at") (qual := "_law_cell_at") (st := sCellAt) rfl
  obtain ⟨d22, F22⟩ := def_fun c 22 (at_ := ("_law_sign", none)) (x := "_law_sign") (qual := "_law_sign") (st := sSign) rfl
  obtain ⟨d23, F23⟩ := def_fun c 23 (at_ := ("_law_book", none)) (x := "_law_book") (qual := "_law_book") (st := sBook) rfl
  obtain ⟨d24, F24⟩ := def_fun c 24 (at_ := ("_law_made", none)) (x := "_law_made") (qual := "_law_made") (st := sMade) rfl
  obtain ⟨d25, F25⟩ := def_fun c 25 (at_ := ("_law_due", none)) (x := "_law_due") (qual := "_law_due") (st := sDue) rfl
  obtain ⟨d26, F26⟩ := def_fun c 26 (at_ := ("_law_right", none)) (x := "_law_right") (qual := "_law_right") (st := sRight) rfl
  obtain ⟨d27, F27⟩ := def_fun c 27 (at_ := ("law", none)) (x := "law") (qual := "law") (st := sLaw) rfl
  have g := fun (i : Nat) (x : Str) (e : fa[i]? = some (.glo x)) => He.glo_ok X G (c.fact i (f := .glo x) e)
  have fr := fun (i : Nat) (x : Str) (e : fa[i]? = some (.free x)) => He.free_ok X G (c.fact i (f := .free x) e)
  have cl := fun (i : Nat) (x : Str) (e : fa[i]? = some (.cls x)) => He.cls_ok (c.fact i (f := .cls x) e)
  have no := fun (i : Nat) (x y : Str) (e : fa[i]? = some (.noat x y)) => He.noat_ok (c.fact i (f := .noat x y) e)
  have me := fun (i : Nat) (x y : Str) (e : fa[i]? = some (.meth x y)) => He.meth_ok (c.fact i (f := .meth x y) e)
  have mk := fun (i : Nat) (x : Str) (e : fa[i]? = some (.mkr x)) => He.mkr_ok (c.fact i (f := .mkr x) e)
  have e := hfa.symm.trans (g 14 "law" rfl)
  cases e
  have b1 : ∀ {x qual : Str} {st : Stmt} {f : Addr} {fd : FuncData} (ps : List Str), Fun K x qual st f fd → (∀ (kV doc pm : Value) (an : Option Addr) (cdv ct : Value) (us : List Value), us.length = ps.length →
      bindArgs (PySem.W.fnOf x qual (defArgs st) (defBody st) (defScope st) .none kV doc pm an cdv ct) ⟨us, []⟩ = pure (ps.zip us)) → Binds K fd ps [] := fun ps F h => F.binds h
  have T : Txt K mg (CC K) := ⟨fun k => match k with
    | .n => cl 20 "NoBody" rfl
    | .l => cl 21 "LengthBody" rfl
    | .r => cl 22 "RestBody" rfl, no 24 "LengthBody" "size" rfl, no 26 "RestBody" "most" rfl, no 25 "LengthBody" "text" rfl, no 27 "RestBody" "text" rfl, fr 15 "len" rfl⟩
  have kit : ∀ k, PySem.W.kitOne K (.ref (CC K k)) (.ref (He.ga K "Body")) = some true := fun k => match k with
    | .n => kit_sub hdB tyB ns
    | .l => kit_sub hdB tyB ls
    | .r => kit_sub hdB tyB rs
  have B0 := b1 ["sign"] F0 fun _ _ _ _ _ _ us hl => match us, hl with | [_], _ => rfl
  obtain ⟨oc, od, kV, doc, pm, an, cdv, ct, osl, rfl, lk, hcd⟩ := id F27.ex
  refine ⟨PySem.W.fnOf "law" "law" (defArgs sLaw) (defBody sLaw) (defScope sLaw) .none kV doc pm an cdv ct, fun s v => .of_eq rfl, fun base _ _ => ?_⟩
  have FI : ∀ k, Face P w K mg base (CC K) k := fun k => match k with
    | .n => ⟨cl 20 "NoBody" rfl, na, nm,
        _, d2, me 30 "NoBody" "whole" rfl, ok_nWhole F2, b1 ["self"] F2 fun _ _ _ _ _ _ us hl => match us, hl with | [_], _ => rfl,
        _, d3, me 31 "NoBody" "is_open" rfl, ok_bOpen (by decide) F3, b1 ["self"] F3 fun _ _ _ _ _ _ us hl => match us, hl with | [_], _ => rfl,
        _, d1, me 29 "NoBody" "fed" rfl, ok_bFed F1, b1 ["self", "sign"] F1 fun _ _ _ _ _ _ us hl => match us, hl with | [_, _], _ => rfl,
        _, d4, me 32 "NoBody" "awaited" rfl, ok_bAwaited (by decide) F4, b1 ["self"] F4 fun _ _ _ _ _ _ us hl => match us, hl with | [_], _ => rfl,
        _, d5, me 33 "NoBody" "told" rfl, ok_bTold F5, b1 ["self"] F5 fun _ _ _ _ _ _ us hl => match us, hl with | [_], _ => rfl⟩
    | .l => ⟨cl 21 "LengthBody" rfl, la, lm,
        _, d8, me 35 "LengthBody" "whole" rfl, ok_lWhole F8 T, b1 ["self"] F8 fun _ _ _ _ _ _ us hl => match us, hl with | [_], _ => rfl,
        _, d9, me 36 "LengthBody" "is_open" rfl, ok_bOpen (by decide) F9, b1 ["self"] F9 fun _ _ _ _ _ _ us hl => match us, hl with | [_], _ => rfl,
        _, d7, me 34 "LengthBody" "fed" rfl, ok_lFed F7 T F0 B0 (g 0 "is_plain" rfl), b1 ["self", "sign"] F7 fun _ _ _ _ _ _ us hl => match us, hl with | [_, _], _ => rfl,
        _, d10, me 37 "LengthBody" "awaited" rfl, ok_lAwaited F10 T, b1 ["self"] F10 fun _ _ _ _ _ _ us hl => match us, hl with | [_], _ => rfl,
        _, d11, me 38 "LengthBody" "told" rfl, ok_lTold F11 T, b1 ["self"] F11 fun _ _ _ _ _ _ us hl => match us, hl with | [_], _ => rfl⟩
    | .r => ⟨cl 22 "RestBody" rfl, ra, rm,
        _, d14, me 40 "RestBody" "whole" rfl, ok_rWhole F14, b1 ["self"] F14 fun _ _ _ _ _ _ us hl => match us, hl with | [_], _ => rfl,
        _, d15, me 41 "RestBody" "is_open" rfl, ok_rOpen F15, b1 ["self"] F15 fun _ _ _ _ _ _ us hl => match us, hl with | [_], _ => rfl,
        _, d13, me 39 "RestBody" "fed" rfl, ok_rFed F13 T F0 B0 (g 0 "is_plain" rfl), b1 ["self", "sign"] F13 fun _ _ _ _ _ _ us hl => match us, hl with | [_, _], _ => rfl,
        _, d16, me 42 "RestBody" "awaited" rfl, ok_bAwaited (by decide) F16, b1 ["self"] F16 fun _ _ _ _ _ _ us hl => match us, hl with | [_], _ => rfl,
        _, d17, me 43 "RestBody" "told" rfl, ok_rTold F17 T, b1 ["self"] F17 fun _ _ _ _ _ _ us hl => match us, hl with | [_], _ => rfl⟩
  have GB : FnOk P w K mg base CX0 3 (He.ga K "body_of") d19 ["end", "book", "room", "deep", "tally"] (spBodyOf K (CC K)) :=
    ok_bodyOf F19 T MN (g 2 "NoBody" rfl) (mk 44 "LengthBody" rfl) F6 (b1 ["self", "size"] F6 fun _ _ _ _ _ _ us hl => match us, hl with | [_, _], _ => rfl) (g 3 "LengthBody" rfl)
      (mk 45 "RestBody" rfl) F12 (b1 ["self", "book"] F12 fun _ _ _ _ _ _ us hl => match us, hl with | [_, _], _ => rfl) (g 4 "RestBody" rfl)
  have GM : FnOk P w K mg base CX0 4 (He.ga K "_law_made") d24 ["_law_way", "_law_size", "_law_book_here"] (spMade K (CC K)) :=
    ok_made F24 GB F19.kp (b1 ["end", "book", "room", "deep", "tally"] F19 fun _ _ _ _ _ _ us hl => match us, hl with | [_, _, _, _, _], _ => rfl) (g 6 "body_of" rfl)
      (mk 46 "Tally" rfl) F18 (b1 ["self", "parts"] F18 fun _ _ _ _ _ _ us hl => match us, hl with | [_, _], _ => rfl) (g 5 "Tally" rfl) (cl 23 "Tally" rfl) (no 28 "Tally" "spare" rfl) (fr 19 "min" rfl)
  have GR : FnOk P w K mg base CX0 3 (He.ga K "_law_right") d26 ["_law_machine", "_law_way", "_law_room", "_law_signs"] (spRight K (CC K)) :=
    ok_right F26 FI F25 (b1 ["_law_way", "_law_text"] F25 fun _ _ _ _ _ _ us hl => match us, hl with | [_, _], _ => rfl) (g 12 "_law_due" rfl) (fr 15 "len" rfl) (fr 16 "isinstance" rfl) (fr 17 "bool" rfl) (fr 18 "str" rfl)
  exact ok_law F27 FI F20 (b1 ["_law_cell", "_law_k"] F20 fun _ _ _ _ _ _ us hl => match us, hl with | [_, _], _ => rfl) (g 7 "_law_mixed" rfl)
    F21 (b1 ["_law_script", "_law_k"] F21 fun _ _ _ _ _ _ us hl => match us, hl with | [_, _], _ => rfl) (g 8 "_law_cell_at" rfl)
    F22 (b1 ["_law_number"] F22 fun _ _ _ _ _ _ us hl => match us, hl with | [_], _ => rfl) (g 9 "_law_sign" rfl)
    F23 (b1 ["_law_cell"] F23 fun _ _ _ _ _ _ us hl => match us, hl with | [_], _ => rfl) (g 10 "_law_book" rfl)
    GM F24.kp (b1 ["_law_way", "_law_size", "_law_book_here"] F24 fun _ _ _ _ _ _ us hl => match us, hl with | [_, _, _], _ => rfl) (g 11 "_law_made" rfl)
    GR F26.kp (b1 ["_law_machine", "_law_way", "_law_room", "_law_signs"] F26 fun _ _ _ _ _ _ us hl => match us, hl with | [_, _, _, _], _ => rfl) (g 13 "_law_right" rfl)
    (g 1 "Body" rfl) kit hgd htk (fr 15 "len" rfl) (fr 16 "isinstance" rfl) (fr 19 "min" rfl)
end FP
open PySem PyProof.Rows PySem.Calls PySem.W
set_option maxHeartbeats 0 in
theorem PySem.Challenge.cw_framepost_k41_texts_of_bodies_holds : PySem.Challenge.rw_framepost_k41_texts_of_bodies.Holds := by
  w_on; o_law
  refine HandSHeadRun.head_any (r := OpenLaw.row PySem.Challenge.rw_framepost_k41_texts_of_bodies) (q := view (OpenLaw.row PySem.Challenge.rw_framepost_k41_texts_of_bodies).prog [33]) (H := FP.hookY) (ob := FP.ob) (M := 7000) (loose := FP.loose) (d := HandSHeadRun.topDef (OpenLaw.row PySem.Challenge.rw_framepost_k41_texts_of_bodies).prog 33) (kwd := []) FP.ob_eq
    (by kernel_rfl) (fun s => by kernel_rfl) FP.run (by kernel_rfl) (by kernel_rfl) (by kernel_rfl) (by rfl) (by first | assumption | decide +kernel) (by decide +kernel) ⟨rfl, rfl, rfl, rfl, rfl, by decide +kernel⟩ ?hw ?hc
  case hw => w_witness2
  case hc =>
    refine L2.walk_ofE (l := PySem.Challenge.rw_framepost_k41_texts_of_bodies) (n := 63) (k := 5) (x := "_law_script") (CX := L2.CX0) rfl (by decide) (by kernel_rfl) ⟨rfl, by decide, by decide⟩ ?F (fun _ _ _ _ z => z)
    intro w mg fa h Y G hmg0
    obtain ⟨K, KX, c⟩ := Y
    have law_at : mg ("law" : PySem.Str) = some (.ref fa) := by
      have e : (HandSHeadRun.topDef (OpenLaw.row PySem.Challenge.rw_framepost_k41_texts_of_bodies).prog 33).name = ("law" : PySem.Str) := by kernel_rfl
      rw [← e]
      exact hmg0
    obtain ⟨fd, hb, hF⟩ := FP.facts (P := (PySem.Challenge.rw_framepost_k41_texts_of_bodies).prog) (w := w) KX G law_at c
    exact ⟨K, fd, FP.spLaw K, KX, hb, fun H a ns hl _ hS => ⟨a, ns, rfl, hl, hS, fun _ => rfl⟩, hF⟩
