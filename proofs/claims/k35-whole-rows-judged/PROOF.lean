import PyProof.Rows.All
import Wide.All
import OpenK.AllK
import Wide.FinOn
import PyProof.EqAt
import PyProof.EqKinds
import PyProof.TupleCall
import PyProof.ReprReads
import PyProof.CodeObj
import KE.KStateDown
import KE.KLam
import KE.KExcSuper
import KE.KSuper
import KE.KIsAll
import KE.KTryMore
import KE.KRevSl
import Lean
import HandS.Base
import HandS.Call
import HandS.List
import HandS.Comp
import HandS.Dict
import HandS.Iter
import HandS.Ends
import HandS.Text
import HandS.More
import HandS.Exc
import HandS.TryOnly
import HandS.ExcOwn
import HandS.ExcSuper
import HandS.ExcField
import HandS.ExcIs
import HandS.ExcBuiltin
import HandS.IsInst
import HandS.Codes
import HandS.Words
import HandS.WordsList
import HandS.WordsExc
import HandS.Defaults
import HandS.MakeKw
import HandS.MakeKwOnly
import HandS.Property
import HandS.TupAny
import HandS.Style
import HandS.Wide
import HandS.Lambda
import HandS.Evl
import HandS.EndBits
import HandS.EndTab
import HandS.CallRecv
import HandS.Head0
import HandS.Head1
import HandS.Head2
import HandS.HeadEnd
import HandS.HeadHook1
import HandS.HeadHook2
import HandS.HeadHook3
import HandS.HeadHook4
import HandS.HeadWalk
import PySem.Challenge.RW_placeworths_k35_whole_rows_judged
import PyProof.NeKinds
import PyProof.StrLawsRepr
import PyProof.ReprRoads
import KE.KExcInit
import KE.KExcIs
import HandS.DeepEq
set_option Elab.async false
set_option linter.all false
set_option maxRecDepth 100000
set_option maxHeartbeats 4000000
namespace K35
open PySem PySem.Spec PyProof.Rows L2 Evl

abbrev prg : Program := PySem.Challenge.pw_placeworths_k35_whole_rows_judged
def topS (i : Nat) : Stmt := prg.main.body.getD i (.Pass ⟨0, 0, 0, 0⟩)
abbrev FnP (K : PySem.W.Frag) (x : Str) (st : Stmt) (f : Addr) (fd : FuncData) : Prop :=
  FunD K x x (defArgs st) (defBody st) (defScope st) [] [] f fd
end K35
set_option maxHeartbeats 4000000
/-! P0: names of the module, promises by name, data in the heap -/
namespace K35
open PySem PySem.Spec PyProof.Rows L2 Evl

def smallS : Str := "abcdefghijklmnopqrstuvwxyz"
def signsS : Str := "abcdefghijklmnopqrstuvwxyz0123456789"
def kindsL : List Str := ["end", "chance", "ours", "theirs", "coin"]

/-- what the walk leans on about names that are no defs -/
structure Nm (K : PySem.W.Frag) (mg : Str → Option Value) : Prop where
  n_len : mg "len" = none
  n_isinstance : mg "isinstance" = none
  n_abs : mg "abs" = none
  n_min : mg "min" = none
  n_max : mg "max" = none
  n_sum : mg "sum" = none
  n_all : mg "all" = none
  n_any : mg "any" = none
  n_sorted : mg "sorted" = none
  n_repr : mg "repr" = none
  n_int : mg "int" = none
  n_bool : mg "bool" = none
  n_str : mg "str" = none
  n_list : mg "list" = none
  n_tuple : mg "tuple" = none
  n_dict : mg "dict" = none
  n_range : mg "range" = none
  n_ValueError : mg "ValueError" = none
  n_ArithmeticError : mg "ArithmeticError" = none
  ZERO : ∃ u, mg "ZERO" = some u ∧ RelV (.ref (He.ga K "ZERO")) u
  ONE : ∃ u, mg "ONE" = some u ∧ RelV (.ref (He.ga K "ONE")) u
  KINDS : ∃ u, mg "KINDS" = some u ∧ RelV (.ref (He.ga K "KINDS")) u
  SMALL : ∃ u, mg "SMALL" = some u ∧ RelV (.str smallS) u
  SIGNS : ∃ u, mg "SIGNS" = some u ∧ RelV (.str signsS) u
  MOST_PLACES : ∃ u, mg "MOST_PLACES" = some u ∧ RelV (.int 24) u
  MOST_ARROWS : ∃ u, mg "MOST_ARROWS" = some u ∧ RelV (.int 8) u
  tZERO : ∀ H, SqT K H (He.ga K "ZERO") [.int 0, .int 1]
  tONE : ∀ H, SqT K H (He.ga K "ONE") [.int 1, .int 1]
  tKINDS : ∀ H, SqT K H (He.ga K "KINDS") (kindsL.map V.str)

theorem pe_gk {X : Cx} {v : V} {x : Str} {pos : Pos} (hg : Gl X x) (h : ∃ u, X.mg x = some u ∧ RelV v u)
    (hd : (x == ("__debug__" : Str)) = false := by decide) : PE X (.Name x pos) (tC v) := C8.pe_gc hg h hd

section
variable {P : Program} {w : World} {K : PySem.W.Frag} {mg : Str → Option Value} {base : Heap}
/-- a def of the text, by its name and body -/
theorem cal_of {x : Str} {st : Stmt} {f : Addr} {fd : FuncData} {N ps : List Str} {k : Nat} {sp : Sp}
    (F : FnP K x st f fd) (hm : mg x = some (.ref f)) (S : FnScope N ps (defScope st))
    (hb : ∀ (kV doc pm : Value) (an : Option Addr) (cdv ct : Value) (us : List Value), us.length = ps.length →
      bindArgs (PySem.W.fnOf x x (defArgs st) (defBody st) (defScope st) .none kV doc pm an cdv ct) ⟨us, []⟩ = pure (ps.zip us))
    (len : ∀ vs H Q E, sp vs H Q E → vs.length = ps.length)
    (hbody : ∀ (cdv : Value) (A : Around) (outer : List Env) (s : Shared) (H : Hp) (vs : List V) (Q : VK) (E : XK),
      Room k (A.deeper (envOfC x (defScope st) s.heap.objs.size f cdv)) → sp vs H Q E →
      ∃ t, PSs (cxOf C8.CX0 P w K mg base N x (defScope st) f cdv A outer s H E).nox (defBody st) t ∧
        t { nx := fun _ H' => Q .non H', rt := Q } (L2.start N vs) H) : C8.Cal P w K mg base (k + 1) x sp [] :=
  ⟨f, fd, ps, [], F.ok S len (fun cdv A outer s H vs Q E hr h =>
    let ⟨t, a, b⟩ := hbody cdv A outer s H vs Q E hr h
    ⟨t, a.nox, b⟩), hm, F.kp, F.bindsN hb, .nil⟩
end

/-! ### pure readings -/
section
variable {K : PySem.W.Frag} {σ : L2.St} {H H' : Hp} {te ta tb : TE} {v : V} {t : TT}
/-- no tuple of ours is fresh: the value is a tuple of these -/
def EvW (te : TE) (σ : L2.St) (H : Hp) (xs : List V) : Prop :=
  ∀ H1, Ex H H1 → ∀ Q : VK, (∀ p H2, Ex H1 H2 → H2 p = some (.tup xs) → Q (.ref p) H2) → te σ H1 Q
/-- .. a list of these -/
def EvM (te : TE) (σ : L2.St) (H : Hp) (xs : List V) : Prop :=
  ∀ H1, Ex H H1 → ∀ Q : VK, (∀ p H2, Ex H1 H2 → H2 p = some (.lst xs) → Q (.ref p) H2) → te σ H1 Q
theorem EvL.m {xs : List V} (h : EvL te σ H xs) : EvM te σ H xs := fun H1 e Q q => h H1 e Q fun p H2 _ e2 h2 => q p H2 e2 h2
theorem EvU.w {xs : List V} (h : EvU te σ H xs) : EvW te σ H xs := fun H1 e Q q => h H1 e Q fun p H2 _ e2 h2 => q p H2 e2 h2
/-- promises: one value; a tuple of these; a list of these -/
def PrV (pre : List V → Hp → V → Prop) : Sp := fun vs H Q _ => ∃ z, pre vs H z ∧ RetV z H Q
def RetW (xs : List V) (H : Hp) (Q : VK) : Prop := ∀ p H2, Ex H H2 → H2 p = some (.tup xs) → Q (.ref p) H2
def RetM (xs : List V) (H : Hp) (Q : VK) : Prop := ∀ p H2, Ex H H2 → H2 p = some (.lst xs) → Q (.ref p) H2
def PrW (pre : List V → Hp → List V → Prop) : Sp := fun vs H Q _ => ∃ xs, pre vs H xs ∧ RetW xs H Q
def PrM (pre : List V → Hp → List V → Prop) : Sp := fun vs H Q _ => ∃ xs, pre vs H xs ∧ RetM xs H Q
theorem ev_pr {pre : List V → Hp → V → Prop} {E : XK} {tas : TA} {vs : List V} {z : V} (h : EvA tas σ H vs)
    (hp : ∀ H1, Ex H H1 → pre vs H1 z) : Ev (tCall (PrV pre) [] E tas) σ H z := fun H1 e Q q =>
  h H1 e _ fun H2 e2 => ⟨z, by rw [List.append_nil]; exact hp H2 (e.trans e2), fun H3 e3 => q H3 (e2.trans e3)⟩
theorem ew_pr {pre : List V → Hp → List V → Prop} {E : XK} {tas : TA} {vs xs : List V} (h : EvA tas σ H vs)
    (hp : ∀ H1, Ex H H1 → pre vs H1 xs) : EvW (tCall (PrW pre) [] E tas) σ H xs := fun H1 e Q q =>
  h H1 e _ fun H2 e2 => ⟨xs, by rw [List.append_nil]; exact hp H2 (e.trans e2), fun p H3 e3 h3 => q p H3 (e2.trans e3) h3⟩
theorem em_pr {pre : List V → Hp → List V → Prop} {E : XK} {tas : TA} {vs xs : List V} (h : EvA tas σ H vs)
    (hp : ∀ H1, Ex H H1 → pre vs H1 xs) : EvM (tCall (PrM pre) [] E tas) σ H xs := fun H1 e Q q =>
  h H1 e _ fun H2 e2 => ⟨xs, by rw [List.append_nil]; exact hp H2 (e.trans e2), fun p H3 e3 h3 => q p H3 (e2.trans e3) h3⟩
theorem s_retW {D : Ends} {xs : List V} (h : EvW te σ H xs) (k : ∀ p H1, Ex H H1 → H1 p = some (.tup xs) → D.rt (.ref p) H1) :
    tRet te D σ H := h H (Ex.refl H) _ k
theorem s_retM {D : Ends} {xs : List V} (h : EvM te σ H xs) (k : ∀ p H1, Ex H H1 → H1 p = some (.lst xs) → D.rt (.ref p) H1) :
    tRet te D σ H := h H (Ex.refl H) _ k
theorem s_asgW {D : Ends} {i : Nat} {xs : List V} (h : EvW te σ H xs)
    (k : ∀ p H1, Ex H H1 → H1 p = some (.tup xs) → D.nx (σ.set i (some (.ref p))) H1) : tAsg te (gName i) D σ H := h H (Ex.refl H) _ k
theorem s_asgM {D : Ends} {i : Nat} {xs : List V} (h : EvM te σ H xs)
    (k : ∀ p H1, Ex H H1 → H1 p = some (.lst xs) → D.nx (σ.set i (some (.ref p))) H1) : tAsg te (gName i) D σ H := h H (Ex.refl H) _ k
/-- an argument list that is used at once -/
theorem seq_mk {D : Ends} {a b : TS} (h : a { D with nx := b D } σ H) : tSeq a b D σ H := h
end
end K35
set_option maxHeartbeats 4000000
/-! P1: gcd, fractions -/
namespace K35
open PySem PySem.Spec PyProof.Rows L2 Evl
section
variable {P : Program} {w : World} {K : PySem.W.Frag} {mg : Str → Option Value} {base : Heap} {f : Addr} {fd : FuncData}

/-! ### gcd -/
def preGcd : List V → Hp → V → Prop := fun vs _ z => ∃ a b : Int, vs = [.int a, .int b] ∧ 0 ≤ b ∧ z = .int (Int.gcd a b : Nat)
theorem gcd_turn {a b : Int} (h : 0 < b) (g : Nat) (e : Int.gcd a b = g) : Int.gcd b (a % b) = g := by
  have q : a % b = a + b * (-(a / b)) := by
    rw [Int.emod_def, Int.mul_neg]
    omega
  rw [← e, Int.gcd_comm a b, q, Int.gcd_add_mul_left_right]
theorem sc_common : FnScope ["first", "last"] ["first", "last"] (defScope (topS 14)) :=
  ⟨rfl, rfl, rfl, by decide +kernel, rfl, by decide +kernel, by decide +kernel⟩
theorem c_common (F : FnP K "common" (topS 14) f fd) (hm : mg "common" = some (.ref f)) (G : Nm K mg) :
    C8.Cal P w K mg base 1 "common" (PrV preGcd) [] := by
  have nd := sc_common.nd
  refine cal_of F hm sc_common (fun _ _ _ _ _ _ us hl => match us, hl with | [_, _], _ => rfl) (fun vs H Q E h => ?_) fun cdv A outer s H vs Q E hr h => ?_
  · obtain ⟨z, ⟨a, b, rfl, _⟩, _⟩ := h
    rfl
  obtain ⟨z, ⟨a, b, rfl, hb, rfl⟩, hQ⟩ := h
  refine ⟨_, (pss_cons (ps_set (i := 0) nd rfl (Or.inl rfl) (pe_callB call_abs (by rfl) G.n_abs PyProof.Rows.boot_abs (pa_cons (pv 0) pa_nil)))
  (pss_cons (ps_while PassesOwn.never (pt_cmpR op_gt (pv 1) pe_int (nomark _)) (pss_one (ps_par (i := 0) (j := 1) (by rfl) nd rfl rfl (by decide) rfl rfl (pa_cons (pv 1) (pa_cons (pe_op op_mod (pe_callTy call_int1 (by rfl) G.n_int PyProof.Rows.boot_int (pa_cons (pv 0) pa_nil)) (pv 1)) pa_nil)) (by rfl))))
  (pss_one (ps_ret (pv 0))))), ?_⟩
  refine ⟨_, rfl, a, rfl, ?_⟩
  refine while_by (fun σ H' => ∃ a' b' : Int, σ = [some (.int a'), some (.int b')] ∧ 0 ≤ a' ∧ 0 ≤ b' ∧ Int.gcd a' b' = Int.gcd a b ∧ H' = H)
    (fun σ _ => match σ with | [_, some (.int b')] => b'.toNat | _ => 0) ?_ ?_ ?_
  · refine ⟨(if a < 0 then -a else a), b, rfl, by split <;> omega, hb, ?_, rfl⟩
    split
    · exact Int.neg_gcd
    · rfl
  · rintro σ H' ⟨a', b', rfl, ha', hb', e, rfl⟩
    refine ⟨_, rfl, _, _, rfl, rfl, _, rfl, ?_⟩
    refine ite2 (fun h1 => ?_) fun h1 => ?_
    · have h2 : 0 < b' := of_decide_eq_true h1
      refine ⟨_, rfl, _, rfl, .inl ⟨_, rfl, _, rfl, _, _, rfl, rfl, h2, _, _, rfl, ?_⟩⟩
      refine ⟨⟨b', a' % b', rfl, hb', Int.emod_nonneg _ (by omega), ?_, rfl⟩, ?_⟩
      · exact gcd_turn h2 _ e
      · show (a' % b').toNat < b'.toNat
        have := Int.emod_lt_of_pos a' h2
        have := Int.emod_nonneg a' (show b' ≠ 0 by omega)
        omega
    · have h2 : ¬ 0 < b' := fun q => h1 (decide_eq_true q)
      have h3 : b' = 0 := by omega
      subst h3
      refine ⟨_, rfl, ?_⟩
      have h4 : a' = (Int.gcd a b : Nat) := by
        rw [← e, Int.gcd_zero_right]
        omega
      rw [h4]
      exact hQ H' (Ex.refl _)
  · rintro σ H' Q1 Q2 q ⟨x, hx, i, j, e1, e2, k, e3, q1⟩
    exact ⟨x, hx, i, j, e1, e2, k, e3, q _ _ q1⟩
end
end K35
set_option maxHeartbeats 4000000
/-! P2: data in the heap; kinds -/
namespace K35
open PySem PySem.Spec PyProof.Rows L2 Evl

mutual
/-- v stands for the data d; nothing of it is the bowl at p -/
inductive DT (p : Addr) (H : Hp) : V → PyData → Prop
  | non : DT p H .non .none
  | bl (b : Bool) : DT p H (.bl b) (.bool b)
  | int (i : Int) : DT p H (.int i) (.int i)
  | str (x : Str) : DT p H (.str x) (.str x)
  | lst {a : Addr} {xs : List V} {ds : List PyData} : (a ≠ p ∧ a ≠ sysModules) → H a = some (.lst xs) → DTs p H xs ds → DT p H (.ref a) (.list ds)
  | tup {a : Addr} {xs : List V} {ds : List PyData} : a ≠ p → H a = some (.tup xs) → DTs p H xs ds → DT p H (.ref a) (.tuple ds)
  | dic {a : Addr} : a ≠ p → H a = some (.dK []) → DT p H (.ref a) (.dict [])
inductive DTs (p : Addr) (H : Hp) : List V → List PyData → Prop
  | nil : DTs p H [] []
  | cons {v : V} {vs : List V} {d : PyData} {ds : List PyData} : DT p H v d → DTs p H vs ds → DTs p H (v :: vs) (d :: ds)
end
/-- all but the bowl at p stays -/
def Exb (p : Addr) (H H' : Hp) : Prop := ∀ a o, a ≠ p → H a = some o → H' a = some o
theorem Exb.refl (p : Addr) (H : Hp) : Exb p H H := fun _ _ _ h => h
theorem Exb.trans {p : Addr} {H H1 H2 : Hp} (a : Exb p H H1) (b : Exb p H1 H2) : Exb p H H2 := fun x o n h => b x o n (a x o n h)
theorem Exb.of {p : Addr} {H H1 : Hp} (a : Ex H H1) : Exb p H H1 := fun x o _ h => a x o h
section
variable {p : Addr} {H H' : Hp}
mutual
theorem DT.keep (e : Exb p H H') : ∀ {v : V} {d : PyData}, DT p H v d → DT p H' v d
  | _, _, .non => .non
  | _, _, .bl b => .bl b
  | _, _, .int i => .int i
  | _, _, .str x => .str x
  | _, _, .lst n h hs => .lst n (e _ _ n.1 h) (DTs.keep e hs)
  | _, _, .tup n h hs => .tup n (e _ _ n h) (DTs.keep e hs)
  | _, _, .dic n h => .dic n (e _ _ n h)
theorem DTs.keep (e : Exb p H H') : ∀ {vs : List V} {ds : List PyData}, DTs p H vs ds → DTs p H' vs ds
  | _, _, .nil => .nil
  | _, _, .cons h hs => .cons (DT.keep e h) (DTs.keep e hs)
end
theorem DT.ex {v : V} {d : PyData} (h : DT p H v d) (e : Ex H H') : DT p H' v d := h.keep (.of e)
theorem DTs.ex {vs : List V} {ds : List PyData} (h : DTs p H vs ds) (e : Ex H H') : DTs p H' vs ds := h.keep (.of e)
theorem DTs.length : ∀ {vs : List V} {ds : List PyData}, DTs p H vs ds → vs.length = ds.length
  | _, _, .nil => rfl
  | _, _, .cons _ hs => congrArg Nat.succ hs.length
theorem DTs.get : ∀ {vs : List V} {ds : List PyData} {i : Nat} {v : V}, DTs p H vs ds → vs[i]? = some v → ∃ d, ds[i]? = some d ∧ DT p H v d
  | _, _, _, _, .nil, e => by simp at e
  | _, _, 0, _, .cons h _, e => by
    simp at e
    subst e
    exact ⟨_, rfl, h⟩
  | _, _, i + 1, v, .cons _ hs, e => by
    obtain ⟨d, h1, h2⟩ := DTs.get (i := i) (v := v) hs (by simpa using e)
    exact ⟨d, by simpa using h1, h2⟩
theorem DTs.getD : ∀ {vs : List V} {ds : List PyData} {i : Nat} {d : PyData}, DTs p H vs ds → ds[i]? = some d → ∃ v, vs[i]? = some v ∧ DT p H v d
  | _, _, _, _, .nil, e => by simp at e
  | _, _, 0, _, .cons h _, e => by
    simp at e
    subst e
    exact ⟨_, rfl, h⟩
  | _, _, i + 1, v, .cons _ hs, e => by
    obtain ⟨d, h1, h2⟩ := DTs.getD (i := i) (d := v) hs (by simpa using e)
    exact ⟨d, by simpa using h1, h2⟩
theorem DTs.app : ∀ {vs us : List V} {ds es : List PyData}, DTs p H vs ds → DTs p H us es → DTs p H (vs ++ us) (ds ++ es)
  | _, _, _, _, .nil, h => h
  | _, _, _, _, .cons a as, h => .cons a (DTs.app as h)
theorem DTs.strs : ∀ zs : List Str, DTs p H (zs.map V.str) (zs.map PyData.str)
  | [] => .nil
  | z :: zs => .cons (.str z) (DTs.strs zs)
end

/-! ### kinds -/
def tyName : PyData → String
  | .none => "NoneType"
  | .bool _ => "bool"
  | .int _ => "int"
  | .str _ => "str"
  | .list _ => "list"
  | .tuple _ => "tuple"
  | .dict _ => "dict"
def isaInt : PyData → Bool
  | .int _ => true
  | .bool _ => true
  | _ => false
def isaBool : PyData → Bool
  | .bool _ => true
  | _ => false
def isaStr : PyData → Bool
  | .str _ => true
  | _ => false
def isaTup : PyData → Bool
  | .tuple _ => true
  | _ => false
theorem kit_int (d : PyData) : kitB (tyName d) "int" = some (isaInt d) := by
  cases d <;> dsimp only [tyName, isaInt] <;> decide +kernel
theorem kit_bool (d : PyData) : kitB (tyName d) "bool" = some (isaBool d) := by
  cases d <;> dsimp only [tyName, isaBool] <;> decide +kernel
theorem kit_str (d : PyData) : kitB (tyName d) "str" = some (isaStr d) := by
  cases d <;> dsimp only [tyName, isaStr] <;> decide +kernel
theorem kit_tup (d : PyData) : kitB (tyName d) "tuple" = some (isaTup d) := by
  cases d <;> dsimp only [tyName, isaTup] <;> decide +kernel
section
variable {K : PySem.W.Frag} {σ : L2.St} {p : Addr} {H : Hp} {te : TE} {v : V} {d : PyData} {n : String} {b : Bool}
theorem DT.ty (h : DT p H v d) : TyX K H v (.type (tyName d)) := by
  cases h with
  | non => exact .base .non
  | bl b => exact .base (.bl b)
  | int i => exact .base (.int i)
  | str x => exact .base (.str x)
  | lst _ h _ => exact .base (.lst h)
  | tup _ h _ => exact .base (.tup h)
  | dic _ h => exact .base (.dK h)
theorem ev_isi (hv : Ev te σ H v) (h : DT p H v d) (hk : kitB (tyName d) n = some b) :
    Ev (tCB (rIsi K) (tCons te (tCons (tC (.ty n)) tNil))) σ H (.bl b) := fun H1 e Q q =>
  hv H1 e _ fun H2 e2 => ⟨v, .ty n, _, _, b, rfl, .ty n, (h.ex (e.trans e2)).ty, kit_ty hk, q H2 e2⟩
theorem et_isi (hv : Ev te σ H v) (h : DT p H v d) (hk : kitB (tyName d) n = some b) :
    EvT (tB (tCB (rIsi K) (tCons te (tCons (tC (.ty n)) tNil)))) σ H b := et_B (ev_isi hv h hk)
/-- len of a tuple, a list -/
theorem ev_lenT {a : Addr} {xs : List V} (ha : Ev te σ H (.ref a)) (h : SqT K H a xs) :
    Ev (tCB (fun xs H Q => ∃ p ys, xs = [.ref p] ∧ (SqL K H p ys ∨ SqT K H p ys) ∧ Q (.int ys.length) H) (tCons te tNil)) σ H (.int (xs.length : Int)) :=
  fun H1 e Q q => ha H1 e _ fun H2 e2 => ⟨a, xs, rfl, .inr (ex_t (e.trans e2) h), q H2 e2⟩
theorem ev_lenL {a : Addr} {xs : List V} (ha : Ev te σ H (.ref a)) (h : SqL K H a xs) :
    Ev (tCB (fun xs H Q => ∃ p ys, xs = [.ref p] ∧ (SqL K H p ys ∨ SqT K H p ys) ∧ Q (.int ys.length) H) (tCons te tNil)) σ H (.int (xs.length : Int)) :=
  fun H1 e Q q => ha H1 e _ fun H2 e2 => ⟨a, xs, rfl, .inl (ex_l (e.trans e2) h), q H2 e2⟩
theorem ev_lenS {z : Str} (ha : Ev te σ H (.str z)) (h : z.length ≤ 1000000) :
    Ev (tCB (fun xs H Q => ∃ z, xs = [.str z] ∧ z.length ≤ sizeLine ∧ Q (.int z.length) H) (tCons te tNil)) σ H (.int (z.length : Int)) :=
  fun H1 e Q q => ha H1 e _ fun H2 e2 => ⟨z, rfl, Nat.le_trans h (by decide), q H2 e2⟩
end
end K35
set_option maxHeartbeats 4000000
/-! P3: sources that are walked; comprehensions, loops; == of a list with an empty one -/
namespace K35
open PySem PySem.Spec PyProof.Rows L2 Evl

/-- the iterator J over H gives xs, whatever is added to H -/
structure Src (J : It) (H : Hp) (xs : List V) : Prop where
  go : ∀ H1, Ex H H1 → ∀ i, i < xs.length → J.go i H1
  yld : ∀ H1, Ex H H1 → ∀ i x H2, i < xs.length → J.yld i H1 x H2 → H2 = H1 ∧ xs[i]? = some x
  stop : ∀ H1, Ex H H1 → J.stop xs.length H1
def EvI (wi : TI) (σ : L2.St) (H : Hp) (xs : List V) : Prop :=
  ∀ H1, Ex H H1 → ∀ R : It → Hp → Prop, (∀ J H2, Ex H1 H2 → Src J H2 xs → R J H2) → wi σ H1 R
section
variable {K : PySem.W.Frag} {σ : L2.St} {H H' : Hp} {te tl : TE} {xs : List V} {a : Addr}
theorem src_list (h : SqL K H a xs) : Src (Itl K a) H xs :=
  ⟨fun H1 e i hi => ⟨xs, xs[i], ex_l e h, by simp [hi]⟩, fun H1 e i x H2 _ ⟨q, r⟩ => ⟨q, r xs (ex_l e h)⟩, fun H1 e => ⟨xs, ex_l e h, Nat.le_refl _⟩⟩
theorem src_tup (h : SqT K H a xs) : Src (Itt K a) H xs :=
  ⟨fun H1 e i hi => ⟨xs, xs[i], ex_t e h, by simp [hi]⟩, fun H1 e i x H2 _ ⟨q, r⟩ => ⟨q, r xs (ex_t e h)⟩, fun H1 e => ⟨xs, ex_t e h, Nat.le_refl _⟩⟩
def rngV (n : Nat) : List V := (List.range n).map fun (i : Nat) => V.int (i : Int)
theorem src_rng (n : Nat) : Src (Itr 0 n) H (rngV n) := by
  have l : (rngV n).length = n := by simp [rngV]
  refine ⟨fun H1 e i hi => by rw [l] at hi; exact hi, fun H1 e i x H2 hi ⟨q, r⟩ => ⟨q, ?_⟩, fun H1 e => by rw [l]; exact Nat.le_refl _⟩
  rw [l] at hi
  subst r
  simp [rngV, hi]
def chs (z : Str) : List Str := z.cps.toList.map fun c => (⟨#[c]⟩ : Str)
theorem chs_len (z : Str) : (chs z).length = z.length := by simp [chs, Str.length]
theorem src_str (z : Str) : Src (Its z) H ((chs z).map V.str) := by
  have l : ((chs z).map V.str).length = z.cps.size := by simp [chs]
  refine ⟨fun H1 e i hi => by rw [l] at hi; exact hi, fun H1 e i x H2 hi ⟨q, c, r1, r2⟩ => ⟨q, ?_⟩, fun H1 e => by rw [l]; exact Nat.le_refl _⟩
  subst r2
  simp [chs, r1]
theorem ei_list (h : Ev tl σ H (.ref a)) (hx : SqL K H a xs) : EvI (iList K tl) σ H xs := fun H1 e R q =>
  h H1 e _ fun H2 e2 => ⟨a, rfl, ⟨xs, ex_l (e.trans e2) hx⟩, q _ H2 e2 (src_list (ex_l (e.trans e2) hx))⟩
theorem ei_tup (h : Ev tl σ H (.ref a)) (hx : SqT K H a xs) : EvI (iTup K tl) σ H xs := fun H1 e R q =>
  h H1 e _ fun H2 e2 => ⟨a, rfl, ⟨xs, ex_t (e.trans e2) hx⟩, q _ H2 e2 (src_tup (ex_t (e.trans e2) hx))⟩
theorem ei_newL (h : EvM tl σ H xs) : EvI (iList K tl) σ H xs := fun H1 e R q =>
  h H1 e _ fun p H2 e2 h2 => ⟨p, rfl, ⟨xs, sq_of h2⟩, q _ H2 e2 (src_list (sq_of h2))⟩
theorem ei_newT (h : EvW tl σ H xs) : EvI (iTup K tl) σ H xs := fun H1 e R q =>
  h H1 e _ fun p H2 e2 h2 => ⟨p, rfl, ⟨xs, st_of h2⟩, q _ H2 e2 (src_tup (st_of h2))⟩
theorem ei_rng {n : Int} (h : Ev te σ H (.int n)) (h1 : -1000 ≤ n) (h2 : n ≤ 100000) : EvI (iRng1 (tCons te tNil)) σ H (rngV n.toNat) := fun H1 e R q =>
  h H1 e _ fun H2 e2 => ⟨n, rfl, by omega, by omega, q _ H2 e2 (src_rng _)⟩
theorem ei_str {z : Str} (h : Ev te σ H (.str z)) : EvI (iStr te) σ H ((chs z).map V.str) := fun H1 e R q =>
  h H1 e _ fun H2 e2 => ⟨z, rfl, q _ H2 e2 (src_str z)⟩
/-- one rule or the other -/
def iOr (u v : TI) : TI := fun σ H R => u σ H R ∨ v σ H R
theorem pi_or {X : Cx} {tg iter : Expr} {u v : TI} (a : PI X tg iter u) (b : PI X tg iter v) : PI X tg iter (iOr u v) :=
  ⟨fun pins s σ H R I h => h.elim (a.run pins s σ H R I) (b.run pins s σ H R I)⟩
def tOrE (u v : TE) : TE := fun σ H Q => u σ H Q ∨ v σ H Q
theorem pe_alt {X : Cx} {e : Expr} {u v : TE} (a : PE X e u) (b : PE X e v) : PE X e (tOrE u v) :=
  ⟨fun pins s σ H R I h => h.elim (a.run pins s σ H R I) (b.run pins s σ H R I)⟩
end

/-! ### comprehensions -/
section
variable {K : PySem.W.Frag} {σ : L2.St} {H : Hp} {wi : TI} {g : TG} {tt : TT} {te : TE} {vs : List Nat} {p : Addr} {xs : List V} {ds : List PyData}
/-- what a turn's target does: the slots behind it -/
def Tg (g : TG) (x : V) (σ : L2.St) (H : Hp) (σ2 : L2.St) : Prop := ∀ Q : L2.St → Hp → Prop, Q σ2 H → g x σ H Q
theorem el_comp {α : Type} {prs : List (V × α)} (f : V × α → Option V) (hI : EvI wi σ H (prs.map (·.1))) (hn : prs.length ≤ 40000)
    (hs : ∀ x a H1, Ex H H1 → (x, a) ∈ prs → ∃ σ2, Tg g x (wipe σ vs) H1 σ2 ∧ wipe σ2 vs = wipe σ vs ∧ EvT tt σ2 H1 (f (x, a)).isSome ∧ ∀ v, f (x, a) = some v → Ev te σ2 H1 v) :
    EvL (tLc wi g tt te vs) σ H (prs.filterMap f) := fun H0 e0 Q q => hI H0 e0 _ fun J H1 e1 S => fun Dl hD => by
  have lm : (prs.map (·.1)).length = prs.length := List.length_map _
  refine ⟨fun i m H' => m = prs.length - i ∧ i ≤ prs.length ∧ Ex H1 H' ∧ H' Dl = some (.lst ((prs.take i).filterMap f)), ⟨prs.length, rfl, Nat.zero_le _, Ex.new hD, upd_same⟩, ?_⟩
  rintro i m H' ⟨rfl, hi, ex, hl⟩
  by_cases hlt : i < prs.length
  · refine .inr ⟨S.go H' ex i (by rw [lm]; exact hlt), fun H'' => i + 1 ≤ prs.length ∧ Ex H1 H'' ∧ H'' Dl = some (.lst ((prs.take (i + 1)).filterMap f)), fun H'' ⟨a, b, c⟩ => ⟨prs.length - (i + 1), by omega, rfl, a, b, c⟩, fun x H'' hy => ?_⟩
    obtain ⟨rfl, hx⟩ := S.yld H' ex i x H'' (by rw [lm]; exact hlt) hy
    have h1 : prs[i]? = some prs[i] := by simp [hlt]
    rw [List.getElem?_map, h1] at hx
    have hx : prs[i].1 = x := by simpa using hx
    have hm : (x, prs[i].2) ∈ prs := by rw [← hx]; exact List.getElem_mem hlt
    have e2 : (x, prs[i].2) = prs[i] := by rw [← hx]
    obtain ⟨σ2, tg, w, ht, hv⟩ := hs x prs[i].2 H'' ((e0.trans e1).trans ex) hm
    have tk : prs.take (i + 1) = prs.take i ++ [prs[i]] := by rw [List.take_add_one, h1]; rfl
    refine tg _ ⟨w, ht H'' (Ex.refl _) _ fun H3 e3 => ?_⟩
    rw [e2] at hv ⊢
    cases hf : f prs[i] with
    | none =>
      show _ ∧ _ ∧ _
      refine ⟨hlt, ex.trans e3, ?_⟩
      rw [tk, List.filterMap_append, List.filterMap_cons, hf]
      simpa using e3 Dl _ hl
    | some v =>
      show te σ2 H3 _
      refine hv v hf H3 e3 _ fun H4 e4 => ⟨_, e4 Dl _ (e3 Dl _ hl), ?_, hlt, Ex.mut ((ex.trans e3).trans e4) hD, ?_⟩
      · have := List.length_filterMap_le f (prs.take i)
        rw [List.length_take] at this
        exact sz_lt (by omega)
      · rw [upd_same, tk, List.filterMap_append, List.filterMap_cons, hf]
        rfl
  · have e : i = prs.length := by omega
    subst e
    refine .inl ⟨by rw [← lm]; exact S.stop H' ex, q Dl H' (fresh_back e1 hD) (e1.trans ex) ?_⟩
    rw [List.take_length] at hl
    exact hl
theorem zip_mem (h : DTs p H xs ds) {x : V} {d : PyData} (hm : (x, d) ∈ xs.zip ds) : d ∈ ds ∧ DT p H x d := by
  revert hm
  induction xs generalizing ds with
  | nil =>
    intro hm
    simp at hm
  | cons y ys ih =>
    intro hm
    cases h with
    | @cons _ _ e es h1 h2 =>
      rcases List.mem_cons.mp hm with q | q
      · cases q
        exact ⟨List.mem_cons_self, h1⟩
      · obtain ⟨a, b⟩ := ih h2 q
        exact ⟨List.mem_cons_of_mem _ a, b⟩
theorem zip_fst (h : DTs p H xs ds) : (xs.zip ds).map (·.1) = xs := List.map_fst_zip (Nat.le_of_eq h.length)
theorem zip_snd (h : DTs p H xs ds) : (xs.zip ds).map (·.2) = ds := List.map_snd_zip (Nat.le_of_eq h.length.symm)
theorem zip_fm (h : DTs p H xs ds) (f : PyData → Option V) : (xs.zip ds).filterMap (fun q => f q.2) = ds.filterMap f := by
  have := List.filterMap_map (f := fun q : V × PyData => q.2) (g := f) (l := xs.zip ds)
  rw [zip_snd h] at this
  exact this.symm
/-- over items of data -/
theorem el_compD (hD : DTs p H xs ds) (f : PyData → Option V) (hI : EvI wi σ H xs) (hn : ds.length ≤ 40000)
    (hs : ∀ x d H1, Ex H H1 → d ∈ ds → DT p H1 x d → ∃ σ2, Tg g x (wipe σ vs) H1 σ2 ∧ wipe σ2 vs = wipe σ vs ∧ EvT tt σ2 H1 (f d).isSome ∧ ∀ v, f d = some v → Ev te σ2 H1 v) :
    EvL (tLc wi g tt te vs) σ H (ds.filterMap f) := by
  rw [← zip_fm hD f]
  refine el_comp _ (by rw [zip_fst hD]; exact hI) (by rw [List.length_zip]; omega) fun x d H1 e hm => ?_
  obtain ⟨a, b⟩ := zip_mem hD hm
  exact hs x d H1 e a (b.ex e)
theorem et_yes {σ : L2.St} {H : Hp} : EvT tYes σ H true := fun H1 _ Q q => q H1 (Ex.refl H1)
/-- no test -/
theorem el_mapD (hD : DTs p H xs ds) (h : PyData → V) (hI : EvI wi σ H xs) (hn : ds.length ≤ 40000)
    (hs : ∀ x d H1, Ex H H1 → d ∈ ds → DT p H1 x d → ∃ σ2, Tg g x (wipe σ vs) H1 σ2 ∧ wipe σ2 vs = wipe σ vs ∧ Ev te σ2 H1 (h d)) :
    EvL (tLc wi g tYes te vs) σ H (ds.map h) := by
  have e : ds.map h = ds.filterMap fun d => some (h d) := by rw [List.filterMap_eq_map']
  rw [e]
  refine el_compD hD _ hI hn fun x d H1 e hm hd => ?_
  obtain ⟨σ2, a, b, c⟩ := hs x d H1 e hm hd
  exact ⟨σ2, a, b, et_yes, fun v hv => by cases hv; exact c⟩
/-- a test -/
theorem el_filD (hD : DTs p H xs ds) (c : PyData → Bool) (h : PyData → V) (hI : EvI wi σ H xs) (hn : ds.length ≤ 40000)
    (hs : ∀ x d H1, Ex H H1 → d ∈ ds → DT p H1 x d → ∃ σ2, Tg g x (wipe σ vs) H1 σ2 ∧ wipe σ2 vs = wipe σ vs ∧ EvT tt σ2 H1 (c d) ∧ (c d = true → Ev te σ2 H1 (h d))) :
    EvL (tLc wi g tt te vs) σ H ((ds.filter c).map h) := by
  have e : (ds.filter c).map h = ds.filterMap fun d => if c d = true then some (h d) else none := by
    clear hs hn hI hD
    induction ds with
    | nil => rfl
    | cons d r ih =>
      cases hc : c d <;> simp [List.filter_cons, List.filterMap_cons, hc, ih]
  rw [e]
  refine el_compD hD _ hI hn fun x d H1 e hm hd => ?_
  obtain ⟨σ2, a, b, t, v⟩ := hs x d H1 e hm hd
  refine ⟨σ2, a, b, ?_, fun w hv => ?_⟩
  · cases hc : c d
    · rw [hc] at t
      exact t
    · rw [hc] at t
      exact t
  · cases hc : c d with
    | false =>
      rw [hc] at hv
      cases hv
    | true =>
      rw [hc] at hv
      cases hv
      exact v hc
/-- the items themselves, by a test: what counts is whether there are any -/
theorem el_anyD (hD : DTs p H xs ds) (c : PyData → Bool) (hI : EvI wi σ H xs) (hn : ds.length ≤ 40000)
    (hs : ∀ x d H1, Ex H H1 → d ∈ ds → DT p H1 x d → ∃ σ2, Tg g x (wipe σ vs) H1 σ2 ∧ wipe σ2 vs = wipe σ vs ∧ EvT tt σ2 H1 (c d) ∧ (c d = true → Ev te σ2 H1 x)) :
    ∃ zs, EvL (tLc wi g tt te vs) σ H zs ∧ zs.isEmpty = !ds.any c := by
  refine ⟨(xs.zip ds).filterMap fun q => if c q.2 = true then some q.1 else none, el_comp _ (by rw [zip_fst hD]; exact hI) (by rw [List.length_zip]; omega) fun x d H1 e hm => ?_, ?_⟩
  · obtain ⟨m, hd⟩ := zip_mem hD hm
    obtain ⟨σ2, a, b, t, v⟩ := hs x d H1 e m (hd.ex e)
    refine ⟨σ2, a, b, ?_, fun w hv => ?_⟩
    · cases hc : c d
      · rw [hc] at t
        simpa [hc] using t
      · rw [hc] at t
        simpa [hc] using t
    · cases hc : c d with
      | false =>
        simp [hc] at hv
      | true =>
        simp [hc] at hv
        subst hv
        exact v hc
  · have q := zip_snd hD
    clear hs hI hn hD
    generalize xs.zip ds = l at q
    subst q
    rw [List.any_map]
    induction l with
    | nil => rfl
    | cons q r ih =>
      cases hc : c q.2
      · rw [List.filterMap_cons]
        simp only [hc, Bool.false_eq_true, if_false, List.any_cons, Function.comp, Bool.false_or]
        exact ih
      · simp [List.filterMap_cons, hc]
/-- over values of a list -/
theorem el_mapA {α : Type} {as : List α} {val : α → V} (h : α → V) (hI : EvI wi σ H (as.map val)) (hn : as.length ≤ 40000)
    (hs : ∀ a H1, Ex H H1 → a ∈ as → ∃ σ2, Tg g (val a) (wipe σ vs) H1 σ2 ∧ wipe σ2 vs = wipe σ vs ∧ Ev te σ2 H1 (h a)) : EvL (tLc wi g tYes te vs) σ H (as.map h) := by
  have e : as.map h = (as.map fun a => (val a, a)).filterMap fun q => some (h q.2) := by
    rw [List.filterMap_eq_map', List.map_map]
    rfl
  rw [e]
  refine el_comp _ (by rw [List.map_map]; exact hI) (by rw [List.length_map]; exact hn) fun x a H1 e hm => ?_
  obtain ⟨b, hb, q⟩ := List.mem_map.mp hm
  cases q
  obtain ⟨σ2, t, w, v⟩ := hs a H1 e hb
  exact ⟨σ2, t, w, et_yes, fun z hz => by cases hz; exact v⟩
theorem el_filA {α : Type} {as : List α} {val : α → V} (c : α → Bool) (h : α → V) (hI : EvI wi σ H (as.map val)) (hn : as.length ≤ 40000)
    (hs : ∀ a H1, Ex H H1 → a ∈ as → ∃ σ2, Tg g (val a) (wipe σ vs) H1 σ2 ∧ wipe σ2 vs = wipe σ vs ∧ EvT tt σ2 H1 (c a) ∧ (c a = true → Ev te σ2 H1 (h a))) : EvL (tLc wi g tt te vs) σ H ((as.filter c).map h) := by
  have e : (as.filter c).map h = (as.map fun a => (val a, a)).filterMap fun q => if c q.2 = true then some (h q.2) else none := by
    rw [List.filterMap_map]
    clear hs hn hI
    induction as with
    | nil => rfl
    | cons a r ih =>
      cases hc : c a <;> simp [List.filter_cons, List.filterMap_cons, hc, ih]
  rw [e]
  refine el_comp _ (by rw [List.map_map]; exact hI) (by rw [List.length_map]; exact hn) fun x a H1 e hm => ?_
  obtain ⟨b, hb, q⟩ := List.mem_map.mp hm
  cases q
  obtain ⟨σ2, t, w, k, v⟩ := hs a H1 e hb
  refine ⟨σ2, t, w, ?_, fun z hz => ?_⟩
  · cases hc : c a <;> rw [hc] at k <;> simpa [hc] using k
  · cases hc : c a with
    | false =>
      simp [hc] at hz
    | true =>
      simp [hc] at hz
      subst hz
      exact v hc
theorem tg_name {j : Nat} {x : V} {σ : L2.St} {H : Hp} : Tg (gName j) x σ H (σ.set j (some x)) := fun _ q => q
theorem tg_two {i j : Nat} {a : Addr} {x y : V} {σ : L2.St} {H : Hp} (h : SqT K H a [x, y]) : Tg (gTup K 2 (gCons (gName i) (gCons (gName j) gNil))) (.ref a) σ H ((σ.set i (some x)).set j (some y)) :=
  fun _ q => ⟨a, _, rfl, h, rfl, _, _, rfl, _, _, rfl, rfl, q⟩
theorem tg_three {i j l : Nat} {a : Addr} {x y z : V} {σ : L2.St} {H : Hp} (h : SqT K H a [x, y, z]) : Tg (gTup K 3 (gCons (gName i) (gCons (gName j) (gCons (gName l) gNil)))) (.ref a) σ H (((σ.set i (some x)).set j (some y)).set l (some z)) :=
  fun _ q => ⟨a, _, rfl, h, rfl, _, _, rfl, _, _, rfl, _, _, rfl, rfl, q⟩
end

/-! ### loops -/
section
variable {σ : L2.St} {H : Hp} {wi : TI} {g : TG} {tb tz : TS} {xs : List V} {D : Ends}
theorem s_forI (hI : EvI wi σ H xs) (Pw : Nat → L2.St → Hp → Prop) (h0 : ∀ H1, Ex H H1 → Pw 0 σ H1)
    (hs : ∀ i x σ' H', Ex H H' → xs[i]? = some x → Pw i σ' H' → ∃ σ2, Tg g x σ' H' σ2 ∧
      tb { D with nx := fun σ3 H3 => Ex H' H3 ∧ Pw (i + 1) σ3 H3, ct := fun σ3 H3 => Ex H' H3 ∧ Pw (i + 1) σ3 H3, bk := D.nx } σ2 H')
    (hd : ∀ σ' H', Ex H H' → Pw xs.length σ' H' → D.nx σ' H') : tFor wi g tb D σ H := hI H (Ex.refl H) _ fun J H0 e0 S => by
  refine ⟨fun i m σ' H' => m = xs.length - i ∧ i ≤ xs.length ∧ Ex H0 H' ∧ Pw i σ' H', ⟨xs.length, rfl, Nat.zero_le _, Ex.refl _, h0 H0 e0⟩, ?_⟩
  rintro i m σ' H' ⟨rfl, hi, ex, pw⟩
  by_cases hlt : i < xs.length
  · refine .inr ⟨S.go H' ex i hlt, fun σ3 H3 => Ex H' H3 ∧ Pw (i + 1) σ3 H3, fun σ3 H3 ⟨e3, p3⟩ => ⟨xs.length - (i + 1), by omega, rfl, hlt, ex.trans e3, p3⟩, fun x H'' hy => ?_⟩
    obtain ⟨rfl, hx⟩ := S.yld H' ex i x H'' hlt hy
    obtain ⟨σ2, t, b⟩ := hs i x σ' H'' (e0.trans ex) hx pw
    exact t _ b
  · have e : i = xs.length := by omega
    subst e
    exact .inl ⟨S.stop H' ex, hd σ' H' (e0.trans ex) pw⟩
theorem q_forI (hI : EvI wi σ H xs) (Pw : Nat → L2.St → Hp → Prop) (h0 : ∀ H1, Ex H H1 → Pw 0 σ H1)
    (hs : ∀ i x σ' H', Ex H H' → xs[i]? = some x → Pw i σ' H' → ∃ σ2, Tg g x σ' H' σ2 ∧
      tb { D with nx := fun σ3 H3 => Ex H' H3 ∧ Pw (i + 1) σ3 H3, ct := fun σ3 H3 => Ex H' H3 ∧ Pw (i + 1) σ3 H3, bk := tz D } σ2 H')
    (hd : ∀ σ' H', Ex H H' → Pw xs.length σ' H' → tz D σ' H') : tSeq (tFor wi g tb) tz D σ H := s_forI (D := { D with nx := tz D }) hI Pw h0 hs hd
end

/-! ### all, any -/
section
variable {K : PySem.W.Frag} {σ : L2.St} {H : Hp} {te : TE}
theorem ev_all {bs : List Bool} (h : EvL te σ H (bs.map V.bl)) : Ev (tCB (rAll K) (tCons te tNil)) σ H (.bl (bs.all id)) := fun H1 e Q q =>
  h H1 e _ fun p H2 _ e2 h2 => ⟨p, bs, rfl, sq_of h2, q H2 e2⟩
theorem ev_any {bs : List Bool} (h : EvL te σ H (bs.map V.bl)) : Ev (tCB (rAny K) (tCons te tNil)) σ H (.bl (bs.any id)) := fun H1 e Q q =>
  h H1 e _ fun p H2 _ e2 h2 => ⟨p, bs, rfl, sq_of h2, q H2 e2⟩
theorem ev_allD {ds : List PyData} {q : PyData → Bool} (h : EvL te σ H (ds.map fun d => V.bl (q d))) : Ev (tCB (rAll K) (tCons te tNil)) σ H (.bl (ds.all q)) := by
  have e : ds.map (fun d => V.bl (q d)) = (ds.map q).map V.bl := by rw [List.map_map]; rfl
  rw [e] at h
  have := ev_all (K := K) h
  rwa [List.all_map] at this
theorem ev_allA {α : Type} {as : List α} {q : α → Bool} (h : EvL te σ H (as.map fun a => V.bl (q a))) : Ev (tCB (rAll K) (tCons te tNil)) σ H (.bl (as.all q)) := by
  have e : as.map (fun a => V.bl (q a)) = (as.map q).map V.bl := by rw [List.map_map]; rfl
  rw [e] at h
  have := ev_all (K := K) h
  rwa [List.all_map] at this
theorem ev_anyA {α : Type} {as : List α} {q : α → Bool} (h : EvL te σ H (as.map fun a => V.bl (q a))) : Ev (tCB (rAny K) (tCons te tNil)) σ H (.bl (as.any q)) := by
  have e : as.map (fun a => V.bl (q a)) = (as.map q).map V.bl := by rw [List.map_map]; rfl
  rw [e] at h
  have := ev_any (K := K) h
  rwa [List.any_map] at this
end

section
variable {σ : L2.St} {H : Hp} {t u : TT} {ta tb : TE}
theorem et_orT (h : EvT t σ H true) : EvT (tOr t u) σ H true := et_or (b := true) h fun q => by cases q
theorem et_andF (h : EvT t σ H false) : EvT (tAnd t u) σ H false := et_and (b := false) h fun q => by cases q
theorem ev_orT (h : Ev ta σ H (.bl true)) : Ev (tOrV ta tb) σ H (.bl true) := ev_orV (b := true) h fun q => by cases q
theorem ev_andF (h : Ev ta σ H (.bl false)) : Ev (tAndV ta tb) σ H (.bl false) := ev_andV (b := false) h fun q => by cases q
theorem et_notF (h : EvT t σ H false) : EvT (tNot t) σ H true := et_not h
theorem et_notT (h : EvT t σ H true) : EvT (tNot t) σ H false := et_not h
end
/-! ### == and != with an empty list, an empty tuple -/
def rEqE (K : PySem.W.Frag) : R2 := fun x y H Q => ∃ a b xs, x = .ref a ∧ y = .ref b ∧ a ≠ b ∧ ((SqL K H a xs ∧ SqL K H b []) ∨ (SqT K H a xs ∧ SqT K H b [])) ∧ Q (.bl xs.isEmpty) H
def rNeE (K : PySem.W.Frag) : R2 := fun x y H Q => ∃ a b xs, x = .ref a ∧ y = .ref b ∧ a ≠ b ∧ ((SqL K H a xs ∧ SqL K H b []) ∨ (SqT K H a xs ∧ SqT K H b [])) ∧ Q (.bl !xs.isEmpty) H
section
variable {X : Cx}
theorem plain_is {h : Heap} {a : Addr} {its : Array Value} (p : PlainL h a its) : h.IsList a its := by
  obtain ⟨o, n, a1, a2, a3, a4⟩ := p
  exact ⟨o, a1, a2, n, a4⟩
theorem op_eqE (hu : X.A.units < cLine) : OpR X (compareOp .Eq) (rEqE X.K) := by
  intro pins s σ H x y v u Q I rx ry h
  obtain ⟨a, b, xs, rfl, rfl, ne, hs, q⟩ := h
  cases (show v = Value.ref a from rx)
  cases (show u = Value.ref b from ry)
  rcases hs with ⟨h1, h2⟩ | ⟨h1, h2⟩
  · obtain ⟨i1, v1, p1, _⟩ := I.list h1
    obtain ⟨i2, v2, p2, _⟩ := I.list h2
    cases v2
    have l1 := v1.length
    cases xs with
    | nil =>
      cases v1
      exact SeqAt.RcAt.lists (e := fun _ => true) (plain_is p1) (plain_is p2) rfl hu (fun j h1 _ => absurd h1 (by simp)) _ _ _ _ ⟨.bl true, H, I, rfl, q⟩
    | cons z zs =>
      cases v1 with
      | cons r1 r2 => exact SeqAt.RcAt.lists_lengths (plain_is p1) (plain_is p2) (by simp) hu _ _ _ _ ⟨.bl false, H, I, rfl, q⟩
  · obtain ⟨i1, v1, p1, _⟩ := I.tuple h1
    obtain ⟨i2, v2, p2, _⟩ := I.tuple h2
    cases v2
    refine SeqAt.RcAt.tuples (e := fun _ => true) p1 p2 hu (fun j _ h2 => absurd h2 (by simp)) _ _ _ _ ⟨.bl xs.isEmpty, H, I, ?_, q⟩
    cases v1 <;> rfl
theorem op_neE (hu : X.A.units < cLine) : OpR X (compareOp .NotEq) (rNeE X.K) := by
  intro pins s σ H x y v u Q I rx ry h
  obtain ⟨a, b, xs, rfl, rfl, ne, hs, q⟩ := h
  cases (show v = Value.ref a from rx)
  cases (show u = Value.ref b from ry)
  rcases hs with ⟨h1, h2⟩ | ⟨h1, h2⟩
  · obtain ⟨i1, v1, p1, _⟩ := I.list h1
    obtain ⟨i2, v2, p2, _⟩ := I.list h2
    cases v2
    have l1 := v1.length
    cases xs with
    | nil =>
      cases v1
      exact SeqAt.RcNeAt.lists (e := fun _ => true) (plain_is p1) (plain_is p2) rfl hu (fun j h1 _ => absurd h1 (by simp)) _ _ _ _ ⟨.bl false, H, I, rfl, q⟩
    | cons z zs =>
      cases v1 with
      | cons r1 r2 => exact SeqAt.RcNeAt.lists_lengths (plain_is p1) (plain_is p2) (by simp) hu _ _ _ _ ⟨.bl true, H, I, rfl, q⟩
  · obtain ⟨i1, v1, p1, _⟩ := I.tuple h1
    obtain ⟨i2, v2, p2, _⟩ := I.tuple h2
    cases v2
    refine SeqAt.RcNeAt.tuples (e := fun _ => true) p1 p2 hu (fun j _ h2 => absurd h2 (by simp)) _ _ _ _ ⟨.bl !xs.isEmpty, H, I, ?_, q⟩
    cases v1 <;> rfl
end
section
variable {K : PySem.W.Frag} {σ : L2.St} {H : Hp} {te : TE} {xs : List V} {a : Addr}
theorem ev_neE (h : EvL te σ H xs) : Ev (tOp (rNeE K) te (tLst tNil)) σ H (.bl !xs.isEmpty) := fun H1 e Q q =>
  h H1 e _ fun p H2 _ e2 h2 => ⟨sz_of (Nat.zero_le _), fun b hb => ⟨p, b, xs, rfl, rfl, ne_of_none h2 hb, .inl ⟨sq_of (Ex.new hb p _ h2), sq_of upd_same⟩, q _ (e2.trans (Ex.new hb))⟩⟩
theorem ev_eqE (h : EvL te σ H xs) : Ev (tOp (rEqE K) te (tLst tNil)) σ H (.bl xs.isEmpty) := fun H1 e Q q =>
  h H1 e _ fun p H2 _ e2 h2 => ⟨sz_of (Nat.zero_le _), fun b hb => ⟨p, b, xs, rfl, rfl, ne_of_none h2 hb, .inl ⟨sq_of (Ex.new hb p _ h2), sq_of upd_same⟩, q _ (e2.trans (Ex.new hb))⟩⟩
theorem ev_eqT (h : Ev te σ H (.ref a)) (ht : H a = some (.tup xs)) : Ev (tOp (rEqE K) te (tTup tNil)) σ H (.bl xs.isEmpty) := fun H1 e Q q =>
  h H1 e _ fun H2 e2 => ⟨sz_of (Nat.zero_le _), fun b hb => ⟨a, b, xs, rfl, rfl, ne_of_none (e2 a _ (e a _ ht)) hb, .inr ⟨st_of (Ex.new hb a _ (e2 a _ (e a _ ht))), st_of upd_same⟩, q _ (e2.trans (Ex.new hb))⟩⟩
end

/-! ### rules with the written part named -/
section
variable {X : Cx} {K : PySem.W.Frag}
theorem kix_tup (h : X.K = K) : IxR X (rIxT K) := by rw [← h]; exact ix_tup
theorem kix_list (h : X.K = K) : IxR X (rIxL K) := by rw [← h]; exact ix_list
theorem kcall_isi (h : X.K = K) : CallR X (.builtin "isinstance") (rIsi K) := by rw [← h]; exact call_isi
theorem kcall_len (h : X.K = K) : CallR X (.builtin "len") (fun xs H Q => ∃ p ys, xs = [.ref p] ∧ (SqL K H p ys ∨ SqT K H p ys) ∧ Q (.int ys.length) H) := by rw [← h]; exact call_len_seq
theorem kop_in (h : X.K = K) : OpR X (compareOp .In) (rIn K false) := by rw [← h]; exact op_in_seq
theorem kop_notIn (h : X.K = K) : OpR X (compareOp .NotIn) (rIn K true) := by rw [← h]; exact op_notIn_seq
theorem kcr_all (h : X.K = K) (hc : X.calm = true) : CallR X (.builtin "all") (rAll K) := by rw [← h]; exact cr_all hc
theorem kcr_any (h : X.K = K) (hc : X.calm = true) : CallR X (.builtin "any") (rAny K) := by rw [← h]; exact cr_any hc
theorem kop_eqD (h : X.K = K) (hu : X.A.units + 64 < cLine) : OpR X (compareOp .Eq) (rEqD K) := by rw [← h]; exact op_eqD hu
theorem kop_neD (h : X.K = K) (hu : X.A.units + 64 < cLine) : OpR X (compareOp .NotEq) (rNeD K) := by rw [← h]; exact op_neD hu
theorem kop_eqE (h : X.K = K) (hu : X.A.units < cLine) : OpR X (compareOp .Eq) (rEqE K) := by rw [← h]; exact op_eqE hu
theorem kop_neE (h : X.K = K) (hu : X.A.units < cLine) : OpR X (compareOp .NotEq) (rNeE K) := by rw [← h]; exact op_neE hu
theorem kcall_tuple (h : X.K = K) : CallR X (.type "tuple") (fun xs H Q => ∃ p ys, xs = [.ref p] ∧ ((SqL K H p ys ∧ ∀ l, H l = none → Q (.ref l) (upd H l (.tup ys))) ∨ (SqT K H p ys ∧ Q (.ref p) H))) := by rw [← h]; exact call_tuple_of
theorem kcall_list (h : X.K = K) : CallR X (.type "list") (fun xs H Q => ∃ p ys, xs = [.ref p] ∧ (SqL K H p ys ∨ SqT K H p ys) ∧ ∀ l, H l = none → Q (.ref l) (upd H l (.lst ys))) := by rw [← h]; exact call_list_of
theorem kpi_tup {tg l : Expr} {tl : TE} (h : X.K = K) (hl : PE X l tl) : PI X tg l (iTup K tl) := by rw [← h]; exact pi_tup hl
theorem kpi_list {tg l : Expr} {tl : TE} (h : X.K = K) (hl : PE X l tl) : PI X tg l (iList K tl) := by rw [← h]; exact pi_list hl
theorem kpg_tup {es : List Expr} {k n : Nat} {t : TGs} {pos : Pos} (h : X.K = K) (hc : X.calm = true) (ht : PGs X es t) (hn : (assignEach es X.env).length = n := by rfl) (hst : (assignEach es X.env).findIdx? (·.1) = none := by rfl) :
    PG X (.Tuple es k pos) (gTup K n t) := by rw [← h]; exact pg_tup hc ht hn hst
end
/-! ### a test if t else b -/
def tIfT (c t u : TT) : TT := fun σ H Q => c σ H fun b H1 => if b = true then t σ H1 Q else u σ H1 Q
theorem pt_ifExp {X : Cx} {c a b : Expr} {pos : Pos} {tc t u : TT} (hc : PT X c tc) (ha : PT X a t) (hb : PT X b u) : PT X (.IfExp c a b pos) (tIfT tc t u) := by
  refine ⟨fun pins s σ H Q I h => isTrue_IfExp (thn (hc.run pins s σ H _ I h) fun d s1 ⟨H1, I1, q1⟩ => ?_)⟩
  cases d
  · exact hb.run pins s1 σ H1 Q I1 q1
  · exact ha.run pins s1 σ H1 Q I1 q1
theorem et_ifT {c t u : TT} {σ : L2.St} {H : Hp} {a b : Bool} (h : EvT c σ H a) (h1 : a = true → EvT t σ H b) (h2 : a = false → EvT u σ H b) : EvT (tIfT c t u) σ H b := fun H1 e Q q => h H1 e _ fun H2 e2 => by
  cases a
  · exact h2 rfl H2 (e.trans e2) Q fun H3 e3 => q H3 (e2.trans e3)
  · exact h1 rfl H2 (e.trans e2) Q fun H3 e3 => q H3 (e2.trans e3)
end K35
set_option maxHeartbeats 4000000
/-! P4: fractions -/
namespace K35
open PySem PySem.Spec PyProof.Rows L2 Evl

inductive Okd : PyData → Prop
  | non : Okd .none
  | bl (b : Bool) : Okd (.bool b)
  | int (i : Int) : i.natAbs ≤ 16 → Okd (.int i)
  | str (z : Str) : z.length ≤ 1000 → Okd (.str z)
  | lst {ds : List PyData} : ds.length ≤ 20000 → (∀ d, d ∈ ds → Okd d) → Okd (.list ds)
  | tup {ds : List PyData} : ds.length ≤ 20000 → (∀ d, d ∈ ds → Okd d) → Okd (.tuple ds)
  | dic : Okd (.dict [])

def btw (lo : Option Int) : PyData → Bool
  | .int i => match lo with
    | none => true
    | some l => decide (l ≤ i)
  | _ => false
def loV : Option Int → V
  | none => .non
  | some l => .int l
def isFr : PyData → Bool
  | .tuple [.int n, .int m] => decide (1 ≤ m) && decide (Int.gcd n m = 1)
  | _ => false
def frN : PyData → Int × Int
  | .tuple [.int n, .int m] => (n, m)
  | _ => (0, 1)
theorem isFr_of {d : PyData} (h : isFr d = true) : ∃ n m : Int, d = .tuple [.int n, .int m] ∧ 1 ≤ m ∧ Int.gcd n m = 1 ∧ frN d = (n, m) := by
  unfold isFr at h
  split at h
  · simp at h
    exact ⟨_, _, rfl, h.1, h.2, rfl⟩
  · cases h
section
variable {K : PySem.W.Frag} {σ : L2.St} {H : Hp} {te ta tb tc : TE} {x y z : V}
theorem rv_isN : RV (fun x y H Q => y = .non ∧ Q (.bl (decide (x = .non))) H) x .non H (.bl (decide (x = .non))) := fun H1 _ _ q => ⟨rfl, q H1 (Ex.refl H1)⟩
theorem ev_chain {r r' : R2} {a b : Bool} (ha : Ev ta σ H x) (hb : Ev tb σ H y) (hc : Ev tc σ H z) (h1 : RV r x y H (.bl a)) (h2 : RV r' y z H (.bl b)) : Ev (tChain r r' ta tb tc) σ H (.bl (a && b)) := fun H1 e Q q =>
  ha H1 e _ fun H2 e2 => hb H2 (e.trans e2) _ fun H3 e3 => h1 H3 ((e.trans e2).trans e3) _ fun H4 e4 => ⟨a, rfl, by
    cases a with
    | false =>
      show Q (.bl false) H4
      exact q H4 ((e2.trans e3).trans e4)
    | true =>
      show tc σ H4 fun z' H5 => r' y z' H5 Q
      exact hc H4 (((e.trans e2).trans e3).trans e4) _ fun H5 e5 => h2 H5 ((((e.trans e2).trans e3).trans e4).trans e5) Q fun H6 e6 => q H6 ((((e2.trans e3).trans e4).trans e5).trans e6)⟩
theorem et_chain {r r' : R2} {a b : Bool} (ha : Ev ta σ H x) (hb : Ev tb σ H y) (hc : Ev tc σ H z) (h1 : RV r x y H (.bl a)) (h2 : RV r' y z H (.bl b)) : EvT (tTest (tChain r r' ta tb tc)) σ H (a && b) := et_test (ev_chain ha hb hc h1 h2)
theorem ev_isiV {p : Addr} {v : V} {d : PyData} {n : String} {b : Bool} {i : Nat} (hv : σ[i]? = some (some v)) (h : DT p H v d) (hk : kitB (tyName d) n = some b) :
    Ev (tCB (rIsi K) (tCons (tVar i) (tCons (tC (.ty n)) tNil))) σ H (.bl b) := ev_isi (ev_var hv) h hk
end
theorem DT.tupE {p : Addr} {H : Hp} {v : V} {ds : List PyData} (h : DT p H v (.tuple ds)) : ∃ a xs, v = .ref a ∧ a ≠ p ∧ H a = some (.tup xs) ∧ DTs p H xs ds := by
  cases h with
  | tup n h1 h2 => exact ⟨_, _, rfl, n, h1, h2⟩
theorem DT.intE {p : Addr} {H : Hp} {v : V} {i : Int} (h : DT p H v (.int i)) : v = .int i := by
  cases h
  rfl
theorem DT.strE {p : Addr} {H : Hp} {v : V} {i : Str} (h : DT p H v (.str i)) : v = .str i := by
  cases h
  rfl
theorem tup_of {d : PyData} (h : isaTup d = true) : ∃ ds, d = .tuple ds := by
  unfold isaTup at h
  split at h
  · exact ⟨_, rfl⟩
  · cases h
theorem DTs.two {p : Addr} {H : Hp} {xs : List V} {ds : List PyData} (h : DTs p H xs ds) (l : ds.length = 2) : ∃ x y d e, xs = [x, y] ∧ ds = [d, e] ∧ DT p H x d ∧ DT p H y e := by
  cases h with
  | nil => cases l
  | cons h1 h =>
    cases h with
    | nil => cases l
    | cons h2 h =>
      cases h with
      | nil => exact ⟨_, _, _, _, rfl, rfl, h1, h2⟩
      | cons h3 h => simp at l
theorem DTs.three {p : Addr} {H : Hp} {xs : List V} {ds : List PyData} (h : DTs p H xs ds) (l : ds.length = 3) : ∃ x y z d e f, xs = [x, y, z] ∧ ds = [d, e, f] ∧ DT p H x d ∧ DT p H y e ∧ DT p H z f := by
  cases h with
  | nil => cases l
  | cons h1 h =>
    obtain ⟨y, z, e, f, rfl, rfl, h2, h3⟩ := h.two (by simpa using l)
    exact ⟨_, _, _, _, _, _, rfl, rfl, h1, h2, h3⟩
theorem at_nat {α : Type} {xs : List α} {x : α} (i : Nat) (h : xs[i]? = some x) : atI xs (i : Int) = some x := by
  have hi := (List.getElem?_eq_some_iff.mp h).1
  unfold atI
  rw [ixN_nat hi]
  exact h
theorem at0 {x : V} {xs : List V} : atI (x :: xs) 0 = some x := at_nat 0 rfl
theorem at1 {x y : V} {xs : List V} : atI (x :: y :: xs) 1 = some y := at_nat 1 rfl
theorem at2 {x y z : V} {xs : List V} : atI (x :: y :: z :: xs) 2 = some z := at_nat 2 rfl

section
variable {P : Program} {w : World} {K : PySem.W.Frag} {mg : Str → Option Value} {base : Heap} {f : Addr} {fd : FuncData}
/-! ### is_between -/
def preBtw : List V → Hp → V → Prop := fun vs H z => ∃ p v d lo, DT p H v d ∧ vs = [v, loV lo, .non] ∧ z = .bl (btw lo d)
theorem sc_is_between : FnScope ["value", "least", "most"] ["value", "least", "most"] (defScope (topS 12)) :=
  ⟨rfl, rfl, rfl, by decide +kernel, rfl, by decide +kernel, by decide +kernel⟩
theorem c_is_between (F : FnP K "is_between" (topS 12) f fd) (hm : mg "is_between" = some (.ref f)) (G : Nm K mg) :
    C8.Cal P w K mg base 1 "is_between" (PrV preBtw) [] := by
  have nd := sc_is_between.nd
  refine cal_of F hm sc_is_between (fun _ _ _ _ _ _ us hl => match us, hl with | [_, _, _], _ => rfl) (fun vs H Q E h => ?_) fun cdv A outer s H vs Q E hr h => ?_
  · obtain ⟨z, ⟨p, v, d, lo, _, rfl, _⟩, _⟩ := h
    rfl
  obtain ⟨z, ⟨p, v, d, lo, hd, rfl, rfl⟩, hQ⟩ := h
  refine ⟨_, (pss_cons (ps_if (PW.pt (pw_or (pt_not (pt_val (pe_callB (kcall_isi (K := K) rfl) (by rfl) G.n_isinstance PyProof.Rows.boot_isinstance (pa_cons (pv 0) (pa_cons (pe_bltn (v := .ty "int") (by rfl) G.n_int PyProof.Rows.boot_int rfl) pa_nil))))) (pw_or1 (pt_val (pe_callB (kcall_isi (K := K) rfl) (by rfl) G.n_isinstance PyProof.Rows.boot_isinstance (pa_cons (pv 0) (pa_cons (pe_bltn (v := .ty "bool") (by rfl) G.n_bool PyProof.Rows.boot_bool rfl) pa_nil))))))) (pss_one (ps_ret pe_bl)) pss_nil)
  (pss_one (ps_ret (pe_and (pe_or (pe_cmpR op_isN (pv 1) pe_non (nomark _)) (pe_one (pe_cmpR op_ge (pv 0) (pv 1) (nomark _)))) (pe_one (pe_or (pe_cmpR op_isN (pv 2) pe_non (nomark _)) (pe_one (pe_cmpR op_le (pv 0) (pv 2) (nomark _))))))))), ?_⟩
  refine q_when (et_or (et_not (et_B (ev_isiV rfl hd (kit_int d)))) fun _ => et_B (ev_isiV rfl hd (kit_bool d))) (fun hb H1 e1 => ?_) fun hb H1 e1 => ?_
  · refine s_ret ev_c fun H2 e2 => ?_
    have : btw lo d = false := by
      cases d <;> first | rfl | (simp [isaInt, isaBool] at hb)
    rw [this] at hQ
    exact hQ H2 (e1.trans e2)
  · have : ∃ i, d = .int i := by
      cases d <;> first | exact ⟨_, rfl⟩ | (simp [isaInt, isaBool] at hb)
    obtain ⟨i, rfl⟩ := this
    obtain rfl := hd.intE
    cases lo with
    | none =>
      refine s_ret (ev_andV (ev_orV (b := true) (ev_op (ev_var rfl) ev_c rv_isN) fun hn => by cases hn) fun _ => ev_orV (b := true) (ev_op (ev_var rfl) ev_c rv_isN) fun hn => by cases hn) fun H2 e2 => ?_
      have := hQ H2 (e1.trans e2)
      simpa [btw, loV] using this
    | some l =>
      refine s_ret (ev_andV (ev_orV (ev_op (ev_var rfl) ev_c rv_isN) fun hn => ev_op (ev_var rfl) (ev_var rfl) rv_I0) fun _ => ev_orV (b := true) (ev_op (ev_var rfl) ev_c rv_isN) fun hn => by cases hn) fun H2 e2 => ?_
      have := hQ H2 (e1.trans e2)
      simpa [btw, loV] using this

/-! ### is_fraction -/
def preB (q : PyData → Bool) : List V → Hp → V → Prop := fun vs H z => ∃ p v d, DT p H v d ∧ Okd d ∧ vs = [v] ∧ z = .bl (q d)
theorem sc_is_fraction : FnScope ["value"] ["value"] (defScope (topS 16)) :=
  ⟨rfl, rfl, rfl, by decide +kernel, rfl, by decide +kernel, by decide +kernel⟩
theorem c_is_fraction (F : FnP K "is_fraction" (topS 16) f fd) (hm : mg "is_fraction" = some (.ref f)) (G : Nm K mg)
    (c_is_between : C8.Cal P w K mg base 1 "is_between" (PrV preBtw) []) (c_common : C8.Cal P w K mg base 1 "common" (PrV preGcd) []) :
    C8.Cal P w K mg base 2 "is_fraction" (PrV (preB isFr)) [] := by
  have nd := sc_is_fraction.nd
  refine cal_of F hm sc_is_fraction (fun _ _ _ _ _ _ us hl => match us, hl with | [_], _ => rfl) (fun vs H Q E h => ?_) fun cdv A outer s H vs Q E hr h => ?_
  · obtain ⟨z, ⟨p, v, d, _, _, rfl, _⟩, _⟩ := h
    rfl
  obtain ⟨z, ⟨p, v, d, hd, _, rfl, rfl⟩, hQ⟩ := h
  refine ⟨_, (pss_cons (ps_if (PW.pt (pw_or (pt_not (pt_val (pe_callB (kcall_isi (K := K) rfl) (by rfl) G.n_isinstance PyProof.Rows.boot_isinstance (pa_cons (pv 0) (pa_cons (pe_bltn (v := .ty "tuple") (by rfl) G.n_tuple PyProof.Rows.boot_tuple rfl) pa_nil))))) (pw_or1 (pt_cmpR op_ne (pe_callB (kcall_len (K := K) rfl) (by rfl) G.n_len PySem.boot_len (pa_cons (pv 0) pa_nil)) pe_int (nomark _))))) (pss_one (ps_ret pe_bl)) pss_nil)
  (pss_cons (ps_if (PW.pt (pw_or (pt_not (pt_val (C8.pe_c c_is_between hr (by decide) rfl (pa_cons (pe_ix (kix_tup (K := K) rfl) (pv 0) pe_int (fun _ _ => rfl)) (pa_cons pe_non (pa_cons pe_non pa_nil)))))) (pw_or1 (pt_not (pt_val (C8.pe_c c_is_between hr (by decide) rfl (pa_cons (pe_ix (kix_tup (K := K) rfl) (pv 0) pe_int (fun _ _ => rfl)) (pa_cons pe_int (pa_cons pe_non pa_nil))))))))) (pss_one (ps_ret pe_bl)) pss_nil)
  (pss_one (ps_ret (pe_cmpR op_eq (C8.pe_c c_common hr (by decide) rfl (pa_cons (pe_ix (kix_tup (K := K) rfl) (pv 0) pe_int (fun _ _ => rfl)) (pa_cons (pe_ix (kix_tup (K := K) rfl) (pv 0) pe_int (fun _ _ => rfl)) pa_nil))) pe_int (nomark _)))))), ?_⟩
  cases ht : isaTup d with
  | false =>
    refine q_when (et_orT (et_notF (et_is (et_B (ev_isiV rfl hd (kit_tup d))) ht))) (fun hb H1 e1 => ?_) fun hb => by cases hb
    refine s_ret ev_c fun H2 e2 => ?_
    have : isFr d = false := by
      unfold isFr
      split
      · cases ht
      · rfl
    rw [this] at hQ
    exact hQ H2 (e1.trans e2)
  | true =>
    obtain ⟨ds, rfl⟩ := tup_of ht
    obtain ⟨a, xs, rfl, na, ha, hx⟩ := hd.tupE
    refine q_when (et_or (et_not (et_is (et_B (ev_isiV rfl hd (kit_tup _))) ht)) fun _ => et_test (ev_op (ev_lenT (ev_var rfl) (st_of ha)) ev_c (rv_ne rfl))) (fun hb H1 e1 => ?_) fun hb H1 e1 => ?_
    · refine s_ret ev_c fun H2 e2 => ?_
      have : isFr (.tuple ds) = false := by
        unfold isFr
        split
        · rename_i e
          cases e
          rw [hx.length] at hb
          simp at hb
        · rfl
      rw [this] at hQ
      exact hQ H2 (e1.trans e2)
    · have hl : ds.length = 2 := by
        rw [← hx.length]
        simp at hb
        omega
      obtain ⟨x, y, dx, dy, rfl, rfl, h1, h2⟩ := hx.two hl
      refine q_when (et_or (et_not (et_B (ev_pr (z := .bl (btw none dx)) (ea_cons (ev_op (ev_var rfl) ev_c (rv_ixT (st_of (e1 a _ ha)) at0)) (ea_cons ev_c (ea_cons ev_c ea_nil))) fun H2 e2 => ⟨p, x, dx, none, (h1.ex e1).ex e2, rfl, rfl⟩)))
        fun _ => et_not (et_B (ev_pr (z := .bl (btw (some 1) dy)) (ea_cons (ev_op (ev_var rfl) ev_c (rv_ixT (st_of (e1 a _ ha)) at1)) (ea_cons ev_c (ea_cons ev_c ea_nil))) fun H2 e2 => ⟨p, y, dy, some 1, (h2.ex e1).ex e2, rfl, rfl⟩))) (fun hb H2 e2 => ?_) fun hb H2 e2 => ?_
      · refine s_ret ev_c fun H3 e3 => ?_
        have : isFr (.tuple [dx, dy]) = false := by
          unfold isFr
          split
          · rename_i e
            cases e
            simp [btw] at hb
            simp
            omega
          · rfl
        rw [this] at hQ
        exact hQ H3 ((e1.trans e2).trans e3)
      · have : ∃ n m : Int, dx = .int n ∧ dy = .int m ∧ 1 ≤ m := by
          cases dx <;> cases dy <;> simp [btw] at hb
          exact ⟨_, _, rfl, rfl, hb⟩
        obtain ⟨n, m, rfl, rfl, hm1⟩ := this
        obtain rfl := h1.intE
        obtain rfl := h2.intE
        have ha2 := e2 a _ (e1 a _ ha)
        refine s_ret (ev_op (ev_pr (z := .int (Int.gcd n m : Nat)) (ea_cons (ev_op (ev_var rfl) ev_c (rv_ixT (st_of ha2) at0)) (ea_cons (ev_op (ev_var rfl) ev_c (rv_ixT (st_of ha2) at1)) ea_nil)) fun H2 e2 => ⟨n, m, rfl, by omega, rfl⟩) ev_c (rv_eq rfl)) fun H3 e3 => ?_
        have := hQ H3 ((e1.trans e2).trans e3)
        have q : isFr (.tuple [.int n, .int m]) = decide (V.int (Int.gcd n m : Nat) = V.int 1) := by
          unfold isFr
          simp [hm1]
          omega
        rw [q] at this
        exact this
end
end K35
set_option maxHeartbeats 4000000
/-! P5: sums of fractions; the law's own -/
namespace K35
open PySem PySem.Spec PyProof.Rows L2 Evl

theorem u64 {k : Nat} {A : Around} (r : Room k A) : A.units + 64 < cLine := by
  have := r.un
  omega
theorem u0 {k : Nat} {A : Around} (r : Room k A) : A.units < cLine := by
  have := r.un
  omega
def lowF (a b : Int) : Int × Int := (a / (Int.gcd a b : Nat), b / (Int.gcd a b : Nat))
def addF (x y : Int × Int) : Int × Int := lowF (x.1 * y.2 + y.1 * x.2) (x.2 * y.2)
def sumF (ds : List PyData) : Int × Int := ds.foldl (fun x d => addF x (frN d)) (0, 1)
def prV (x : Int × Int) : List V := [.int x.1, .int x.2]
theorem gcd_pos {a b : Int} (h : 0 < b) : 0 < Int.gcd a b := Int.gcd_pos_of_ne_zero_right a (by omega)
theorem gcd_le {a b : Int} (h : 0 < b) : ((Int.gcd a b : Nat) : Int) ≤ b := Int.gcd_le_right a h
theorem low_pos {a b : Int} (h : 0 < b) : 0 < (lowF a b).2 ∧ (lowF a b).2 ≤ b := by
  have g := gcd_pos (a := a) h
  have d : ((Int.gcd a b : Nat) : Int) ∣ b := Int.gcd_dvd_right a b
  obtain ⟨c, hc⟩ := d
  have g' : (0 : Int) < (Int.gcd a b : Nat) := by omega
  show 0 < b / _ ∧ b / _ ≤ b
  refine ⟨?_, ?_⟩
  · refine Int.ediv_pos_of_pos_of_dvd h (by omega) (Int.gcd_dvd_right a b)
  · exact Int.ediv_le_self _ (by omega)
theorem div_ok {i j : Int} (h : 0 < j) (hj : j < 2 ^ 64) : CDivW i j := wide_div h (b := 64) (by omega) (by decide) (by decide)
section
variable {P : Program} {w : World} {K : PySem.W.Frag} {mg : Str → Option Value} {base : Heap} {f : Addr} {fd : FuncData}
/-- one tuple, perhaps one of the text -/
def RetT (K : PySem.W.Frag) (xs : List V) (H : Hp) (Q : VK) : Prop := ∀ p H2, Ex H H2 → SqT K H2 p xs → Q (.ref p) H2
def PrT (K : PySem.W.Frag) (pre : List V → Hp → List V → Prop) : Sp := fun vs H Q _ => ∃ xs, pre vs H xs ∧ RetT K xs H Q
def EvS (K : PySem.W.Frag) (te : TE) (σ : L2.St) (H : Hp) (xs : List V) : Prop :=
  ∀ H1, Ex H H1 → ∀ Q : VK, (∀ p H2, Ex H1 H2 → SqT K H2 p xs → Q (.ref p) H2) → te σ H1 Q
theorem es_pr {σ : L2.St} {H : Hp} {pre : List V → Hp → List V → Prop} {E : XK} {tas : TA} {vs xs : List V} (h : EvA tas σ H vs)
    (hp : ∀ H1, Ex H H1 → pre vs H1 xs) : EvS K (tCall (PrT K pre) [] E tas) σ H xs := fun H1 e Q q =>
  h H1 e _ fun H2 e2 => ⟨xs, by rw [List.append_nil]; exact hp H2 (e.trans e2), fun p H3 e3 h3 => q p H3 (e2.trans e3) h3⟩
theorem EvW.s {te : TE} {σ : L2.St} {H : Hp} {xs : List V} (h : EvW te σ H xs) : EvS K te σ H xs := fun H1 e Q q => h H1 e Q fun p H2 e2 h2 => q p H2 e2 (st_of h2)
theorem Ev.s {te : TE} {σ : L2.St} {H : Hp} {a : Addr} {xs : List V} (h : Ev te σ H (.ref a)) (hs : SqT K H a xs) : EvS K te σ H xs := fun H1 e Q q => h H1 e Q fun H2 e2 => q a H2 e2 (ex_t (e.trans e2) hs)
theorem dp_pr {H : Hp} {a : Addr} {x : Int × Int} (h : SqT K H a (prV x)) : Dp K H (.ref a) (.tuple [.int x.1, .int x.2]) := .tup h (.cons (.int _) (.cons (.int _) .nil))
theorem shaped_pr (x : Int × Int) : SeqAt.shaped (.tuple [.int x.1, .int x.2]) = true := by
  unfold SeqAt.shaped
  simp [PyData.canLay0, PyData.canLayAll0, PyData.depth, PyData.depthAll]
/-- == of two pairs of ints -/
theorem ev_eqP {ta tb : TE} {σ : L2.St} {H : Hp} {x y : Int × Int} (ha : EvS K ta σ H (prV x)) (hb : EvS K tb σ H (prV y)) : Ev (tOp (rEqD K) ta tb) σ H (.bl (decide (x = y))) := fun H1 e Q q =>
  ha H1 e _ fun p H2 e2 h2 => hb H2 (e.trans e2) _ fun p' H3 e3 h3 => ⟨_, _, dp_pr (ex_t e3 h2), dp_pr h3, shaped_pr x, shaped_pr y, by
    have : PyData.eqv (.tuple [.int x.1, .int x.2]) (.tuple [.int y.1, .int y.2]) = decide (x = y) := by
      obtain ⟨a, b⟩ := x
      obtain ⟨c, d⟩ := y
      simp only [PyData.eqv, PyData.eqvAll, Bool.and_true]
      by_cases h1 : a = c <;> by_cases h2 : b = d <;> simp [h1, h2]
    rw [this]
    exact q H3 (e2.trans e3)⟩

def preLow : List V → Hp → List V → Prop := fun vs _ xs => ∃ a b : Int, vs = [.int a, .int b] ∧ 0 < b ∧ b < 2 ^ 64 ∧ xs = prV (lowF a b)
theorem sc_lowest : FnScope ["top", "bottom", "shared"] ["top", "bottom"] (defScope (topS 15)) :=
  ⟨rfl, rfl, rfl, by decide +kernel, rfl, by decide +kernel, by decide +kernel⟩
theorem c_lowest (F : FnP K "lowest" (topS 15) f fd) (hm : mg "lowest" = some (.ref f)) (G : Nm K mg)
    (c_common : C8.Cal P w K mg base 1 "common" (PrV preGcd) []) : C8.Cal P w K mg base 2 "lowest" (PrW preLow) [] := by
  have nd := sc_lowest.nd
  refine cal_of F hm sc_lowest (fun _ _ _ _ _ _ us hl => match us, hl with | [_, _], _ => rfl) (fun vs H Q E h => ?_) fun cdv A outer s H vs Q E hr h => ?_
  · obtain ⟨z, ⟨a, b, rfl, _⟩, _⟩ := h
    rfl
  obtain ⟨xs, ⟨a, b, rfl, h0, h1, rfl⟩, hQ⟩ := h
  refine ⟨_, (pss_cons (ps_set (i := 2) nd rfl (Or.inl rfl) (C8.pe_c c_common hr (by decide) rfl (pa_cons (pv 0) (pa_cons (pv 1) pa_nil))))
  (pss_one (ps_ret (pe_tup (pa_cons (pe_op op_fdivW (pv 0) (pv 2)) (pa_cons (pe_op op_fdivW (pv 1) (pv 2)) pa_nil)))))), ?_⟩
  have g1 := gcd_pos (a := a) h0
  have g2 := gcd_le (a := a) h0
  refine q_asg (ev_pr (z := .int (Int.gcd a b : Nat)) (ea_cons (ev_var rfl) (ea_cons (ev_var rfl) ea_nil)) fun H1 _ => ⟨a, b, rfl, by omega, rfl⟩) fun H1 e1 => ?_
  exact s_retW (EvU.w (eu_tup (ea_cons (ev_op (ev_var rfl) (ev_var rfl) (rv_I (div_ok (by omega) (by omega)))) (ea_cons (ev_op (ev_var rfl) (ev_var rfl) (rv_I (div_ok (by omega) (by omega)))) ea_nil)) (by simp))) fun p H2 e2 h2 => hQ p H2 (e1.trans e2) h2
theorem sc__law_low : FnScope ["_law_top", "_law_bottom", "_law_a", "_law_b"] ["_law_top", "_law_bottom"] (defScope (topS 47)) :=
  ⟨rfl, rfl, rfl, by decide +kernel, rfl, by decide +kernel, by decide +kernel⟩
theorem c__law_low (F : FnP K "_law_low" (topS 47) f fd) (hm : mg "_law_low" = some (.ref f)) (G : Nm K mg) :
    C8.Cal P w K mg base 1 "_law_low" (PrW preLow) [] := by
  have nd := sc__law_low.nd
  refine cal_of F hm sc__law_low (fun _ _ _ _ _ _ us hl => match us, hl with | [_, _], _ => rfl) (fun vs H Q E h => ?_) fun cdv A outer s H vs Q E hr h => ?_
  · obtain ⟨z, ⟨a, b, rfl, _⟩, _⟩ := h
    rfl
  obtain ⟨xs, ⟨a, b, rfl, h0, h1, rfl⟩, hQ⟩ := h
  refine ⟨_, (pss_cons (ps_par (i := 2) (j := 3) (by rfl) nd rfl rfl (by decide) rfl rfl (pa_cons (pe_callB call_abs (by rfl) G.n_abs PyProof.Rows.boot_abs (pa_cons (pv 0) pa_nil)) (pa_cons (pv 1) pa_nil)) (by rfl))
  (pss_cons (ps_while PassesOwn.never (pt_cmpR op_gt (pv 3) pe_int (nomark _)) (pss_one (ps_par (i := 2) (j := 3) (by rfl) nd rfl rfl (by decide) rfl rfl (pa_cons (pv 3) (pa_cons (pe_op op_mod (pe_callTy call_int1 (by rfl) G.n_int PyProof.Rows.boot_int (pa_cons (pv 2) pa_nil)) (pv 3)) pa_nil)) (by rfl))))
  (pss_one (ps_ret (pe_tup (pa_cons (pe_op op_fdivW (pv 0) (pv 2)) (pa_cons (pe_op op_fdivW (pv 1) (pv 2)) pa_nil))))))), ?_⟩
  refine ⟨_, rfl, a, rfl, _, rfl, _, _, rfl, ?_⟩
  refine while_by (fun σ H' => ∃ a' b' : Int, σ = [some (.int a), some (.int b), some (.int a'), some (.int b')] ∧ 0 ≤ a' ∧ 0 ≤ b' ∧ Int.gcd a' b' = Int.gcd a b ∧ H' = H)
    (fun σ _ => match σ with | [_, _, _, some (.int b')] => b'.toNat | _ => 0) ?_ ?_ ?_
  · refine ⟨(if a < 0 then -a else a), b, rfl, by split <;> omega, by omega, ?_, rfl⟩
    split
    · exact Int.neg_gcd
    · rfl
  · rintro σ H' ⟨a', b', rfl, ha', hb', e, rfl⟩
    refine ⟨_, rfl, _, _, rfl, rfl, _, rfl, ?_⟩
    refine ite2 (fun h1 => ?_) fun h1 => ?_
    · have h2 : 0 < b' := of_decide_eq_true h1
      refine ⟨_, rfl, _, rfl, .inl ⟨_, rfl, _, rfl, _, _, rfl, rfl, h2, _, _, rfl, ?_⟩⟩
      refine ⟨⟨b', a' % b', rfl, hb', Int.emod_nonneg _ (by omega), ?_, rfl⟩, ?_⟩
      · exact gcd_turn h2 _ e
      · show (a' % b').toNat < b'.toNat
        have := Int.emod_lt_of_pos a' h2
        have := Int.emod_nonneg a' (show b' ≠ 0 by omega)
        omega
    · have h2 : ¬ 0 < b' := fun q => h1 (decide_eq_true q)
      have h3 : b' = 0 := by omega
      subst h3
      have h4 : a' = (Int.gcd a b : Nat) := by
        rw [← e, Int.gcd_zero_right]
        omega
      subst h4
      have g1 := gcd_pos (a := a) h0
      have g2 := gcd_le (a := a) h0
      exact s_retW (EvU.w (eu_tup (ea_cons (ev_op (ev_var rfl) (ev_var rfl) (rv_I (div_ok (by omega) (by omega)))) (ea_cons (ev_op (ev_var rfl) (ev_var rfl) (rv_I (div_ok (by omega) (by omega)))) ea_nil)) (by simp))) fun p H2 e2 h2 => hQ p H2 e2 h2
  · rintro σ H' Q1 Q2 q ⟨x, hx, i, j, e1, e2, k, e3, q1⟩
    exact ⟨x, hx, i, j, e1, e2, k, e3, q _ _ q1⟩

/-! ### sums -/
def preAdd (K : PySem.W.Frag) : List V → Hp → List V → Prop := fun vs H xs => ∃ p q x y, vs = [.ref p, .ref q] ∧ SqT K H p (prV x) ∧ SqT K H q (prV y) ∧ 0 < x.2 ∧ x.2 ≤ 2 ^ 50 ∧ 0 < y.2 ∧ y.2 ≤ 16 ∧ y.1.natAbs ≤ 16 ∧ xs = prV (addF x y)
theorem sc_add : FnScope ["one", "other"] ["one", "other"] (defScope (topS 17)) :=
  ⟨rfl, rfl, rfl, by decide +kernel, rfl, by decide +kernel, by decide +kernel⟩
theorem mul_pos16 {a b : Int} (h0 : 0 < a) (h1 : a ≤ 2 ^ 50) (h2 : 0 < b) (h3 : b ≤ 16) : 0 < a * b ∧ a * b < 2 ^ 64 := by
  refine ⟨Int.mul_pos h0 h2, ?_⟩
  have : a * b ≤ 2 ^ 50 * 16 := Int.mul_le_mul h1 h3 (by omega) (by decide)
  omega
theorem c_add (F : FnP K "add" (topS 17) f fd) (hm : mg "add" = some (.ref f)) (G : Nm K mg)
    (c_lowest : C8.Cal P w K mg base 2 "lowest" (PrW preLow) []) : C8.Cal P w K mg base 3 "add" (PrW (preAdd K)) [] := by
  have nd := sc_add.nd
  refine cal_of F hm sc_add (fun _ _ _ _ _ _ us hl => match us, hl with | [_, _], _ => rfl) (fun vs H Q E h => ?_) fun cdv A outer s H vs Q E hr h => ?_
  · obtain ⟨z, ⟨_, _, _, _, rfl, _⟩, _⟩ := h
    rfl
  obtain ⟨xs, ⟨p, q, x, y, rfl, hx, hy, h1, h2, h3, h4, h5, rfl⟩, hQ⟩ := h
  refine ⟨_, (pss_one (ps_ret (C8.pe_c c_lowest hr (by decide) rfl (pa_cons (pe_op op_add (pe_op op_mul (pe_ix (kix_tup (K := K) rfl) (pv 0) pe_int (fun _ _ => rfl)) (pe_ix (kix_tup (K := K) rfl) (pv 1) pe_int (fun _ _ => rfl))) (pe_op op_mul (pe_ix (kix_tup (K := K) rfl) (pv 1) pe_int (fun _ _ => rfl)) (pe_ix (kix_tup (K := K) rfl) (pv 0) pe_int (fun _ _ => rfl)))) (pa_cons (pe_op op_mul (pe_ix (kix_tup (K := K) rfl) (pv 0) pe_int (fun _ _ => rfl)) (pe_ix (kix_tup (K := K) rfl) (pv 1) pe_int (fun _ _ => rfl))) pa_nil))))), ?_⟩
  have := mul_pos16 h1 h2 h3 h4
  refine s_retW (ew_pr (xs := prV (addF x y)) (ea_cons (ev_op (ev_op (ev_op (ev_var rfl) ev_c (rv_ixT hx at0)) (ev_op (ev_var rfl) ev_c (rv_ixT hy at1)) (rv_I (.inr ⟨by omega, by omega⟩)))
    (ev_op (ev_op (ev_var rfl) ev_c (rv_ixT hy at0)) (ev_op (ev_var rfl) ev_c (rv_ixT hx at1)) (rv_I (.inl ⟨by omega, by omega⟩))) rv_I0)
    (ea_cons (ev_op (ev_op (ev_var rfl) ev_c (rv_ixT hx at1)) (ev_op (ev_var rfl) ev_c (rv_ixT hy at1)) (rv_I (.inr ⟨by omega, by omega⟩))) ea_nil)) fun H1 _ => ⟨_, _, rfl, this.1, this.2, rfl⟩) fun p H2 e2 h2 => hQ p H2 e2 h2
theorem sc__law_plus : FnScope ["_law_one", "_law_two"] ["_law_one", "_law_two"] (defScope (topS 48)) :=
  ⟨rfl, rfl, rfl, by decide +kernel, rfl, by decide +kernel, by decide +kernel⟩
theorem c__law_plus (F : FnP K "_law_plus" (topS 48) f fd) (hm : mg "_law_plus" = some (.ref f)) (G : Nm K mg)
    (c__law_low : C8.Cal P w K mg base 1 "_law_low" (PrW preLow) []) : C8.Cal P w K mg base 2 "_law_plus" (PrW (preAdd K)) [] := by
  have nd := sc__law_plus.nd
  refine cal_of F hm sc__law_plus (fun _ _ _ _ _ _ us hl => match us, hl with | [_, _], _ => rfl) (fun vs H Q E h => ?_) fun cdv A outer s H vs Q E hr h => ?_
  · obtain ⟨z, ⟨_, _, _, _, rfl, _⟩, _⟩ := h
    rfl
  obtain ⟨xs, ⟨p, q, x, y, rfl, hx, hy, h1, h2, h3, h4, h5, rfl⟩, hQ⟩ := h
  refine ⟨_, (pss_one (ps_ret (C8.pe_c c__law_low hr (by decide) rfl (pa_cons (pe_op op_add (pe_op op_mul (pe_ix (kix_tup (K := K) rfl) (pv 0) pe_int (fun _ _ => rfl)) (pe_ix (kix_tup (K := K) rfl) (pv 1) pe_int (fun _ _ => rfl))) (pe_op op_mul (pe_ix (kix_tup (K := K) rfl) (pv 1) pe_int (fun _ _ => rfl)) (pe_ix (kix_tup (K := K) rfl) (pv 0) pe_int (fun _ _ => rfl)))) (pa_cons (pe_op op_mul (pe_ix (kix_tup (K := K) rfl) (pv 0) pe_int (fun _ _ => rfl)) (pe_ix (kix_tup (K := K) rfl) (pv 1) pe_int (fun _ _ => rfl))) pa_nil))))), ?_⟩
  have := mul_pos16 h1 h2 h3 h4
  refine s_retW (ew_pr (xs := prV (addF x y)) (ea_cons (ev_op (ev_op (ev_op (ev_var rfl) ev_c (rv_ixT hx at0)) (ev_op (ev_var rfl) ev_c (rv_ixT hy at1)) (rv_I (.inr ⟨by omega, by omega⟩)))
    (ev_op (ev_op (ev_var rfl) ev_c (rv_ixT hy at0)) (ev_op (ev_var rfl) ev_c (rv_ixT hx at1)) (rv_I (.inl ⟨by omega, by omega⟩))) rv_I0)
    (ea_cons (ev_op (ev_op (ev_var rfl) ev_c (rv_ixT hx at1)) (ev_op (ev_var rfl) ev_c (rv_ixT hy at1)) (rv_I (.inr ⟨by omega, by omega⟩))) ea_nil)) fun H1 _ => ⟨_, _, rfl, this.1, this.2, rfl⟩) fun p H2 e2 h2 => hQ p H2 e2 h2
/-- a fraction of small numbers, as data -/
theorem fr_ok {p : Addr} {H : Hp} {v : V} {d : PyData} (h : DT p H v d) (ho : Okd d) (hf : isFr d = true) :
    ∃ a, v = .ref a ∧ a ≠ p ∧ H a = some (.tup (prV (frN d))) ∧ 0 < (frN d).2 ∧ (frN d).2 ≤ 16 ∧ (frN d).1.natAbs ≤ 16 := by
  obtain ⟨n, m, rfl, h1, h2, h3⟩ := isFr_of hf
  obtain ⟨a, xs, rfl, na, ha, hx⟩ := h.tupE
  obtain ⟨x, y, dx, dy, rfl, e, h4, h5⟩ := hx.two rfl
  cases e
  obtain rfl := h4.intE
  obtain rfl := h5.intE
  cases ho with
  | tup _ hall =>
    have q1 := hall _ (List.mem_cons_self)
    have q2 := hall _ (List.mem_cons_of_mem _ List.mem_cons_self)
    cases q1
    cases q2
    rw [h3]
    exact ⟨a, rfl, na, ha, by show 0 < m; omega, by show m ≤ 16; omega, by assumption⟩
theorem add_ok {x y : Int × Int} {i : Nat} (h1 : 0 < x.2) (h2 : x.2 ≤ 16 ^ i) (h3 : 0 < y.2) (h4 : y.2 ≤ 16) : 0 < (addF x y).2 ∧ (addF x y).2 ≤ 16 ^ (i + 1) := by
  have := low_pos (a := x.1 * y.2 + y.1 * x.2) (Int.mul_pos h1 h3)
  refine ⟨this.1, Int.le_trans this.2 ?_⟩
  rw [Int.pow_succ]
  exact Int.mul_le_mul h2 h4 (by omega) (by omega)
theorem pow16 {i : Nat} (h : i ≤ 8) : (16 : Int) ^ i ≤ 2 ^ 50 := by
  have : i = 0 ∨ i = 1 ∨ i = 2 ∨ i = 3 ∨ i = 4 ∨ i = 5 ∨ i = 6 ∨ i = 7 ∨ i = 8 := by omega
  rcases this with h | h | h | h | h | h | h | h | h <;> subst h <;> decide
def preSum (K : PySem.W.Frag) : List V → Hp → List V → Prop := fun vs H xs => ∃ p l ys ds, vs = [.ref l] ∧ SqL K H l ys ∧ DTs p H ys ds ∧ (∀ d, d ∈ ds → isFr d = true ∧ Okd d) ∧ ds.length ≤ 8 ∧ xs = prV (sumF ds)
theorem sum_take {ds : List PyData} {i : Nat} {d : PyData} (h : ds[i]? = some d) : sumF (ds.take (i + 1)) = addF (sumF (ds.take i)) (frN d) := by
  unfold sumF
  rw [List.take_add_one, h, List.foldl_append]
  rfl
theorem sc_total : FnScope ["some", "found", "one"] ["some"] (defScope (topS 18)) :=
  ⟨rfl, rfl, rfl, by decide +kernel, rfl, by decide +kernel, by decide +kernel⟩
theorem c_total (F : FnP K "total" (topS 18) f fd) (hm : mg "total" = some (.ref f)) (G : Nm K mg)
    (c_add : C8.Cal P w K mg base 3 "add" (PrW (preAdd K)) []) : C8.Cal P w K mg base 4 "total" (PrT K (preSum K)) [] := by
  have nd := sc_total.nd
  refine cal_of F hm sc_total (fun _ _ _ _ _ _ us hl => match us, hl with | [_], _ => rfl) (fun vs H Q E h => ?_) fun cdv A outer s H vs Q E hr h => ?_
  · obtain ⟨z, ⟨_, _, _, _, rfl, _⟩, _⟩ := h
    rfl
  obtain ⟨xs, ⟨p, l, ys, ds, rfl, hl, hD, hok, hn, rfl⟩, hQ⟩ := h
  refine ⟨_, (pss_cons (ps_set (i := 1) nd rfl (Or.inl rfl) (pe_gk rfl G.ZERO))
  (pss_cons (ps_for PassesOwn.never rfl (kpi_list (K := K) rfl (pv 0)) (pg_name (i := 2) nd rfl (Or.inl rfl)) (pss_one (ps_set (i := 1) nd rfl (Or.inl rfl) (C8.pe_c c_add hr (by decide) rfl (pa_cons (pv 1) (pa_cons (pv 2) pa_nil))))))
  (pss_one (ps_ret (pv 1))))), ?_⟩
  refine q_asg ev_c fun H1 e1 => ?_
  refine q_forI (ei_list (ev_var rfl) (ex_l e1 hl)) (fun i σ H' => ∃ a q, σ = [some (.ref l), some (.ref a), q] ∧ SqT K H' a (prV (sumF (ds.take i))) ∧ 0 < (sumF (ds.take i)).2 ∧ (sumF (ds.take i)).2 ≤ 16 ^ i) ?_ ?_ ?_
  · intro H2 e2
    exact ⟨_, _, rfl, G.tZERO H2, show (0 : Int) < 1 by decide, show (1 : Int) ≤ 1 by decide⟩
  · rintro i x σ' H' e' hx ⟨a, q, rfl, h1, h2, h3⟩
    obtain ⟨d, hd, hdt⟩ := hD.get hx
    have hm := List.mem_of_getElem? hd
    have hi : i < ds.length := (List.getElem?_eq_some_iff.mp hd).1
    obtain ⟨b, rfl, nb, hb, k1, k2, k3⟩ := fr_ok ((hdt.ex e1).ex e') (hok d hm).2 (hok d hm).1
    have := pow16 (i := i) (by omega)
    have ao := add_ok (x := sumF (ds.take i)) h2 h3 k1 k2
    rw [← sum_take hd] at ao
    refine ⟨_, tg_name, ?_⟩
    refine s_asgW (ew_pr (xs := prV (sumF (ds.take (i + 1)))) (ea_cons (ev_var rfl) (ea_cons (ev_var rfl) ea_nil)) fun H3 e3 => ⟨a, b, sumF (ds.take i), frN d, rfl, ex_t e3 h1, ex_t e3 (st_of hb), h2, by omega, k1, k2, k3, by rw [sum_take hd]⟩) fun q H3 e3 h3 => ?_
    exact ⟨e3, q, _, rfl, st_of h3, ao.1, ao.2⟩
  · rintro σ' H' e' ⟨a, q, rfl, h1, h2, h3⟩
    rw [hD.length, List.take_length] at h1
    exact s_ret (ev_var rfl) fun H3 e3 => hQ a H3 ((e1.trans e').trans e3) (ex_t e3 h1)
/-! ### is_chance -/
def isCh (d : PyData) : Bool := isFr d && (decide (0 ≤ (frN d).1) && decide ((frN d).1 ≤ (frN d).2))
theorem sc_is_chance : FnScope ["value"] ["value"] (defScope (topS 19)) :=
  ⟨rfl, rfl, rfl, by decide +kernel, rfl, by decide +kernel, by decide +kernel⟩
theorem c_is_chance (F : FnP K "is_chance" (topS 19) f fd) (hm : mg "is_chance" = some (.ref f)) (G : Nm K mg)
    (c_is_fraction : C8.Cal P w K mg base 2 "is_fraction" (PrV (preB isFr)) []) : C8.Cal P w K mg base 3 "is_chance" (PrV (preB isCh)) [] := by
  have nd := sc_is_chance.nd
  refine cal_of F hm sc_is_chance (fun _ _ _ _ _ _ us hl => match us, hl with | [_], _ => rfl) (fun vs H Q E h => ?_) fun cdv A outer s H vs Q E hr h => ?_
  · obtain ⟨z, ⟨_, _, _, _, _, rfl, _⟩, _⟩ := h
    rfl
  obtain ⟨z, ⟨p, v, d, hd, ho, rfl, rfl⟩, hQ⟩ := h
  refine ⟨_, (pss_one (ps_ret (pe_and (C8.pe_c c_is_fraction hr (by decide) rfl (pa_cons (pv 0) pa_nil)) (pe_one (pe_chain op_le op_le pe_int (pe_ix (kix_tup (K := K) rfl) (pv 0) pe_int (fun _ _ => rfl)) (pe_ix (kix_tup (K := K) rfl) (pv 0) pe_int (fun _ _ => rfl))))))), ?_⟩
  refine s_ret (ev_andV (ev_pr (z := .bl (isFr d)) (ea_cons (ev_var rfl) ea_nil) fun H1 e1 => ⟨p, v, d, hd.ex e1, ho, rfl, rfl⟩) fun hf => ?_) fun H1 e1 => hQ H1 e1
  obtain ⟨a, rfl, na, ha, h1, h2, h3⟩ := fr_ok hd ho hf
  exact ev_chain ev_c (ev_op (ev_var rfl) ev_c (rv_ixT (st_of ha) at0)) (ev_op (ev_var rfl) ev_c (rv_ixT (st_of ha) at1)) rv_I0 rv_I0
/-! ### the law's -/
def isIn (d : PyData) : Bool := isaInt d && !isaBool d
theorem isIn_of {d : PyData} (h : isIn d = true) : ∃ i, d = .int i := by
  cases d <;> first | exact ⟨_, rfl⟩ | (simp [isIn, isaInt, isaBool] at h)
theorem sc__law_is_int : FnScope ["_law_thing"] ["_law_thing"] (defScope (topS 55)) :=
  ⟨rfl, rfl, rfl, by decide +kernel, rfl, by decide +kernel, by decide +kernel⟩
theorem c__law_is_int (F : FnP K "_law_is_int" (topS 55) f fd) (hm : mg "_law_is_int" = some (.ref f)) (G : Nm K mg) :
    C8.Cal P w K mg base 1 "_law_is_int" (PrV (preB isIn)) [] := by
  have nd := sc__law_is_int.nd
  refine cal_of F hm sc__law_is_int (fun _ _ _ _ _ _ us hl => match us, hl with | [_], _ => rfl) (fun vs H Q E h => ?_) fun cdv A outer s H vs Q E hr h => ?_
  · obtain ⟨z, ⟨_, _, _, _, _, rfl, _⟩, _⟩ := h
    rfl
  obtain ⟨z, ⟨p, v, d, hd, ho, rfl, rfl⟩, hQ⟩ := h
  refine ⟨_, (pss_one (ps_ret (pe_and (pe_callB (kcall_isi (K := K) rfl) (by rfl) G.n_isinstance PyProof.Rows.boot_isinstance (pa_cons (pv 0) (pa_cons (pe_bltn (v := .ty "int") (by rfl) G.n_int PyProof.Rows.boot_int rfl) pa_nil))) (pe_one (pe_not (pe_callB (kcall_isi (K := K) rfl) (by rfl) G.n_isinstance PyProof.Rows.boot_isinstance (pa_cons (pv 0) (pa_cons (pe_bltn (v := .ty "bool") (by rfl) G.n_bool PyProof.Rows.boot_bool rfl) pa_nil)))))))), ?_⟩
  exact s_ret (ev_andV (ev_isiV rfl hd (kit_int d)) fun _ => ev_notV (ev_isiV rfl hd (kit_bool d))) fun H1 e1 => hQ H1 e1
theorem Okd.tupE {ds : List PyData} (h : Okd (.tuple ds)) : ds.length ≤ 20000 ∧ ∀ d, d ∈ ds → Okd d := by
  cases h with
  | tup a b => exact ⟨a, b⟩
theorem sc__law_is_fraction : FnScope ["_law_thing"] ["_law_thing"] (defScope (topS 56)) :=
  ⟨rfl, rfl, rfl, by decide +kernel, rfl, by decide +kernel, by decide +kernel⟩
theorem low_same {n m : Int} (h : 0 < m) : decide (lowF n m = (n, m)) = decide (Int.gcd n m = 1) := by
  have g := gcd_pos (a := n) h
  by_cases e : Int.gcd n m = 1
  · simp [lowF, e]
  · have : ¬ m / (Int.gcd n m : Nat) = m := fun q => by
      have : m / (Int.gcd n m : Nat) < m := Int.ediv_lt_self_of_pos_of_ne_one h (by omega)
      omega
    simp [lowF, e, this]
theorem c__law_is_fraction (F : FnP K "_law_is_fraction" (topS 56) f fd) (hm : mg "_law_is_fraction" = some (.ref f)) (G : Nm K mg)
    (c__law_is_int : C8.Cal P w K mg base 1 "_law_is_int" (PrV (preB isIn)) []) (c__law_low : C8.Cal P w K mg base 1 "_law_low" (PrW preLow) []) :
    C8.Cal P w K mg base 2 "_law_is_fraction" (PrV (preB isFr)) [] := by
  have nd := sc__law_is_fraction.nd
  refine cal_of F hm sc__law_is_fraction (fun _ _ _ _ _ _ us hl => match us, hl with | [_], _ => rfl) (fun vs H Q E h => ?_) fun cdv A outer s H vs Q E hr h => ?_
  · obtain ⟨z, ⟨_, _, _, _, _, rfl, _⟩, _⟩ := h
    rfl
  obtain ⟨z, ⟨p, v, d, hd, ho, rfl, rfl⟩, hQ⟩ := h
  refine ⟨_, (pss_cons (ps_if (PW.pt (pw_or (pt_not (pt_val (pe_callB (kcall_isi (K := K) rfl) (by rfl) G.n_isinstance PyProof.Rows.boot_isinstance (pa_cons (pv 0) (pa_cons (pe_bltn (v := .ty "tuple") (by rfl) G.n_tuple PyProof.Rows.boot_tuple rfl) pa_nil))))) (pw_or (pt_cmpR op_ne (pe_callB (kcall_len (K := K) rfl) (by rfl) G.n_len PySem.boot_len (pa_cons (pv 0) pa_nil)) pe_int (nomark _)) (pw_or (pt_not (pt_val (C8.pe_c c__law_is_int hr (by decide) rfl (pa_cons (pe_ix (kix_tup (K := K) rfl) (pv 0) pe_int (fun _ _ => rfl)) pa_nil)))) (pw_or1 (pt_not (pt_val (C8.pe_c c__law_is_int hr (by decide) rfl (pa_cons (pe_ix (kix_tup (K := K) rfl) (pv 0) pe_int (fun _ _ => rfl)) pa_nil))))))))) (pss_one (ps_ret pe_bl)) pss_nil)
  (pss_one (ps_ret (pe_and (pe_cmpR op_gt (pe_ix (kix_tup (K := K) rfl) (pv 0) pe_int (fun _ _ => rfl)) pe_int (nomark _)) (pe_one (pe_cmpR (kop_eqD (K := K) rfl (u64 hr)) (C8.pe_c c__law_low hr (by decide) rfl (pa_cons (pe_ix (kix_tup (K := K) rfl) (pv 0) pe_int (fun _ _ => rfl)) (pa_cons (pe_ix (kix_tup (K := K) rfl) (pv 0) pe_int (fun _ _ => rfl)) pa_nil))) (pv 0) (nomark _))))))), ?_⟩
  have bad : isFr d = false → ∀ H2, Ex H H2 → Q (.bl false) H2 := fun q H2 e2 => by
    rw [q] at hQ
    exact hQ H2 e2
  cases ht : isaTup d with
  | false =>
    refine q_when (et_orT (et_notF (et_is (et_B (ev_isiV rfl hd (kit_tup d))) ht))) (fun hb H1 e1 => s_ret ev_c fun H2 e2 => bad ?_ H2 (e1.trans e2)) fun hb => by cases hb
    unfold isFr
    split
    · cases ht
    · rfl
  | true =>
    obtain ⟨ds, rfl⟩ := tup_of ht
    obtain ⟨a, xs, rfl, na, ha, hx⟩ := hd.tupE
    by_cases hl : ds.length = 2
    · obtain ⟨x, y, dx, dy, rfl, rfl, h1, h2⟩ := hx.two hl
      have o1 := ho.tupE.2 dx (by simp)
      have o2 := ho.tupE.2 dy (by simp)
      refine q_when (et_or (et_not (et_is (et_B (ev_isiV rfl hd (kit_tup _))) ht)) fun _ => et_or (et_test (ev_op (ev_lenT (ev_var rfl) (st_of ha)) ev_c (rv_ne rfl))) fun _ =>
        et_or (et_not (et_B (ev_pr (z := .bl (isIn dx)) (ea_cons (ev_op (ev_var rfl) ev_c (rv_ixT (st_of ha) at0)) ea_nil) fun H2 e2 => ⟨p, x, dx, h1.ex e2, o1, rfl, rfl⟩))) fun _ =>
        et_not (et_B (ev_pr (z := .bl (isIn dy)) (ea_cons (ev_op (ev_var rfl) ev_c (rv_ixT (st_of ha) at1)) ea_nil) fun H2 e2 => ⟨p, y, dy, h2.ex e2, o2, rfl, rfl⟩))) (fun hb H1 e1 => ?_) fun hb H1 e1 => ?_
      · refine s_ret ev_c fun H2 e2 => bad ?_ H2 (e1.trans e2)
        unfold isFr
        split
        · rename_i e
          cases e
          simp [isIn, isaInt, isaBool] at hb
        · rfl
      · have hb' : isIn dx = true ∧ isIn dy = true := by
          revert hb
          cases isIn dx <;> cases isIn dy <;> simp
        obtain ⟨n, rfl⟩ := isIn_of hb'.1
        obtain ⟨m, rfl⟩ := isIn_of hb'.2
        obtain rfl := h1.intE
        obtain rfl := h2.intE
        have ha1 := e1 a _ ha
        have m16 : m.natAbs ≤ 16 := by
          cases o2
          assumption
        refine s_ret (v := .bl (decide (0 < m) && decide (lowF n m = (n, m)))) (ev_andV (ev_op (ev_op (ev_var rfl) ev_c (rv_ixT (st_of ha1) at1)) ev_c rv_I0) fun hp => ?_) fun H2 e2 => ?_
        · have hp' : 0 < m := of_decide_eq_true hp
          exact ev_eqP (K := K) (x := lowF n m) (y := (n, m)) (EvW.s (ew_pr (ea_cons (ev_op (ev_var rfl) ev_c (rv_ixT (st_of ha1) at0)) (ea_cons (ev_op (ev_var rfl) ev_c (rv_ixT (st_of ha1) at1)) ea_nil)) fun H3 _ => ⟨n, m, rfl, hp', by omega, rfl⟩)) (Ev.s (ev_var rfl) (st_of ha1))
        · have := hQ H2 (e1.trans e2)
          have q : isFr (.tuple [.int n, .int m]) = (decide (0 < m) && decide (lowF n m = (n, m))) := by
            by_cases h0 : 0 < m
            · rw [low_same h0]
              show (decide (1 ≤ m) && _) = _
              have : decide (1 ≤ m) = decide (0 < m) := by simp; omega
              rw [this]
            · show (decide (1 ≤ m) && _) = _
              have : decide (1 ≤ m) = false := by simp; omega
              simp [h0, this]
          rw [q] at this
          exact this
    · refine q_when (et_or (et_not (et_is (et_B (ev_isiV rfl hd (kit_tup _))) ht)) fun _ => et_orT (et_is (et_test (ev_op (ev_lenT (ev_var rfl) (st_of ha)) ev_c (rv_ne rfl))) ?_)) (fun hb H1 e1 => s_ret ev_c fun H2 e2 => bad ?_ H2 (e1.trans e2)) fun hb => by cases hb
      · rw [hx.length]
        simp
        omega
      · unfold isFr
        split
        · rename_i e
          cases e
          exact absurd rfl hl
        · rfl
end
end K35
set_option maxHeartbeats 4000000
/-! P6: places, pairs, what a row says -/
namespace K35
open PySem PySem.Spec PyProof.Rows L2 Evl

def subS (hay needle : Str) : Bool := !(Builtin.Str.occurrences hay needle 0 hay.length 1).isEmpty
def hdS (z : Str) : Str := (chs z).getD 0 ""
def plS (z : Str) : Bool := (decide (1 ≤ z.length) && decide (z.length ≤ 3)) && (subS smallS (hdS z) && (chs z).all (subS signsS))
def isPl : PyData → Bool
  | .str z => plS z
  | _ => false
def strOf : PyData → Str
  | .str z => z
  | _ => ""
def ltD (a b : PyData) : Bool := decide ((strOf a).cps.toList < (strOf b).cps.toList)
def ascD (ds : List PyData) : Bool := (List.range (ds.length - 1)).all fun i => ltD (ds.getD i .none) (ds.getD (i + 1) .none)
def arePl (ds : List PyData) : Bool := ds.all isPl && ascD ds
def memS (x : Str) (xs : List Str) : Bool := inV (.str x) (xs.map V.str)
theorem flat_strs (xs : List Str) : (xs.map V.str).all flatV = true := by
  rw [List.all_map, List.all_eq_true]
  intro x _
  rfl
theorem pl_str {d : PyData} (h : isPl d = true) : ∃ z, d = .str z ∧ plS z = true := by
  cases d <;> first | exact ⟨_, rfl, h⟩ | cases h
theorem strs_of {p : Addr} {H : Hp} {xs : List V} {ds : List PyData} (h : DTs p H xs ds) (hs : ∀ d, d ∈ ds → ∃ z, d = .str z) : xs = (ds.map strOf).map V.str := by
  induction xs generalizing ds with
  | nil =>
    cases h
    rfl
  | cons x xs ih =>
    cases h with
    | cons h1 h2 =>
      obtain ⟨z, rfl⟩ := hs _ List.mem_cons_self
      obtain rfl := h1.strE
      rw [ih h2 fun d hd => hs d (List.mem_cons_of_mem _ hd)]
      rfl
theorem rv_inS {K : PySem.W.Frag} {H : Hp} {i j : Str} : RV (fun x y H Q => ∃ i j, x = .str i ∧ y = .str j ∧ Q (.bl (!(Builtin.Str.occurrences j i 0 j.length 1).isEmpty)) H) (.str i) (.str j) H (.bl (subS j i)) := fun H1 _ _ q => ⟨i, j, rfl, rfl, q H1 (Ex.refl H1)⟩
theorem rv_ltS {H : Hp} {i j : Str} : RV (fun x y H Q => ∃ i j, x = .str i ∧ y = .str j ∧ Q (.bl (decide (i.cps.toList < j.cps.toList))) H) (.str i) (.str j) H (.bl (decide (i.cps.toList < j.cps.toList))) := fun H1 _ _ q => ⟨i, j, rfl, rfl, q H1 (Ex.refl H1)⟩
theorem rv_hd {H : Hp} {z : Str} (h : z.length ≤ 1000) (h1 : 1 ≤ z.length) : RV rIxS (.str z) (.int 0) H (.str (hdS z)) := by
  have h2 : 0 < z.cps.toList.length := by
    have : z.length = z.cps.toList.length := by simp [Str.length]
    omega
  have e : z.cps.toList[0]? = some (z.cps.toList[0]'h2) := by simp
  have e3 : (chs z)[0]? = some (⟨#[z.cps.toList[0]'h2]⟩ : Str) := by
    show (List.map _ _)[0]? = _
    rw [List.getElem?_map, e]
    rfl
  have e2 : hdS z = (⟨#[z.cps.toList[0]'h2]⟩ : Str) := by
    show (chs z).getD 0 "" = _
    rw [List.getD_eq_getElem?_getD, e3]
    rfl
  rw [e2]
  exact rv_ixS (by omega) (at_nat 0 e)
section
variable {X : Cx} {r r' : R2}
theorem ix_or (h : IxR X r) (h' : IxR X r') : IxR X (fun x y H Q => r x y H Q ∨ r' x y H Q) := fun a b pins s σ H x y v u Q I rx ry q e => q.elim (fun q => h a b pins s σ H x y v u Q I rx ry q e) fun q => h' a b pins s σ H x y v u Q I rx ry q e
end
def rIxE (K : PySem.W.Frag) : R2 := fun x y H Q => rIxL K x y H Q ∨ rIxT K x y H Q
theorem kix_e {X : Cx} {K : PySem.W.Frag} (h : X.K = K) : IxR X (rIxE K) := ix_or (kix_list h) (kix_tup h)
/-- a list or a tuple of these -/
def SqE (K : PySem.W.Frag) (H : Hp) (a : Addr) (xs : List V) : Prop := SqL K H a xs ∨ SqT K H a xs
theorem ex_e {K : PySem.W.Frag} {H H' : Hp} {a : Addr} {xs : List V} (e : Ex H H') (h : SqE K H a xs) : SqE K H' a xs := h.elim (fun h => .inl (ex_l e h)) fun h => .inr (ex_t e h)
section
variable {K : PySem.W.Frag} {σ : L2.St} {H : Hp} {te tl ta tb : TE} {a : Addr} {xs : List V} {x y z : V}
theorem rv_ixE {i : Int} (h : SqE K H a xs) (ha : atI xs i = some x) : RV (rIxE K) (.ref a) (.int i) H x :=
  h.elim (fun h H1 e Q q => .inl (rv_ixL h ha H1 e Q q)) fun h H1 e Q q => .inr (rv_ixT h ha H1 e Q q)
theorem ei_e (h : Ev tl σ H (.ref a)) (hx : SqE K H a xs) : EvI (iOr (iList K tl) (iTup K tl)) σ H xs :=
  hx.elim (fun hx H1 e R q => .inl (ei_list h hx H1 e R q)) fun hx H1 e R q => .inr (ei_tup h hx H1 e R q)
theorem ev_lenE (ha : Ev te σ H (.ref a)) (h : SqE K H a xs) :
    Ev (tCB (fun xs H Q => ∃ p ys, xs = [.ref p] ∧ (SqL K H p ys ∨ SqT K H p ys) ∧ Q (.int ys.length) H) (tCons te tNil)) σ H (.int (xs.length : Int)) :=
  h.elim (fun h => ev_lenL ha h) fun h => ev_lenT ha h
theorem ev_prL {pre : List V → Hp → V → Prop} {E : XK} (h : EvM te σ H xs) (hp : ∀ p H1, Ex H H1 → H1 p = some (.lst xs) → pre [.ref p] H1 z) : Ev (tCall (PrV pre) [] E (tCons te tNil)) σ H z := fun H1 e Q q =>
  h H1 e _ fun p H2 e2 h2 => ⟨z, hp p H2 (e.trans e2) h2, fun H3 e3 => q H3 (e2.trans e3)⟩
end
def prA : PyData → PyData
  | .tuple [a, _] => a
  | _ => .none
def prB : PyData → PyData
  | .tuple [_, b] => b
  | _ => .none
def itemsD : PyData → List PyData
  | .tuple ds => ds
  | _ => []
def isPair : PyData → Bool
  | .tuple ds => decide (ds.length = 2)
  | _ => false
def lenB (ds : List PyData) (m : Nat) : Bool := decide (1 ≤ ds.length) && decide (ds.length ≤ m)
def arePr (d : PyData) : Bool := isaTup d && (lenB (itemsD d) 8 && (itemsD d).all isPair)
def isWhat (k : Str) (d : PyData) : Bool :=
  if k = "end" then isFr d
  else if k = "coin" then isaTup d && (lenB (itemsD d) 8 && arePl (itemsD d))
  else arePr d && (arePl ((itemsD d).map prA) && (if k = "chance" then ((itemsD d).map prB).all (fun n => isCh n && decide (0 < (frN n).1)) && decide (sumF ((itemsD d).map prB) = (1, 1)) else ((itemsD d).map prB).all isFr))
theorem pair_of {d : PyData} (h : isPair d = true) : ∃ a b, d = .tuple [a, b] := by
  unfold isPair at h
  split at h
  · rename_i ds
    have := of_decide_eq_true h
    match ds, this with
    | [a, b], _ => exact ⟨a, b, rfl⟩
  · cases h
theorem Okd.strE {z : Str} (h : Okd (.str z)) : z.length ≤ 1000 := by
  cases h
  assumption
theorem pair_at {p : Addr} {H : Hp} {v : V} {a b : PyData} (h : DT p H v (.tuple [a, b])) : ∃ q x y, v = .ref q ∧ q ≠ p ∧ H q = some (.tup [x, y]) ∧ DT p H x a ∧ DT p H y b := by
  obtain ⟨q, xs, rfl, nq, hq, hx⟩ := h.tupE
  obtain ⟨x, y, _, _, rfl, e, h1, h2⟩ := hx.two rfl
  cases e
  exact ⟨q, x, y, rfl, nq, hq, h1, h2⟩
section
variable {P : Program} {w : World} {K : PySem.W.Frag} {mg : Str → Option Value} {base : Heap} {f : Addr} {fd : FuncData}
/-! ### is_place -/
theorem sc_is_place : FnScope ["value", "sign"] ["value"] (defScope (topS 29)) :=
  ⟨rfl, rfl, rfl, by decide +kernel, rfl, by decide +kernel, by decide +kernel⟩
theorem c_is_place (F : FnP K "is_place" (topS 29) f fd) (hm : mg "is_place" = some (.ref f)) (G : Nm K mg) :
    C8.Cal P w K mg base 1 "is_place" (PrV (preB isPl)) [] := by
  have nd := sc_is_place.nd
  refine cal_of F hm sc_is_place (fun _ _ _ _ _ _ us hl => match us, hl with | [_], _ => rfl) (fun vs H Q E h => ?_) fun cdv A outer s H vs Q E hr h => ?_
  · obtain ⟨z, ⟨_, _, _, _, _, rfl, _⟩, _⟩ := h
    rfl
  obtain ⟨z, ⟨p, v, d, hd, ho, rfl, rfl⟩, hQ⟩ := h
  refine ⟨_, (pss_cons (ps_if (PW.pt (pw_or (pt_not (pt_val (pe_callB (kcall_isi (K := K) rfl) (by rfl) G.n_isinstance PyProof.Rows.boot_isinstance (pa_cons (pv 0) (pa_cons (pe_bltn (v := .ty "str") (by rfl) G.n_str PyProof.Rows.boot_str rfl) pa_nil))))) (pw_or1 (pt_not (pt_chain op_le op_le pe_int (pe_callB call_len_str (by rfl) G.n_len PySem.boot_len (pa_cons (pv 0) pa_nil)) pe_int))))) (pss_one (ps_ret pe_bl)) pss_nil)
  (pss_one (ps_ret (pe_and (pe_cmpR op_in_str (pe_ix ix_str (pv 0) pe_int (fun _ _ => rfl)) (pe_gk rfl G.SMALL) rfl) (pe_one (pe_callB (kcr_all (K := K) rfl rfl) (by rfl) G.n_all PyProof.Rows.boot_all (pa_cons (pe_lc (own := [("sign", 1)]) rfl nd (pi_str (pv 0)) (blkOk_by (own := [("sign", 1)]) (by rfl)) (fun _ _ _ _ _ => (pg_name (i := 1) nd rfl (Or.inl rfl))) (fun _ _ _ _ _ => pts_nil) (fun _ _ _ _ _ => (pe_cmpR op_in_str (pv 1) (pe_gk rfl G.SIGNS) rfl))) pa_nil))))))), ?_⟩
  cases ht : isaStr d with
  | false =>
    refine q_when (et_orT (et_notF (et_is (et_B (ev_isiV rfl hd (kit_str d))) ht))) (fun hb H1 e1 => s_ret ev_c fun H2 e2 => ?_) fun hb => by cases hb
    have : isPl d = false := by
      cases d <;> first | rfl | cases ht
    rw [this] at hQ
    exact hQ H2 (e1.trans e2)
  | true =>
    have : ∃ z, d = .str z := by
      cases d <;> first | exact ⟨_, rfl⟩ | cases ht
    obtain ⟨z, rfl⟩ := this
    obtain rfl := hd.strE
    have hz := ho.strE
    refine q_when (et_or (et_not (et_is (et_B (ev_isiV rfl hd (kit_str _))) ht)) fun _ => et_not (et_chain ev_c (ev_lenS (ev_var rfl) (by omega)) ev_c rv_I0 rv_I0)) (fun hb H1 e1 => s_ret ev_c fun H2 e2 => ?_) fun hb H1 e1 => ?_
    · have : isPl (.str z) = false := by
        have : (decide (1 ≤ z.length) && decide (z.length ≤ 3)) = false := by
          simp at hb ⊢
          omega
        show ((_ && _) && _) = false
        rw [this]
        rfl
      rw [this] at hQ
      exact hQ H2 (e1.trans e2)
    · have h13 : 1 ≤ z.length ∧ z.length ≤ 3 := by
        simp at hb
        omega
      refine s_ret (ev_andV (ev_op (ev_op (ev_var rfl) ev_c (rv_hd hz h13.1)) ev_c (rv_inS (K := K))) fun _ => ev_allA (el_mapA (fun c => V.bl (subS signsS c)) (ei_str (ev_var rfl)) (by rw [chs_len]; omega) fun c H2 e2 hc => ⟨_, tg_name, rfl, ev_op (ev_var rfl) ev_c (rv_inS (K := K))⟩)) fun H2 e2 => ?_
      have := hQ H2 (e1.trans e2)
      have q : isPl (.str z) = (subS smallS (hdS z) && (chs z).all (subS signsS)) := by
        show ((_ && _) && _) = _
        rw [show (decide (1 ≤ z.length) && decide (z.length ≤ 3)) = true by simp [h13]]
        rfl
      rw [q] at this
      exact this

/-! ### are_places -/
def preAre (K : PySem.W.Frag) (E : PySem.W.Frag → Hp → Addr → List V → Prop) (q : List PyData → Bool) : List V → Hp → V → Prop := fun vs H z => ∃ p a xs ds, vs = [.ref a] ∧ E K H a xs ∧ DTs p H xs ds ∧ (∀ d, d ∈ ds → Okd d) ∧ ds.length ≤ 20000 ∧ z = .bl (q ds)
theorem sc_are_places : FnScope ["places", "place", "index"] ["places"] (defScope (topS 30)) :=
  ⟨rfl, rfl, rfl, by decide +kernel, rfl, by decide +kernel, by decide +kernel⟩
theorem asc_item {p : Addr} {H : Hp} {xs : List V} {ds : List PyData} (h : DTs p H xs ds) (hs : ∀ d, d ∈ ds → isPl d = true) {i : Nat} (hi : i < ds.length) : atI xs (i : Int) = some (.str (strOf (ds.getD i .none))) := by
  have e : ds[i]? = some ds[i] := by simp [hi]
  obtain ⟨v, hv, hd⟩ := h.getD e
  obtain ⟨z, hz, _⟩ := pl_str (hs ds[i] (List.getElem_mem hi))
  rw [List.getD_eq_getElem?_getD, e, hz]
  rw [hz] at hd
  obtain rfl := hd.strE
  exact at_nat i hv
theorem c_are_places (F : FnP K "are_places" (topS 30) f fd) (hm : mg "are_places" = some (.ref f)) (G : Nm K mg)
    (c_is_place : C8.Cal P w K mg base 1 "is_place" (PrV (preB isPl)) []) : C8.Cal P w K mg base 2 "are_places" (PrV (preAre K SqE arePl)) [] := by
  have nd := sc_are_places.nd
  refine cal_of F hm sc_are_places (fun _ _ _ _ _ _ us hl => match us, hl with | [_], _ => rfl) (fun vs H Q E h => ?_) fun cdv A outer s H vs Q E hr h => ?_
  · obtain ⟨z, ⟨_, _, _, _, rfl, _⟩, _⟩ := h
    rfl
  obtain ⟨z, ⟨p, a, xs, ds, rfl, hx, hD, hok, hn, rfl⟩, hQ⟩ := h
  refine ⟨_, (pss_cons (ps_if (pt_not (pt_val (pe_callB (kcr_all (K := K) rfl rfl) (by rfl) G.n_all PyProof.Rows.boot_all (pa_cons (pe_lc (own := [("place", 1)]) rfl nd (pi_or (kpi_list (K := K) rfl (pv 0)) (kpi_tup (K := K) rfl (pv 0))) (blkOk_by (own := [("place", 1)]) (by rfl)) (fun _ _ _ _ _ => (pg_name (i := 1) nd rfl (Or.inl rfl))) (fun _ _ _ _ _ => pts_nil) (fun _ _ _ _ _ => (C8.pe_c c_is_place hr (by decide) rfl (pa_cons (pv 1) pa_nil)))) pa_nil)))) (pss_one (ps_ret pe_bl)) pss_nil)
  (pss_one (ps_ret (pe_callB (kcr_all (K := K) rfl rfl) (by rfl) G.n_all PyProof.Rows.boot_all (pa_cons (pe_lc (own := [("index", 2)]) rfl nd (pi_range1 (by rfl) G.n_range (pa_cons (pe_op op_sub (pe_callB (kcall_len (K := K) rfl) (by rfl) G.n_len PySem.boot_len (pa_cons (pv 0) pa_nil)) pe_int) pa_nil)) (blkOk_by (own := [("index", 2)]) (by rfl)) (fun _ _ _ _ _ => (pg_name (i := 2) nd rfl (Or.inl rfl))) (fun _ _ _ _ _ => pts_nil) (fun _ _ _ _ _ => (pe_cmpR op_lt_str (pe_ix (kix_e (K := K) rfl) (pv 0) (pv 2) (fun _ _ => rfl)) (pe_ix (kix_e (K := K) rfl) (pv 0) (pe_op op_add (pv 2) pe_int) (fun _ _ => rfl)) (nomark _)))) pa_nil))))), ?_⟩
  refine q_when (et_not (et_B (ev_allD (el_mapD hD (fun d => V.bl (isPl d)) (ei_e (ev_var rfl) hx) (by omega) fun x d H2 e2 hd hx => ⟨_, tg_name, rfl, ev_pr (ea_cons (ev_var rfl) ea_nil) fun H3 e3 => ⟨p, x, d, hx.ex e3, hok d hd, rfl, rfl⟩⟩)))) (fun hb H1 e1 => s_ret ev_c fun H2 e2 => ?_) fun hb H1 e1 => ?_
  · have : arePl ds = false := by
      unfold arePl
      rw [show ds.all isPl = false by revert hb; cases ds.all isPl <;> simp]
      rfl
    rw [this] at hQ
    exact hQ H2 (e1.trans e2)
  · have hb' : ds.all isPl = true := by
      revert hb
      cases ds.all isPl <;> simp
    have hs := List.all_eq_true.mp hb'
    have hl := hD.length
    refine s_ret (ev_allA (as := List.range (ds.length - 1)) (q := fun i => ltD (ds.getD i .none) (ds.getD (i + 1) .none)) (el_mapA (val := fun (i : Nat) => V.int (i : Int)) (fun i => V.bl (ltD (ds.getD i .none) (ds.getD (i + 1) .none))) ?_ (by rw [List.length_range]; omega) fun i H2 e2 hi => ⟨_, tg_name, rfl, ?_⟩)) fun H2 e2 => ?_
    · have := ei_rng (n := (xs.length : Int) - 1) (ev_op (r := rI0 fun i j => .int (i - j)) (ev_lenE (ev_var (σ := [some (.ref a), none, none]) (i := 0) rfl) (ex_e e1 hx)) (ev_c (v := .int 1)) rv_I0) (by omega) (by omega)
      rw [show ((xs.length : Int) - 1).toNat = ds.length - 1 by omega] at this
      exact this
    · have hi := List.mem_range.mp hi
      have hD2 := (hD.ex e1).ex e2
      have hx2 := ex_e e2 (ex_e e1 hx)
      exact ev_op (ev_op (ev_var rfl) (ev_var rfl) (rv_ixE hx2 (asc_item hD2 hs (by omega)))) (ev_op (ev_var rfl) (ev_op (ev_var rfl) ev_c rv_I0) (rv_ixE hx2 (asc_item (i := i + 1) hD2 hs (by omega)))) rv_ltS
    · have := hQ H2 (e1.trans e2)
      unfold arePl at this
      rw [hb'] at this
      exact this
/-! ### are_pairs -/
theorem rv_le {H : Hp} {i j : Int} : RV (rI0 fun i j => .bl (decide (i ≤ j))) (.int i) (.int j) H (.bl (decide (i ≤ j))) := rv_I0
theorem sc_are_pairs : FnScope ["value", "pair"] ["value"] (defScope (topS 31)) :=
  ⟨rfl, rfl, rfl, by decide +kernel, rfl, by decide +kernel, by decide +kernel⟩
theorem ev_isT {σ : L2.St} {H : Hp} {p : Addr} {x : V} {d : PyData} {i n : Nat} (hv : σ[i]? = some (some x)) (h : DT p H x d) :
    Ev (tAndV (tCB (rIsi K) (tCons (tVar i) (tCons (tC (.ty "tuple")) tNil))) (tOp rEq (tCB (fun xs H Q => ∃ p ys, xs = [.ref p] ∧ (SqL K H p ys ∨ SqT K H p ys) ∧ Q (.int ys.length) H) (tCons (tVar i) tNil)) (tC (.int n)))) σ H
      (.bl (isaTup d && decide ((itemsD d).length = n))) := by
  refine ev_andV (ev_isiV hv h (kit_tup d)) fun ht => ?_
  obtain ⟨ds, rfl⟩ := tup_of ht
  obtain ⟨a, xs, rfl, na, ha, hx⟩ := h.tupE
  refine ev_is (ev_op (ev_lenT (ev_var hv) (st_of ha)) ev_c (rv_eq rfl)) ?_
  rw [hx.length, dec_int]
  show V.bl _ = V.bl (decide (ds.length = n))
  congr 1
  rw [Bool.eq_iff_iff]
  simp
  omega
theorem isPair_eq (d : PyData) : isPair d = (isaTup d && decide ((itemsD d).length = 2)) := by
  cases d <;> rfl
theorem chain_len {σ : L2.St} {H : Hp} {a : Addr} {xs : List V} {i m : Nat} {ds : List PyData} (hv : σ[i]? = some (some (.ref a))) (ha : SqT K H a xs) (hl : xs.length = ds.length) :
    Ev (tChain (rI0 fun i j => .bl (decide (i ≤ j))) (rI0 fun i j => .bl (decide (i ≤ j))) (tC (.int 1)) (tCB (fun xs H Q => ∃ p ys, xs = [.ref p] ∧ (SqL K H p ys ∨ SqT K H p ys) ∧ Q (.int ys.length) H) (tCons (tVar i) tNil)) (tC (.int m))) σ H
      (.bl (decide (1 ≤ ds.length) && decide (ds.length ≤ m))) := by
  refine ev_is (ev_chain ev_c (ev_lenT (ev_var hv) ha) ev_c rv_le rv_le) ?_
  rw [hl]
  have a1 : decide ((1 : Int) ≤ (ds.length : Int)) = decide (1 ≤ ds.length) := by simp; omega
  have a2 : decide ((ds.length : Int) ≤ (m : Int)) = decide (ds.length ≤ m) := by simp
  rw [a1, a2]
theorem c_are_pairs (F : FnP K "are_pairs" (topS 31) f fd) (hm : mg "are_pairs" = some (.ref f)) (G : Nm K mg) :
    C8.Cal P w K mg base 1 "are_pairs" (PrV (preB arePr)) [] := by
  have nd := sc_are_pairs.nd
  refine cal_of F hm sc_are_pairs (fun _ _ _ _ _ _ us hl => match us, hl with | [_], _ => rfl) (fun vs H Q E h => ?_) fun cdv A outer s H vs Q E hr h => ?_
  · obtain ⟨z, ⟨_, _, _, _, _, rfl, _⟩, _⟩ := h
    rfl
  obtain ⟨z, ⟨p, v, d, hd, ho, rfl, rfl⟩, hQ⟩ := h
  refine ⟨_, (pss_cons (ps_if (PW.pt (pw_or (pt_not (pt_val (pe_callB (kcall_isi (K := K) rfl) (by rfl) G.n_isinstance PyProof.Rows.boot_isinstance (pa_cons (pv 0) (pa_cons (pe_bltn (v := .ty "tuple") (by rfl) G.n_tuple PyProof.Rows.boot_tuple rfl) pa_nil))))) (pw_or1 (pt_not (pt_chain op_le op_le pe_int (pe_callB (kcall_len (K := K) rfl) (by rfl) G.n_len PySem.boot_len (pa_cons (pv 0) pa_nil)) (pe_gk rfl G.MOST_ARROWS)))))) (pss_one (ps_ret pe_bl)) pss_nil)
  (pss_one (ps_ret (pe_callB (kcr_all (K := K) rfl rfl) (by rfl) G.n_all PyProof.Rows.boot_all (pa_cons (pe_lc (own := [("pair", 1)]) rfl nd (kpi_tup (K := K) rfl (pv 0)) (blkOk_by (own := [("pair", 1)]) (by rfl)) (fun _ _ _ _ _ => (pg_name (i := 1) nd rfl (Or.inl rfl))) (fun _ _ _ _ _ => pts_nil) (fun _ _ _ _ _ => (pe_and (pe_callB (kcall_isi (K := K) rfl) (by rfl) G.n_isinstance PyProof.Rows.boot_isinstance (pa_cons (pv 1) (pa_cons (pe_bltn (v := .ty "tuple") (by rfl) G.n_tuple PyProof.Rows.boot_tuple rfl) pa_nil))) (pe_one (pe_cmpR op_eq (pe_callB (kcall_len (K := K) rfl) (by rfl) G.n_len PySem.boot_len (pa_cons (pv 1) pa_nil)) pe_int (nomark _)))))) pa_nil))))), ?_⟩
  have bad : arePr d = false → ∀ H2, Ex H H2 → Q (.bl false) H2 := fun q H2 e2 => by
    rw [q] at hQ
    exact hQ H2 e2
  cases ht : isaTup d with
  | false =>
    refine q_when (et_orT (et_notF (et_is (et_B (ev_isiV rfl hd (kit_tup d))) ht))) (fun hb H1 e1 => s_ret ev_c fun H2 e2 => bad ?_ H2 (e1.trans e2)) fun hb => by cases hb
    unfold arePr
    rw [ht]
    rfl
  | true =>
    obtain ⟨ds, rfl⟩ := tup_of ht
    obtain ⟨a, xs, rfl, na, ha, hx⟩ := hd.tupE
    have hn := ho.tupE.1
    refine q_when (et_or (et_not (et_is (et_B (ev_isiV rfl hd (kit_tup _))) ht)) fun _ => et_not (et_test (chain_len (m := 8) rfl (st_of ha) hx.length))) (fun hb H1 e1 => s_ret ev_c fun H2 e2 => bad ?_ H2 (e1.trans e2)) fun hb H1 e1 => ?_
    · have : lenB ds 8 = false := by
        revert hb
        show (_ || !lenB ds 8) = true → _
        cases lenB ds 8 <;> simp
      show (_ && (lenB ds 8 && _)) = false
      rw [this]
      rfl
    · have h8 : lenB ds 8 = true := by
        revert hb
        show (_ || !lenB ds 8) = false → _
        cases lenB ds 8 <;> simp
      refine s_ret (ev_allD (q := isPair) (el_mapD (hx.ex e1) (fun d => V.bl (isPair d)) (ei_tup (ev_var rfl) (st_of (e1 a _ ha))) (by omega) fun x d H2 e2 hd hx => ⟨_, tg_name, rfl, ?_⟩)) fun H2 e2 => ?_
      · rw [isPair_eq]
        exact ev_isT (n := 2) rfl hx
      · have := hQ H2 (e1.trans e2)
        have q : arePr (.tuple ds) = ds.all isPair := by
          show (_ && (lenB ds 8 && _)) = _
          rw [h8]
          rfl
        rw [q] at this
        exact this
end
end K35
set_option maxHeartbeats 4000000
/-! P7: rows -/
namespace K35
open PySem PySem.Spec PyProof.Rows L2 Evl

section
variable {K : PySem.W.Frag} {σ : L2.St} {H : Hp} {wi : TI} {g : TG} {tt : TT} {te ta tb : TE} {t : TT} {vs : List Nat} {p : Addr} {xs : List V} {ds : List PyData}
theorem proj_ex {R : V → PyData → V → Prop} {h : PyData → PyData} (hD : DTs p H xs ds) (hy : ∀ x d, d ∈ ds → DT p H x d → ∃ y, DT p H y (h d) ∧ R x d y) :
    ∃ zs, DTs p H zs (ds.map h) ∧ zs.length = xs.length ∧ ∀ x y, (x, y) ∈ xs.zip zs → ∃ d, d ∈ ds ∧ DT p H x d ∧ R x d y := by
  induction xs generalizing ds with
  | nil =>
    cases hD
    exact ⟨[], .nil, rfl, fun x y m => by simp at m⟩
  | cons x xs ih =>
    cases hD with
    | cons h1 h2 =>
      obtain ⟨y, k1, k2⟩ := hy x _ List.mem_cons_self h1
      obtain ⟨zs, z1, z2, z3⟩ := ih h2 fun x d hd => hy x d (List.mem_cons_of_mem _ hd)
      refine ⟨y :: zs, .cons k1 z1, by simp [z2], fun a b m => ?_⟩
      rcases List.mem_cons.mp m with q | q
      · cases q
        exact ⟨_, List.mem_cons_self, h1, k2⟩
      · obtain ⟨d, a1, a2, a3⟩ := z3 a b q
        exact ⟨d, List.mem_cons_of_mem _ a1, a2, a3⟩
/-- a part of each item -/
theorem el_projD (h : PyData → PyData) (hD : DTs p H xs ds) (hI : EvI wi σ H xs) (hn : ds.length ≤ 40000)
    (hy : ∀ x d, d ∈ ds → DT p H x d → ∃ y, DT p H y (h d) ∧ ∀ H1, Ex H H1 → ∃ σ2, Tg g x (wipe σ vs) H1 σ2 ∧ wipe σ2 vs = wipe σ vs ∧ Ev te σ2 H1 y) :
    ∃ zs, DTs p H zs (ds.map h) ∧ EvL (tLc wi g tYes te vs) σ H zs := by
  obtain ⟨zs, z1, z2, z3⟩ := proj_ex hD hy
  refine ⟨zs, z1, ?_⟩
  have e : zs = (xs.zip zs).filterMap fun q => some q.2 := by
    rw [List.filterMap_eq_map']
    exact (List.map_snd_zip (Nat.le_of_eq z2)).symm
  rw [e]
  have hl := hD.length
  refine el_comp _ (by rw [List.map_fst_zip (Nat.le_of_eq z2.symm)]; exact hI) (by rw [List.length_zip]; omega) fun x y H1 e1 hm => ?_
  obtain ⟨d, d1, d2, d3⟩ := z3 x y hm
  obtain ⟨σ2, t, w, v⟩ := d3 H1 e1
  exact ⟨σ2, t, w, et_yes, fun z hz => by cases hz; exact v⟩
theorem et_eqS {k c : Str} {i : Nat} (h : σ[i]? = some (some (.str k))) : EvT (tTest (tOp rEq (tVar i) (tC (.str c)))) σ H (decide (k = c)) := by
  refine et_is (et_test (ev_op (ev_var h) ev_c (rv_eq rfl))) ?_
  rw [Bool.eq_iff_iff]
  simp
theorem ew_if {b : Bool} (h : EvT t σ H b) (h1 : b = true → EvW ta σ H xs) (h2 : b = false → EvW tb σ H xs) : EvW (tIf t ta tb) σ H xs := fun H1 e Q q => h H1 e _ fun H2 e2 => by
  cases b with
  | true =>
    show ta σ H2 Q
    exact h1 rfl H2 (e.trans e2) Q fun p H3 e3 => q p H3 (e2.trans e3)
  | false =>
    show tb σ H2 Q
    exact h2 rfl H2 (e.trans e2) Q fun p H3 e3 => q p H3 (e2.trans e3)
theorem ew_tupleL (h : EvL te σ H xs) : EvW (tCB (fun xs H Q => ∃ p ys, xs = [.ref p] ∧ ((SqL K H p ys ∧ ∀ l, H l = none → Q (.ref l) (upd H l (.tup ys))) ∨ (SqT K H p ys ∧ Q (.ref p) H))) (tCons te tNil)) σ H xs := fun H1 e Q q =>
  h H1 e _ fun p H2 _ e2 h2 => ⟨p, xs, rfl, .inl ⟨sq_of h2, fun l hl => q l _ (e2.trans (Ex.new hl)) upd_same⟩⟩
theorem ew_var {i : Nat} {a : Addr} (h : σ[i]? = some (some (.ref a))) (ha : H a = some (.tup xs)) : EvW (tVar i) σ H xs := fun H1 e Q q => ⟨_, h, q a H1 (Ex.refl _) (e a _ ha)⟩
end
def itD (i : Nat) (d : PyData) : PyData := (itemsD d).getD i .none
def oneOf (ws : List Str) : PyData → Bool
  | .str x => memS x ws
  | _ => false
theorem oneOf_str {ws : List Str} {d : PyData} (h : oneOf ws d = true) : ∃ s, d = .str s ∧ memS s ws = true := by
  cases d <;> first | exact ⟨_, rfl, h⟩ | cases h
def isK (d : PyData) : Bool := oneOf kindsL d
def tosD (k : Str) (d : PyData) : List Str :=
  if k = "end" then [] else if k = "coin" then (itemsD d).map strOf else ((itemsD d).map prA).map strOf
def isTrip (d : PyData) : Bool := isaTup d && decide ((itemsD d).length = 3)
def areTr (d : PyData) : Bool := isaTup d && (lenB (itemsD d) 24 && ((itemsD d).all isTrip && arePl ((itemsD d).map (itD 0))))
def rowOk (r : PyData) : Bool := isK (itD 1 r) && isWhat (strOf (itD 1 r)) (itD 2 r)
def rowTos (r : PyData) : List Str := tosD (strOf (itD 1 r)) (itD 2 r)
def rowName (r : PyData) : Str := strOf (itD 0 r)
def isRows (d : PyData) : Bool := areTr d && ((itemsD d).all rowOk && (itemsD d).all fun r => (rowTos r).all fun to => memS to ((itemsD d).map rowName))
theorem trip_of {d : PyData} (h : isTrip d = true) : ∃ a b c, d = .tuple [a, b, c] := by
  unfold isTrip at h
  rw [Bool.and_eq_true] at h
  obtain ⟨ds, rfl⟩ := tup_of h.1
  have := of_decide_eq_true h.2
  match ds, this with
  | [a, b, c], _ => exact ⟨a, b, c, rfl⟩
theorem trip_at {p : Addr} {H : Hp} {v : V} {a b c : PyData} (h : DT p H v (.tuple [a, b, c])) : ∃ q x y z, v = .ref q ∧ q ≠ p ∧ H q = some (.tup [x, y, z]) ∧ DT p H x a ∧ DT p H y b ∧ DT p H z c := by
  obtain ⟨q, xs, rfl, nq, hq, hx⟩ := h.tupE
  obtain ⟨x, y, z, _, _, _, rfl, e, h1, h2, h3⟩ := hx.three rfl
  cases e
  exact ⟨q, x, y, z, rfl, nq, hq, h1, h2, h3⟩
theorem what_tup {k : Str} {d : PyData} (h : isWhat k d = true) (hk : k ≠ "end") : ∃ ds, d = .tuple ds ∧ lenB ds 8 = true := by
  unfold isWhat at h
  rw [if_neg hk] at h
  split at h
  · rw [Bool.and_eq_true, Bool.and_eq_true] at h
    obtain ⟨ds, rfl⟩ := tup_of h.1
    exact ⟨ds, rfl, h.2.1⟩
  · rw [Bool.and_eq_true] at h
    have h := h.1
    unfold arePr at h
    rw [Bool.and_eq_true, Bool.and_eq_true] at h
    obtain ⟨ds, rfl⟩ := tup_of h.1
    exact ⟨ds, rfl, h.2.1⟩
theorem lenB8 {ds : List PyData} {m : Nat} (h : lenB ds m = true) : 1 ≤ ds.length ∧ ds.length ≤ m := by
  unfold lenB at h
  simp at h
  omega
theorem arePl_str {ds : List PyData} (h : arePl ds = true) : ∀ d, d ∈ ds → ∃ z, d = .str z := fun d hd => by
  unfold arePl at h
  rw [Bool.and_eq_true] at h
  obtain ⟨z, e, _⟩ := pl_str (List.all_eq_true.mp h.1 d hd)
  exact ⟨z, e⟩
theorem what_coin {ds : List PyData} (h : isWhat "coin" (.tuple ds) = true) : arePl ds = true := by
  unfold isWhat at h
  rw [if_neg (by decide), if_pos rfl, Bool.and_eq_true, Bool.and_eq_true] at h
  exact h.2.2
theorem what_pairs {k : Str} {ds : List PyData} (h : isWhat k (.tuple ds) = true) (h1 : k ≠ "end") (h2 : k ≠ "coin") : ds.all isPair = true ∧ arePl (ds.map prA) = true := by
  unfold isWhat at h
  rw [if_neg h1, if_neg h2, Bool.and_eq_true, Bool.and_eq_true] at h
  have h0 := h.1
  unfold arePr at h0
  rw [Bool.and_eq_true, Bool.and_eq_true] at h0
  exact ⟨h0.2.2, h.2.1⟩
section
variable {P : Program} {w : World} {K : PySem.W.Frag} {mg : Str → Option Value} {base : Heap} {f : Addr} {fd : FuncData}
/-! ### is_one_of -/
def preOne (K : PySem.W.Frag) : List V → Hp → V → Prop := fun vs H z => ∃ p v d q ws, DT p H v d ∧ vs = [v, .ref q] ∧ SqT K H q (ws.map V.str) ∧ z = .bl (oneOf ws d)
theorem sc_is_one_of : FnScope ["value", "words"] ["value", "words"] (defScope (topS 13)) :=
  ⟨rfl, rfl, rfl, by decide +kernel, rfl, by decide +kernel, by decide +kernel⟩
theorem c_is_one_of (F : FnP K "is_one_of" (topS 13) f fd) (hm : mg "is_one_of" = some (.ref f)) (G : Nm K mg) :
    C8.Cal P w K mg base 1 "is_one_of" (PrV (preOne K)) [] := by
  have nd := sc_is_one_of.nd
  refine cal_of F hm sc_is_one_of (fun _ _ _ _ _ _ us hl => match us, hl with | [_, _], _ => rfl) (fun vs H Q E h => ?_) fun cdv A outer s H vs Q E hr h => ?_
  · obtain ⟨z, ⟨_, _, _, _, _, _, rfl, _⟩, _⟩ := h
    rfl
  obtain ⟨z, ⟨p, v, d, q, ws, hd, rfl, hw, rfl⟩, hQ⟩ := h
  refine ⟨_, (pss_one (ps_ret (pe_and (pe_callB (kcall_isi (K := K) rfl) (by rfl) G.n_isinstance PyProof.Rows.boot_isinstance (pa_cons (pv 0) (pa_cons (pe_bltn (v := .ty "str") (by rfl) G.n_str PyProof.Rows.boot_str rfl) pa_nil))) (pe_one (pe_cmpR (kop_in (K := K) rfl) (pv 0) (pv 1) rfl))))), ?_⟩
  have e : oneOf ws d = (isaStr d && oneOf ws d) := by cases d <;> rfl
  refine s_ret (v := .bl (isaStr d && oneOf ws d)) (ev_andV (ev_isiV rfl hd (kit_str d)) fun ht => ?_) fun H1 e1 => ?_
  · have : ∃ z, d = .str z := by
      cases d <;> first | exact ⟨_, rfl⟩ | cases ht
    obtain ⟨z, rfl⟩ := this
    obtain rfl := hd.strE
    exact ev_op (ev_var rfl) (ev_var rfl) (rv_isT hw rfl (flat_strs ws))
  · rw [← e]
    exact hQ H1 e1
/-! ### is_what -/
def preWhat (q : Str → PyData → Bool) : List V → Hp → V → Prop := fun vs H z => ∃ p v k d, vs = [.str k, v] ∧ DT p H v d ∧ Okd d ∧ z = .bl (q k d)
theorem sc_is_what : FnScope ["kind", "value", "numbers", "place", "number"] ["kind", "value"] (defScope (topS 32)) :=
  ⟨rfl, rfl, rfl, by decide +kernel, rfl, by decide +kernel, by decide +kernel⟩
theorem okd_pr {ds : List PyData} (h : ∀ d, d ∈ ds → Okd d) (hp : ds.all isPair = true) : (∀ d, d ∈ ds.map prA → Okd d) ∧ ∀ d, d ∈ ds.map prB → Okd d := by
  refine ⟨fun e he => ?_, fun e he => ?_⟩ <;>
  · obtain ⟨d, hd, rfl⟩ := List.mem_map.mp he
    obtain ⟨a, b, rfl⟩ := pair_of (List.all_eq_true.mp hp d hd)
    exact (h _ hd).tupE.2 _ (by simp [prA, prB])
theorem c_is_what (F : FnP K "is_what" (topS 32) f fd) (hm : mg "is_what" = some (.ref f)) (G : Nm K mg)
    (c_is_fraction : C8.Cal P w K mg base 2 "is_fraction" (PrV (preB isFr)) []) (c_are_places : C8.Cal P w K mg base 2 "are_places" (PrV (preAre K SqE arePl)) [])
    (c_are_pairs : C8.Cal P w K mg base 1 "are_pairs" (PrV (preB arePr)) []) (c_is_chance : C8.Cal P w K mg base 3 "is_chance" (PrV (preB isCh)) [])
    (c_total : C8.Cal P w K mg base 4 "total" (PrT K (preSum K)) []) : C8.Cal P w K mg base 5 "is_what" (PrV (preWhat isWhat)) [] := by
  have nd := sc_is_what.nd
  refine cal_of F hm sc_is_what (fun _ _ _ _ _ _ us hl => match us, hl with | [_, _], _ => rfl) (fun vs H Q E h => ?_) fun cdv A outer s H vs Q E hr h => ?_
  · obtain ⟨z, ⟨_, _, _, _, rfl, _⟩, _⟩ := h
    rfl
  obtain ⟨z, ⟨p, v, k, d, rfl, hd, ho, rfl⟩, hQ⟩ := h
  refine ⟨_, (pss_cons (ps_if (pt_cmpR op_eq (pv 0) pe_str (nomark _)) (pss_one (ps_ret (C8.pe_c c_is_fraction hr (by decide) rfl (pa_cons (pv 1) pa_nil)))) pss_nil)
  (pss_cons (ps_if (pt_cmpR op_eq (pv 0) pe_str (nomark _)) (pss_one (ps_ret (pe_and (pe_callB (kcall_isi (K := K) rfl) (by rfl) G.n_isinstance PyProof.Rows.boot_isinstance (pa_cons (pv 1) (pa_cons (pe_bltn (v := .ty "tuple") (by rfl) G.n_tuple PyProof.Rows.boot_tuple rfl) pa_nil))) (pe_and (pe_chain op_le op_le pe_int (pe_callB (kcall_len (K := K) rfl) (by rfl) G.n_len PySem.boot_len (pa_cons (pv 1) pa_nil)) (pe_gk rfl G.MOST_ARROWS)) (pe_one (C8.pe_c c_are_places hr (by decide) rfl (pa_cons (pv 1) pa_nil))))))) pss_nil)
  (pss_cons (ps_if (PW.pt (pw_or (pt_not (pt_val (C8.pe_c c_are_pairs hr (by decide) rfl (pa_cons (pv 1) pa_nil)))) (pw_or1 (pt_not (pt_val (C8.pe_c c_are_places hr (by decide) rfl (pa_cons (pe_lc (own := [("place", 3), ("number", 4)]) rfl nd (kpi_tup (K := K) rfl (pv 1)) (blkOk_by (own := [("place", 3), ("number", 4)]) (by rfl)) (fun _ _ _ _ _ => (kpg_tup (K := K) rfl (n := 2) rfl (pgs_cons (pg_name (i := 3) nd rfl (Or.inl rfl)) (pgs_cons (pg_name (i := 4) nd rfl (Or.inl rfl)) pgs_nil)))) (fun _ _ _ _ _ => pts_nil) (fun _ _ _ _ _ => (pv 3))) pa_nil))))))) (pss_one (ps_ret pe_bl)) pss_nil)
  (pss_cons (ps_setLc (i := 2) (own := [("place", 3), ("number", 4)]) rfl nd rfl rfl (sw_true rfl rfl rfl (by decide +kernel)) (kpi_tup (K := K) rfl (pv 1)) (blkOk_by (own := [("place", 3), ("number", 4)]) (by rfl)) (fun _ _ _ _ _ => (kpg_tup (K := K) rfl (n := 2) rfl (pgs_cons (pg_name (i := 3) nd rfl (Or.inl rfl)) (pgs_cons (pg_name (i := 4) nd rfl (Or.inl rfl)) pgs_nil)))) (fun _ _ _ _ _ => pts_nil) (fun _ _ _ _ _ => (pv 4)))
  (pss_cons (ps_if (pt_cmpR op_eq (pv 0) pe_str (nomark _)) (pss_one (ps_ret (pe_and (pe_callB (kcr_all (K := K) rfl rfl) (by rfl) G.n_all PyProof.Rows.boot_all (pa_cons (pe_lc (own := [("number", 4)]) rfl nd (kpi_list (K := K) rfl (pv 2)) (blkOk_by (own := [("number", 4)]) (by rfl)) (fun _ _ _ _ _ => (pg_name (i := 4) nd rfl (Or.inl rfl))) (fun _ _ _ _ _ => pts_nil) (fun _ _ _ _ _ => (pe_and (C8.pe_c c_is_chance hr (by decide) rfl (pa_cons (pv 4) pa_nil)) (pe_one (pe_cmpR op_gt (pe_ix (kix_tup (K := K) rfl) (pv 4) pe_int (fun _ _ => rfl)) pe_int (nomark _)))))) pa_nil)) (pe_one (pe_cmpR (kop_eqD (K := K) rfl (u64 hr)) (C8.pe_c c_total hr (by decide) rfl (pa_cons (pv 2) pa_nil)) (pe_gk rfl G.ONE) (nomark _)))))) pss_nil)
  (pss_one (ps_ret (pe_callB (kcr_all (K := K) rfl rfl) (by rfl) G.n_all PyProof.Rows.boot_all (pa_cons (pe_lc (own := [("number", 4)]) rfl nd (kpi_list (K := K) rfl (pv 2)) (blkOk_by (own := [("number", 4)]) (by rfl)) (fun _ _ _ _ _ => (pg_name (i := 4) nd rfl (Or.inl rfl))) (fun _ _ _ _ _ => pts_nil) (fun _ _ _ _ _ => (C8.pe_c c_is_fraction hr (by decide) rfl (pa_cons (pv 4) pa_nil)))) pa_nil))))))))), ?_⟩
  refine q_when (et_eqS rfl) (fun hb H1 e1 => ?_) fun hb H1 e1 => ?_
  · have hk : k = "end" := of_decide_eq_true hb
    refine s_ret (ev_pr (z := .bl (isFr d)) (ea_cons (ev_var rfl) ea_nil) fun H2 e2 => ⟨p, v, d, (hd.ex e1).ex e2, ho, rfl, rfl⟩) fun H2 e2 => ?_
    have := hQ H2 (e1.trans e2)
    unfold isWhat at this
    rw [if_pos hk] at this
    exact this
  have hk1 : ¬ k = "end" := of_decide_eq_false hb
  replace hd := hd.ex e1
  refine q_when (et_eqS rfl) (fun hb H2 e2 => ?_) fun hb H2 e2 => ?_
  · have hk : k = "coin" := of_decide_eq_true hb
    replace hd := hd.ex e2
    refine s_ret (v := .bl (isaTup d && (lenB (itemsD d) 8 && arePl (itemsD d)))) (ev_andV (ev_isiV rfl hd (kit_tup d)) fun ht => ?_) fun H3 e3 => ?_
    · obtain ⟨ds, rfl⟩ := tup_of ht
      obtain ⟨a, xs, rfl, na, ha, hx⟩ := hd.tupE
      exact ev_andV (chain_len (m := 8) rfl (st_of ha) hx.length) fun _ => ev_pr (z := .bl (arePl ds)) (ea_cons (ev_var rfl) ea_nil) fun H3 e3 => ⟨p, a, xs, ds, rfl, .inr (ex_t e3 (st_of ha)), hx.ex e3, ho.tupE.2, ho.tupE.1, rfl⟩
    · have := hQ H3 ((e1.trans e2).trans e3)
      unfold isWhat at this
      rw [if_neg hk1, if_pos hk] at this
      exact this
  have hk2 : ¬ k = "coin" := of_decide_eq_false hb
  replace hd := hd.ex e2
  have eqw : isWhat k d = (arePr d && (arePl ((itemsD d).map prA) && (if k = "chance" then ((itemsD d).map prB).all (fun n => isCh n && decide (0 < (frN n).1)) && decide (sumF ((itemsD d).map prB) = (1, 1)) else ((itemsD d).map prB).all isFr))) := by
    unfold isWhat
    rw [if_neg hk1, if_neg hk2]
  have first : Ev (tCall (PrV (preB arePr)) [] C8.E0 (tCons (tVar 1) tNil)) [some (.str k), some v, none, none, none] H2 (.bl (arePr d)) :=
    ev_pr (ea_cons (ev_var rfl) ea_nil) fun H3 e3 => ⟨p, v, d, hd.ex e3, ho, rfl, rfl⟩
  cases hp : arePr d with
  | false =>
    rw [hp] at first
    refine q_when (et_orT (et_notF (et_B first))) (fun hb H3 e3 => s_ret ev_c fun H4 e4 => ?_) fun hb => by cases hb
    have := hQ H4 (((e1.trans e2).trans e3).trans e4)
    rw [eqw, hp] at this
    exact this
  | true =>
    rw [hp] at first
    have hp0 := hp
    unfold arePr at hp0
    rw [Bool.and_eq_true, Bool.and_eq_true] at hp0
    obtain ⟨ds, rfl⟩ := tup_of hp0.1
    have hpair : ds.all isPair = true := hp0.2.2
    have h8 : ds.length ≤ 8 := by
      have := (lenB8 hp0.2.1).2
      exact this
    obtain ⟨a, xs, rfl, na, ha, hx⟩ := hd.tupE
    have hall := ho.tupE.2
    obtain ⟨zs, hzs, evz⟩ := el_projD (wi := iTup K (tVar 1)) (g := gTup K 2 (gCons (gName 3) (gCons (gName 4) gNil))) (te := tVar 3) (vs := [3, 4]) (σ := [some (.str k), some (.ref a), none, none, none]) prA hx (ei_tup (ev_var rfl) (st_of ha)) (by omega) fun x d hd hx => by
      obtain ⟨b, c, rfl⟩ := pair_of (List.all_eq_true.mp hpair d hd)
      obtain ⟨q, y, z, rfl, nq, hq, h1, h2⟩ := pair_at hx
      exact ⟨y, h1, fun H3 e3 => ⟨_, tg_two (st_of (e3 q _ hq)), rfl, ev_var rfl⟩⟩
    refine q_when (et_or (et_not (et_B first)) fun _ => et_not (et_B (ev_prL (z := .bl (arePl (ds.map prA))) (EvL.m evz) fun q H3 e3 h3 => ⟨p, q, zs, _, rfl, .inl (sq_of h3), hzs.ex e3, (okd_pr hall hpair).1, by rw [List.length_map]; omega, rfl⟩))) (fun hb H3 e3 => s_ret ev_c fun H4 e4 => ?_) fun hb H3 e3 => ?_
    · have := hQ H4 (((e1.trans e2).trans e3).trans e4)
      rw [eqw, hp] at this
      have q : arePl (ds.map prA) = false := by
        revert hb
        cases arePl (ds.map prA) <;> simp
      have q : arePl ((itemsD (.tuple ds)).map prA) = false := q
      rw [q] at this
      exact this
    have hq2 : arePl ((itemsD (.tuple ds)).map prA) = true := by
      revert hb
      show (_ || !arePl (ds.map prA)) = false → arePl (ds.map prA) = true
      cases arePl (ds.map prA) <;> simp
    rw [hp, hq2, Bool.true_and, Bool.true_and] at eqw
    replace hx := hx.ex e3
    replace ha := e3 a _ ha
    obtain ⟨ns, hns, evn⟩ := el_projD (wi := iTup K (tVar 1)) (g := gTup K 2 (gCons (gName 3) (gCons (gName 4) gNil))) (te := tVar 4) (vs := [3, 4]) (σ := [some (.str k), some (.ref a), none, none, none]) prB hx (ei_tup (ev_var rfl) (st_of ha)) (by omega) fun x d hd hx => by
      obtain ⟨b, c, rfl⟩ := pair_of (List.all_eq_true.mp hpair d hd)
      obtain ⟨q, y, z, rfl, nq, hq, h1, h2⟩ := pair_at hx
      exact ⟨z, h2, fun H3 e3 => ⟨_, tg_two (st_of (e3 q _ hq)), rfl, ev_var rfl⟩⟩
    have okn := (okd_pr hall hpair).2
    refine q_asgL evn fun l H4 nl e4 hl => ?_
    replace hns := hns.ex e4
    have ln : (ds.map prB).length ≤ 8 := by rw [List.length_map]; exact h8
    refine q_when (et_eqS rfl) (fun hb H5 e5 => ?_) fun hb H5 e5 => ?_
    · have hk : k = "chance" := of_decide_eq_true hb
      rw [if_pos hk] at eqw
      rw [eqw] at hQ
      refine s_ret (ev_andV (ev_allD (q := fun n => isCh n && decide (0 < (frN n).1)) (el_mapD (hns.ex e5) (fun n => V.bl (isCh n && decide (0 < (frN n).1))) (ei_list (ev_var rfl) (sq_of (e5 l _ hl))) (by omega) fun x d H6 e6 hd hx => ⟨_, tg_name, rfl, ?_⟩)) fun hc => ?_) fun H6 e6 => hQ H6 (((((e1.trans e2).trans e3).trans e4).trans e5).trans e6)
      · refine ev_andV (ev_pr (z := .bl (isCh d)) (ea_cons (ev_var rfl) ea_nil) fun H7 e7 => ⟨p, x, d, hx.ex e7, okn d hd, rfl, rfl⟩) fun hch => ?_
        unfold isCh at hch
        rw [Bool.and_eq_true] at hch
        obtain ⟨b, rfl, nb, hb, k1, k2, k3⟩ := fr_ok hx (okn d hd) hch.1
        exact ev_op (ev_op (ev_var rfl) ev_c (rv_ixT (st_of hb) at0)) ev_c rv_I0
      · refine ev_eqP (x := sumF (ds.map prB)) (y := (1, 1)) (es_pr (ea_cons (ev_var rfl) ea_nil) fun H7 e7 => ⟨p, l, ns, _, rfl, sq_of ((e5.trans e7) l _ hl), hns.ex (e5.trans e7), fun d hd => ⟨?_, okn d hd⟩, ln, rfl⟩) (Ev.s ev_c (G.tONE _))
        have := List.all_eq_true.mp hc d hd
        unfold isCh at this
        rw [Bool.and_eq_true, Bool.and_eq_true] at this
        exact this.1.1
    · have hk : ¬ k = "chance" := of_decide_eq_false hb
      rw [if_neg hk] at eqw
      rw [eqw] at hQ
      exact s_ret (ev_allD (q := isFr) (el_mapD (hns.ex e5) (fun n => V.bl (isFr n)) (ei_list (ev_var rfl) (sq_of (e5 l _ hl))) (by omega) fun x d H6 e6 hd hx => ⟨_, tg_name, rfl, ev_pr (ea_cons (ev_var rfl) ea_nil) fun H7 e7 => ⟨p, x, d, hx.ex e7, okn d hd, rfl, rfl⟩⟩)) fun H6 e6 => hQ H6 (((((e1.trans e2).trans e3).trans e4).trans e5).trans e6)
/-! ### arrows_of -/
def preTos : List V → Hp → List V → Prop := fun vs H xs => ∃ p v k d, vs = [.str k, v] ∧ DT p H v d ∧ isWhat k d = true ∧ xs = (tosD k d).map V.str
theorem sc_arrows_of : FnScope ["kind", "what", "place", "number"] ["kind", "what"] (defScope (topS 33)) :=
  ⟨rfl, rfl, rfl, by decide +kernel, rfl, by decide +kernel, by decide +kernel⟩
theorem pairs_tos {p : Addr} {H : Hp} {σ : L2.St} {a : Addr} {xs : List V} {ds : List PyData} {te : TE} {g : TG} {vs : List Nat} {wi : TI} (hx : DTs p H xs ds) (hp : ds.all isPair = true) (hs : arePl (ds.map prA) = true) (hn : ds.length ≤ 8) (hI : EvI wi σ H xs)
    (hy : ∀ q y z H1, Ex H H1 → H1 q = some (.tup [.str y, z]) → ∃ σ2, Tg g (.ref q) (wipe σ vs) H1 σ2 ∧ wipe σ2 vs = wipe σ vs ∧ Ev te σ2 H1 (.str y)) :
    EvL (tLc wi g tYes te vs) σ H (((ds.map prA).map strOf).map V.str) := by
  rw [List.map_map, List.map_map]
  refine el_mapD hx _ hI (by omega) fun x d H1 e1 hd hx => ?_
  obtain ⟨b, c, rfl⟩ := pair_of (List.all_eq_true.mp hp d hd)
  obtain ⟨q, y, z, rfl, nq, hq, h1, h2⟩ := pair_at hx
  obtain ⟨s, es⟩ := arePl_str hs b (List.mem_map.mpr ⟨_, hd, rfl⟩)
  subst es
  obtain rfl := h1.strE
  exact hy q s z H1 e1 hq
theorem c_arrows_of (F : FnP K "arrows_of" (topS 33) f fd) (hm : mg "arrows_of" = some (.ref f)) (G : Nm K mg) :
    C8.Cal P w K mg base 1 "arrows_of" (PrW preTos) [] := by
  have nd := sc_arrows_of.nd
  refine cal_of F hm sc_arrows_of (fun _ _ _ _ _ _ us hl => match us, hl with | [_, _], _ => rfl) (fun vs H Q E h => ?_) fun cdv A outer s H vs Q E hr h => ?_
  · obtain ⟨z, ⟨_, _, _, _, rfl, _⟩, _⟩ := h
    rfl
  obtain ⟨z, ⟨p, v, k, d, rfl, hd, hw, rfl⟩, hQ⟩ := h
  refine ⟨_, (pss_cons (ps_if (pt_cmpR op_eq (pv 0) pe_str (nomark _)) (pss_one (ps_ret (pe_tup pa_nil))) pss_nil)
  (pss_one (ps_ret (pe_ifExp (pt_cmpR op_eq (pv 0) pe_str (nomark _)) (pv 1) (pe_callTy (kcall_tuple (K := K) rfl) (by rfl) G.n_tuple PyProof.Rows.boot_tuple (pa_cons (pe_lc (own := [("place", 2), ("number", 3)]) rfl nd (kpi_tup (K := K) rfl (pv 1)) (blkOk_by (own := [("place", 2), ("number", 3)]) (by rfl)) (fun _ _ _ _ _ => (kpg_tup (K := K) rfl (n := 2) rfl (pgs_cons (pg_name (i := 2) nd rfl (Or.inl rfl)) (pgs_cons (pg_name (i := 3) nd rfl (Or.inl rfl)) pgs_nil)))) (fun _ _ _ _ _ => pts_nil) (fun _ _ _ _ _ => (pv 2))) pa_nil)))))), ?_⟩
  refine q_when (et_eqS rfl) (fun hb H1 e1 => ?_) fun hb H1 e1 => ?_
  · have hk : k = "end" := of_decide_eq_true hb
    refine s_retW (EvU.w (eu_tup ea_nil (by simp))) fun q H2 e2 h2 => hQ q H2 (e1.trans e2) ?_
    unfold tosD
    rw [if_pos hk]
    exact h2
  have hk1 : ¬ k = "end" := of_decide_eq_false hb
  obtain ⟨ds, rfl, h8⟩ := what_tup hw hk1
  obtain ⟨a, xs, rfl, na, ha, hx⟩ := (hd.ex e1).tupE
  have h8 := (lenB8 h8).2
  refine s_retW (ew_if (xs := (tosD k (.tuple ds)).map V.str) (et_eqS rfl) (fun hb => ?_) fun hb => ?_) fun q H2 e2 h2 => hQ q H2 (e1.trans e2) h2
  · have hk : k = "coin" := of_decide_eq_true hb
    subst hk
    have e : xs = (tosD "coin" (.tuple ds)).map V.str := by
      unfold tosD
      rw [if_neg hk1, if_pos rfl]
      exact strs_of hx (arePl_str (what_coin hw))
    rw [← e]
    exact ew_var rfl ha
  · have hk2 : ¬ k = "coin" := of_decide_eq_false hb
    obtain ⟨w1, w2⟩ := what_pairs hw hk1 hk2
    have e : tosD k (.tuple ds) = (ds.map prA).map strOf := by
      unfold tosD
      rw [if_neg hk1, if_neg hk2]
      rfl
    rw [e]
    exact ew_tupleL (pairs_tos (a := a) hx w1 w2 h8 (ei_tup (ev_var rfl) (st_of ha)) fun q y z H2 e2 hq => ⟨_, tg_two (st_of hq), rfl, ev_var rfl⟩)
/-! ### are_triples -/
theorem sc_are_triples : FnScope ["value", "row"] ["value"] (defScope (topS 34)) :=
  ⟨rfl, rfl, rfl, by decide +kernel, rfl, by decide +kernel, by decide +kernel⟩
theorem okd_it {ds : List PyData} (h : ∀ d, d ∈ ds → Okd d) (hp : ds.all isTrip = true) (i : Nat) (hi : i < 3) : ∀ d, d ∈ ds.map (itD i) → Okd d := fun e he => by
  obtain ⟨d, hd, rfl⟩ := List.mem_map.mp he
  obtain ⟨a, b, c, rfl⟩ := trip_of (List.all_eq_true.mp hp d hd)
  have q := (h _ hd).tupE.2
  have : i = 0 ∨ i = 1 ∨ i = 2 := by omega
  rcases this with e | e | e <;> subst e <;> exact q _ (by simp [itD, itemsD])
theorem c_are_triples (F : FnP K "are_triples" (topS 34) f fd) (hm : mg "are_triples" = some (.ref f)) (G : Nm K mg)
    (c_are_places : C8.Cal P w K mg base 2 "are_places" (PrV (preAre K SqE arePl)) []) : C8.Cal P w K mg base 3 "are_triples" (PrV (preB areTr)) [] := by
  have nd := sc_are_triples.nd
  refine cal_of F hm sc_are_triples (fun _ _ _ _ _ _ us hl => match us, hl with | [_], _ => rfl) (fun vs H Q E h => ?_) fun cdv A outer s H vs Q E hr h => ?_
  · obtain ⟨z, ⟨_, _, _, _, _, rfl, _⟩, _⟩ := h
    rfl
  obtain ⟨z, ⟨p, v, d, hd, ho, rfl, rfl⟩, hQ⟩ := h
  refine ⟨_, (pss_cons (ps_if (PW.pt (pw_or (pt_not (pt_val (pe_callB (kcall_isi (K := K) rfl) (by rfl) G.n_isinstance PyProof.Rows.boot_isinstance (pa_cons (pv 0) (pa_cons (pe_bltn (v := .ty "tuple") (by rfl) G.n_tuple PyProof.Rows.boot_tuple rfl) pa_nil))))) (pw_or1 (pt_not (pt_chain op_le op_le pe_int (pe_callB (kcall_len (K := K) rfl) (by rfl) G.n_len PySem.boot_len (pa_cons (pv 0) pa_nil)) (pe_gk rfl G.MOST_PLACES)))))) (pss_one (ps_ret pe_bl)) pss_nil)
  (pss_cons (ps_if (pt_not (pt_val (pe_callB (kcr_all (K := K) rfl rfl) (by rfl) G.n_all PyProof.Rows.boot_all (pa_cons (pe_lc (own := [("row", 1)]) rfl nd (kpi_tup (K := K) rfl (pv 0)) (blkOk_by (own := [("row", 1)]) (by rfl)) (fun _ _ _ _ _ => (pg_name (i := 1) nd rfl (Or.inl rfl))) (fun _ _ _ _ _ => pts_nil) (fun _ _ _ _ _ => (pe_and (pe_callB (kcall_isi (K := K) rfl) (by rfl) G.n_isinstance PyProof.Rows.boot_isinstance (pa_cons (pv 1) (pa_cons (pe_bltn (v := .ty "tuple") (by rfl) G.n_tuple PyProof.Rows.boot_tuple rfl) pa_nil))) (pe_one (pe_cmpR op_eq (pe_callB (kcall_len (K := K) rfl) (by rfl) G.n_len PySem.boot_len (pa_cons (pv 1) pa_nil)) pe_int (nomark _)))))) pa_nil)))) (pss_one (ps_ret pe_bl)) pss_nil)
  (pss_one (ps_ret (C8.pe_c c_are_places hr (by decide) rfl (pa_cons (pe_lc (own := [("row", 1)]) rfl nd (kpi_tup (K := K) rfl (pv 0)) (blkOk_by (own := [("row", 1)]) (by rfl)) (fun _ _ _ _ _ => (pg_name (i := 1) nd rfl (Or.inl rfl))) (fun _ _ _ _ _ => pts_nil) (fun _ _ _ _ _ => (pe_ix (kix_tup (K := K) rfl) (pv 1) pe_int (fun _ _ => rfl)))) pa_nil)))))), ?_⟩
  have bad : areTr d = false → ∀ H2, Ex H H2 → Q (.bl false) H2 := fun q H2 e2 => by
    rw [q] at hQ
    exact hQ H2 e2
  cases ht : isaTup d with
  | false =>
    refine q_when (et_orT (et_notF (et_is (et_B (ev_isiV rfl hd (kit_tup d))) ht))) (fun hb H1 e1 => s_ret ev_c fun H2 e2 => bad ?_ H2 (e1.trans e2)) fun hb => by cases hb
    unfold areTr
    rw [ht]
    rfl
  | true =>
    obtain ⟨ds, rfl⟩ := tup_of ht
    obtain ⟨a, xs, rfl, na, ha, hx⟩ := hd.tupE
    have hn := ho.tupE.1
    refine q_when (et_or (et_not (et_is (et_B (ev_isiV rfl hd (kit_tup _))) ht)) fun _ => et_not (et_test (chain_len (m := 24) rfl (st_of ha) hx.length))) (fun hb H1 e1 => s_ret ev_c fun H2 e2 => bad ?_ H2 (e1.trans e2)) fun hb H1 e1 => ?_
    · have : lenB ds 24 = false := by
        revert hb
        show (_ || !lenB ds 24) = true → _
        cases lenB ds 24 <;> simp
      show (_ && (lenB ds 24 && _)) = false
      rw [this]
      rfl
    have h8 : lenB ds 24 = true := by
      revert hb
      show (_ || !lenB ds 24) = false → _
      cases lenB ds 24 <;> simp
    replace hx := hx.ex e1
    replace ha := e1 a _ ha
    refine q_when (et_not (et_B (ev_allD (q := isTrip) (el_mapD hx (fun d => V.bl (isTrip d)) (ei_tup (ev_var rfl) (st_of ha)) (by omega) fun x d H2 e2 hd hx => ⟨_, tg_name, rfl, ev_isT (n := 3) rfl hx⟩)))) (fun hb H2 e2 => s_ret ev_c fun H3 e3 => bad ?_ H3 ((e1.trans e2).trans e3)) fun hb H2 e2 => ?_
    · have : ds.all isTrip = false := by
        revert hb
        cases ds.all isTrip <;> simp
      show (_ && (_ && (ds.all isTrip && _))) = false
      rw [this, Bool.false_and, Bool.and_false, Bool.and_false]
    have htr : ds.all isTrip = true := by
      revert hb
      cases ds.all isTrip <;> simp
    replace hx := hx.ex e2
    replace ha := e2 a _ ha
    obtain ⟨zs, hzs, evz⟩ := el_projD (wi := iTup K (tVar 0)) (g := gName 1) (te := tOp (rIxT K) (tVar 1) (tC (.int 0))) (vs := [1]) (σ := [some (.ref a), none]) (itD 0) hx (ei_tup (ev_var rfl) (st_of ha)) (by omega) fun x d hd hx => by
      obtain ⟨b, c, e, rfl⟩ := trip_of (List.all_eq_true.mp htr d hd)
      obtain ⟨q, y, z, u, rfl, nq, hq, h1, h2, h3⟩ := trip_at hx
      exact ⟨y, h1, fun H3 e3 => ⟨_, tg_name, rfl, ev_op (ev_var rfl) ev_c (rv_ixT (st_of (e3 q _ hq)) at0)⟩⟩
    refine s_ret (ev_prL (z := .bl (arePl (ds.map (itD 0)))) (EvL.m evz) fun q H3 e3 h3 => ⟨p, q, zs, _, rfl, .inl (sq_of h3), hzs.ex e3, okd_it ho.tupE.2 htr 0 (by omega), by rw [List.length_map]; omega, rfl⟩) fun H3 e3 => ?_
    have := hQ H3 ((e1.trans e2).trans e3)
    have q : areTr (.tuple ds) = arePl (ds.map (itD 0)) := by
      show (_ && (lenB ds 24 && (ds.all isTrip && _))) = _
      rw [h8, htr]
      rfl
    rw [q] at this
    exact this
end
end K35
set_option maxHeartbeats 4000000
/-! P8: are_rows -/
namespace K35
open PySem PySem.Spec PyProof.Rows L2 Evl

section
variable {K : PySem.W.Frag} {σ : L2.St} {H : Hp} {wi : TI} {g g1 : TG} {tt tt1 : TT} {te tl : TE} {vs vs1 : List Nat}
theorem el_comp2 {α : Type} {prs : List (V × α)} (inn : V × α → List (V × V)) (hI : EvI wi σ H (prs.map (·.1))) (hn : (prs.flatMap inn).length ≤ 40000)
    (hs : ∀ x a H1, Ex H H1 → (x, a) ∈ prs → ∃ σ2, Tg g x (wipe σ vs) H1 σ2 ∧ wipe σ2 vs = wipe σ vs ∧ EvT tt σ2 H1 true ∧ EvW tl σ2 H1 ((inn (x, a)).map (·.1)) ∧
      ∀ y v H2, Ex H H2 → (y, v) ∈ inn (x, a) → ∃ σ3, Tg g1 y (wipe σ2 vs1) H2 σ3 ∧ wipe σ3 vs1 = wipe σ2 vs1 ∧ EvT tt1 σ3 H2 true ∧ Ev te σ3 H2 v) :
    EvL (tLc2 wi g tt (iTup K tl) g1 tt1 te vs vs1) σ H ((prs.flatMap inn).map (·.2)) := fun H0 e0 Q q => hI H0 e0 _ fun J H1 e1 S => fun Dl hD => by
  have lm : (prs.map (·.1)).length = prs.length := List.length_map _
  have lt : ∀ i, i ≤ prs.length → ((prs.take i).flatMap inn).length ≤ (prs.flatMap inn).length := fun i _ => by
    have := congrArg (fun l : List (V × α) => (l.flatMap inn).length) (List.take_append_drop i prs)
    simp only [List.flatMap_append, List.length_append] at this
    omega
  refine ⟨fun i m H' => m = prs.length - i ∧ i ≤ prs.length ∧ Ex H1 H' ∧ H' Dl = some (.lst (((prs.take i).flatMap inn).map (·.2))), ⟨prs.length, rfl, Nat.zero_le _, Ex.new hD, upd_same⟩, ?_⟩
  rintro i m H' ⟨rfl, hi, ex, hl⟩
  by_cases hlt : i < prs.length
  · refine .inr ⟨S.go H' ex i (by rw [lm]; exact hlt), fun H'' => i + 1 ≤ prs.length ∧ Ex H1 H'' ∧ H'' Dl = some (.lst (((prs.take (i + 1)).flatMap inn).map (·.2))), fun H'' ⟨a, b, c⟩ => ⟨prs.length - (i + 1), by omega, rfl, a, b, c⟩, fun x H'' hy => ?_⟩
    obtain ⟨rfl, hx⟩ := S.yld H' ex i x H'' (by rw [lm]; exact hlt) hy
    have h1 : prs[i]? = some prs[i] := by simp [hlt]
    rw [List.getElem?_map, h1] at hx
    have hx : prs[i].1 = x := by simpa using hx
    have hm : (x, prs[i].2) ∈ prs := by rw [← hx]; exact List.getElem_mem hlt
    have e2 : (x, prs[i].2) = prs[i] := by rw [← hx]
    obtain ⟨σ2, tg, w, ht, hw, hv⟩ := hs x prs[i].2 H'' ((e0.trans e1).trans ex) hm
    have tk : (prs.take (i + 1)).flatMap inn = (prs.take i).flatMap inn ++ inn prs[i] := by
      rw [List.take_add_one, h1, List.flatMap_append]
      simp
    rw [e2] at hv hw
    have l2 := lt (i + 1) hlt
    rw [tk, List.length_append] at l2
    refine tg _ ⟨w, ht H'' (Ex.refl _) _ fun H3 e3 => ?_⟩
    rw [if_pos rfl]
    refine hw H3 e3 _ fun a H4 e4 h4 => ⟨a, rfl, ⟨_, st_of h4⟩, ?_⟩
    refine ⟨fun j k H5 => k = (inn prs[i]).length - j ∧ j ≤ (inn prs[i]).length ∧ Ex H1 H5 ∧ H5 a = some (.tup ((inn prs[i]).map (·.1))) ∧ H5 Dl = some (.lst (((prs.take i).flatMap inn).map (·.2) ++ ((inn prs[i]).take j).map (·.2))),
      ⟨_, rfl, Nat.zero_le _, (ex.trans e3).trans e4, h4, by simpa using e4 Dl _ (e3 Dl _ hl)⟩, ?_⟩
    rintro j k H5 ⟨rfl, hj, ex5, h5, hl5⟩
    by_cases hjt : j < (inn prs[i]).length
    · have g1 : (inn prs[i])[j]? = some (inn prs[i])[j] := by simp [hjt]
      refine .inr ⟨⟨_, (inn prs[i])[j].1, st_of h5, by rw [List.getElem?_map, g1]; rfl⟩, fun H6 => j + 1 ≤ (inn prs[i]).length ∧ Ex H1 H6 ∧ H6 a = some (.tup ((inn prs[i]).map (·.1))) ∧ H6 Dl = some (.lst (((prs.take i).flatMap inn).map (·.2) ++ ((inn prs[i]).take (j + 1)).map (·.2))),
        fun H6 ⟨a, b, c, d⟩ => ⟨(inn prs[i]).length - (j + 1), by omega, rfl, a, b, c, d⟩, fun y H6 hy => ?_⟩
      obtain ⟨rfl, hy⟩ := hy
      have hy := hy _ (st_of h5)
      rw [List.getElem?_map, g1] at hy
      have hy : (inn prs[i])[j].1 = y := by simpa using hy
      have hm2 : (y, (inn prs[i])[j].2) ∈ inn prs[i] := by rw [← hy]; exact List.getElem_mem hjt
      obtain ⟨σ3, tg3, w3, t3, v3⟩ := hv y (inn prs[i])[j].2 H6 ((e0.trans e1).trans ex5) hm2
      have tk2 : ((inn prs[i]).take (j + 1)).map (·.2) = ((inn prs[i]).take j).map (·.2) ++ [(inn prs[i])[j].2] := by
        rw [List.take_add_one, g1, List.map_append]
        rfl
      refine tg3 _ ⟨w3, t3 H6 (Ex.refl _) _ fun H7 e7 => ?_⟩
      rw [if_pos rfl]
      refine v3 H7 e7 _ fun H8 e8 => ⟨_, e8 Dl _ (e7 Dl _ hl5), ?_, hjt, Ex.mut ((ex5.trans e7).trans e8) hD, ?_, ?_⟩
      · have q1 := lt i hi
        have q2 := List.length_take_le j (inn prs[i])
        refine sz_lt ?_
        rw [List.length_append, List.length_map, List.length_map]
        omega
      · have ne : a ≠ Dl := fun z => by
          rw [z, hl5] at h5
          cases h5
        rw [upd_ne ne]
        exact e8 a _ (e7 a _ h5)
      · rw [upd_same, tk2, List.append_assoc]
    · have e : j = (inn prs[i]).length := by omega
      subst e
      refine .inl ⟨⟨_, st_of h5, by rw [List.length_map]; exact Nat.le_refl _⟩, hlt, ex5, ?_⟩
      rw [tk, List.map_append]
      rw [List.take_length] at hl5
      exact hl5
  · have e : i = prs.length := by omega
    subst e
    refine .inl ⟨by rw [← lm]; exact S.stop H' ex, q Dl H' (fresh_back e1 hD) (e1.trans ex) ?_⟩
    rw [List.take_length] at hl
    exact hl
end
theorem what_len {k : Str} {d : PyData} (h : isWhat k d = true) : (tosD k d).length ≤ 8 := by
  unfold tosD
  split
  · exact Nat.zero_le _
  · rename_i h1
    obtain ⟨ds, rfl, h8⟩ := what_tup h h1
    have := (lenB8 h8).2
    split <;> (simp [itemsD]; omega)
section
variable {P : Program} {w : World} {K : PySem.W.Frag} {mg : Str → Option Value} {base : Heap} {f : Addr} {fd : FuncData}
theorem flat_len {ds : List PyData} {h : PyData → List Str} (hd : ∀ d, d ∈ ds → (h d).length ≤ 8) : (ds.flatMap h).length ≤ 8 * ds.length := by
  induction ds with
  | nil => exact Nat.le_refl _
  | cons d r ih =>
    have a := hd d List.mem_cons_self
    have b := ih fun e he => hd e (List.mem_cons_of_mem _ he)
    rw [List.flatMap_cons, List.length_append, List.length_cons]
    omega
theorem en_of {prs : List (V × PyData)} {N : List Str} : ((prs.flatMap fun q => (rowTos q.2).map fun to => (V.str to, V.bl (memS to N)))).map (·.2) = ((prs.map (·.2)).flatMap rowTos).map fun to => V.bl (memS to N) := by
  induction prs with
  | nil => rfl
  | cons q r ih =>
    simp only [List.flatMap_cons, List.map_cons, List.map_append, ih, List.map_map]
    rfl
/-- a row in form, in the heap -/
theorem row_at {p : Addr} {H : Hp} {v : V} {d : PyData} (h : DT p H v d) (ht : isTrip d = true) (hk : isK (itD 1 d) = true) :
    ∃ q x z, v = .ref q ∧ q ≠ p ∧ H q = some (.tup [x, .str (strOf (itD 1 d)), z]) ∧ DT p H x (itD 0 d) ∧ DT p H z (itD 2 d) := by
  obtain ⟨a, b, c, rfl⟩ := trip_of ht
  obtain ⟨q, x, y, z, rfl, nq, hq, h1, h2, h3⟩ := trip_at h
  obtain ⟨s, e, _⟩ := oneOf_str hk
  obtain rfl : b = .str s := e
  obtain rfl := h2.strE
  exact ⟨q, x, z, rfl, nq, hq, h1, h3⟩
theorem sc_are_rows : FnScope ["value", "places", "row", "to"] ["value"] (defScope (topS 35)) :=
  ⟨rfl, rfl, rfl, by decide +kernel, rfl, by decide +kernel, by decide +kernel⟩
theorem c_are_rows (F : FnP K "are_rows" (topS 35) f fd) (hm : mg "are_rows" = some (.ref f)) (G : Nm K mg)
    (c_are_triples : C8.Cal P w K mg base 3 "are_triples" (PrV (preB areTr)) []) (c_is_one_of : C8.Cal P w K mg base 1 "is_one_of" (PrV (preOne K)) [])
    (c_is_what : C8.Cal P w K mg base 5 "is_what" (PrV (preWhat isWhat)) []) (c_arrows_of : C8.Cal P w K mg base 1 "arrows_of" (PrW preTos) []) :
    C8.Cal P w K mg base 6 "are_rows" (PrV (preB isRows)) [] := by
  have nd := sc_are_rows.nd
  refine cal_of F hm sc_are_rows (fun _ _ _ _ _ _ us hl => match us, hl with | [_], _ => rfl) (fun vs H Q E h => ?_) fun cdv A outer s H vs Q E hr h => ?_
  · obtain ⟨z, ⟨_, _, _, _, _, rfl, _⟩, _⟩ := h
    rfl
  obtain ⟨z, ⟨p, v, d, hd, ho, rfl, rfl⟩, hQ⟩ := h
  refine ⟨_, (pss_cons (ps_if (PW.pt (pw_or (pt_not (pt_val (C8.pe_c c_are_triples hr (by decide) rfl (pa_cons (pv 0) pa_nil)))) (pw_or1 (pt_not (pt_val (pe_callB (kcr_all (K := K) rfl rfl) (by rfl) G.n_all PyProof.Rows.boot_all (pa_cons (pe_lc (own := [("row", 2)]) rfl nd (kpi_tup (K := K) rfl (pv 0)) (blkOk_by (own := [("row", 2)]) (by rfl)) (fun _ _ _ _ _ => (pg_name (i := 2) nd rfl (Or.inl rfl))) (fun _ _ _ _ _ => pts_nil) (fun _ _ _ _ _ => (pe_and (C8.pe_c c_is_one_of hr (by decide) rfl (pa_cons (pe_ix (kix_tup (K := K) rfl) (pv 2) pe_int (fun _ _ => rfl)) (pa_cons (pe_gk rfl G.KINDS) pa_nil))) (pe_one (C8.pe_c c_is_what hr (by decide) rfl (pa_cons (pe_ix (kix_tup (K := K) rfl) (pv 2) pe_int (fun _ _ => rfl)) (pa_cons (pe_ix (kix_tup (K := K) rfl) (pv 2) pe_int (fun _ _ => rfl)) pa_nil))))))) pa_nil))))))) (pss_one (ps_ret pe_bl)) pss_nil)
  (pss_cons (ps_set (i := 1) nd rfl (Or.inr rfl) (pe_lc (own := [("row", 2)]) rfl nd (kpi_tup (K := K) rfl (pv 0)) (blkOk_by (own := [("row", 2)]) (by rfl)) (fun _ _ _ _ _ => (pg_name (i := 2) nd rfl (Or.inl rfl))) (fun _ _ _ _ _ => pts_nil) (fun _ _ _ _ _ => (pe_ix (kix_tup (K := K) rfl) (pv 2) pe_int (fun _ _ => rfl)))))
  (pss_one (ps_ret (pe_callB (kcr_all (K := K) rfl rfl) (by rfl) G.n_all PyProof.Rows.boot_all (pa_cons (pe_lc2 (own := [("row", 2), ("to", 3)]) rfl nd (kpi_tup (K := K) rfl (pv 0)) (blkOk_by (own := [("row", 2), ("to", 3)]) (by rfl)) (vs1 := [3]) (by decide) (fun _ _ _ _ _ => (pg_name (i := 2) nd rfl (Or.inl rfl))) (fun _ _ _ _ _ => pts_nil) (fun _ _ _ _ _ => (kpi_tup (K := K) rfl (C8.pe_c c_arrows_of hr (by decide) rfl (pa_cons (pe_ix (kix_tup (K := K) rfl) (pv 2) pe_int (fun _ _ => rfl)) (pa_cons (pe_ix (kix_tup (K := K) rfl) (pv 2) pe_int (fun _ _ => rfl)) pa_nil))))) (fun _ _ _ _ _ => (pg_name (i := 3) nd rfl (Or.inl rfl))) (fun _ _ _ _ _ => pts_nil) (fun _ _ _ _ _ => (pe_cmpR (kop_in (K := K) rfl) (pv 3) (pv 1) rfl))) pa_nil)))))), ?_⟩
  have first : Ev (tCall (PrV (preB areTr)) [] C8.E0 (tCons (tVar 0) tNil)) [some v, none, none, none] H (.bl (areTr d)) :=
    ev_pr (ea_cons (ev_var rfl) ea_nil) fun H3 e3 => ⟨p, v, d, hd.ex e3, ho, rfl, rfl⟩
  cases ht : areTr d with
  | false =>
    rw [ht] at first
    refine q_when (et_orT (et_notF (et_B first))) (fun hb H1 e1 => s_ret ev_c fun H2 e2 => ?_) fun hb => by cases hb
    have := hQ H2 (e1.trans e2)
    unfold isRows at this
    rw [ht] at this
    exact this
  | true =>
    rw [ht] at first
    have ht0 := ht
    unfold areTr at ht0
    rw [Bool.and_eq_true, Bool.and_eq_true, Bool.and_eq_true] at ht0
    obtain ⟨h0, h1, htr, hpl⟩ := ht0
    obtain ⟨ds, rfl⟩ := tup_of h0
    have hn : ds.length ≤ 24 := (lenB8 h1).2
    have htr : ds.all isTrip = true := htr
    have hpl : arePl (ds.map (itD 0)) = true := hpl
    have hall := ho.tupE.2
    obtain ⟨a, xs, rfl, na, ha, hx⟩ := hd.tupE
    have eqr : isRows (.tuple ds) = (ds.all rowOk && ds.all fun r => (rowTos r).all fun to => memS to (ds.map rowName)) := by
      unfold isRows
      rw [ht, Bool.true_and]
      rfl
    refine q_when (et_or (et_not (et_B first)) fun _ => et_not (et_B (ev_allD (q := rowOk) (el_mapD hx (fun d => V.bl (rowOk d)) (ei_tup (ev_var rfl) (st_of ha)) (by omega) fun x d H1 e1 hd hx => ⟨_, tg_name, rfl, ?_⟩)))) (fun hb H1 e1 => s_ret ev_c fun H2 e2 => ?_) fun hb H1 e1 => ?_
    · obtain ⟨b, c, e, rfl⟩ := trip_of (List.all_eq_true.mp htr d hd)
      obtain ⟨q, y, z, u, rfl, nq, hq, h1, h2, h3⟩ := trip_at hx
      have o1 : Okd c := (hall _ hd).tupE.2 _ (by simp)
      have o2 : Okd e := (hall _ hd).tupE.2 _ (by simp)
      refine ev_andV (ev_pr (z := .bl (oneOf kindsL c)) (ea_cons (ev_op (ev_var rfl) ev_c (rv_ixT (st_of hq) at1)) (ea_cons ev_c ea_nil)) fun H2 e2 => ⟨p, z, c, _, kindsL, h2.ex e2, rfl, G.tKINDS _, rfl⟩) fun hk => ?_
      obtain ⟨s, es, _⟩ := oneOf_str hk
      obtain rfl : c = .str s := es
      obtain rfl := h2.strE
      exact ev_pr (z := .bl (isWhat s e)) (ea_cons (ev_op (ev_var rfl) ev_c (rv_ixT (st_of hq) at1)) (ea_cons (ev_op (ev_var rfl) ev_c (rv_ixT (st_of hq) at2)) ea_nil)) fun H2 e2 => ⟨p, u, s, e, rfl, h3.ex e2, o2, rfl⟩
    · have : ds.all rowOk = false := by
        revert hb
        cases ds.all rowOk <;> simp
      rw [eqr, this] at hQ
      exact hQ H2 (e1.trans e2)
    have hrow : ds.all rowOk = true := by
      revert hb
      cases ds.all rowOk <;> simp
    have hk : ∀ d, d ∈ ds → isK (itD 1 d) = true ∧ isWhat (strOf (itD 1 d)) (itD 2 d) = true := fun d hd => by
      have := List.all_eq_true.mp hrow d hd
      unfold rowOk at this
      rw [Bool.and_eq_true] at this
      exact this
    replace hx := hx.ex e1
    replace ha := e1 a _ ha
    refine q_asgL (xs := (ds.map rowName).map V.str) ?_ fun l H2 nl e2 hl => ?_
    · rw [List.map_map]
      refine el_mapD hx _ (ei_tup (ev_var rfl) (st_of ha)) (by omega) fun x d H2 e2 hd hx => ⟨_, tg_name, rfl, ?_⟩
      obtain ⟨b, c, e, rfl⟩ := trip_of (List.all_eq_true.mp htr d hd)
      obtain ⟨q, y, z, u, rfl, nq, hq, h1, h2, h3⟩ := trip_at hx
      obtain ⟨s, es⟩ := arePl_str hpl b (List.mem_map.mpr ⟨_, hd, rfl⟩)
      subst es
      obtain rfl := h1.strE
      exact ev_op (ev_var rfl) ev_c (rv_ixT (st_of hq) at0)
    replace hx := hx.ex e2
    replace ha := e2 a _ ha
    have en : ((xs.zip ds).flatMap fun q => (rowTos q.2).map fun to => (V.str to, V.bl (memS to (ds.map rowName)))).map (·.2) = (ds.flatMap rowTos).map fun to => V.bl (memS to (ds.map rowName)) := by
      rw [en_of, zip_snd hx]
    refine s_ret (v := .bl ((ds.flatMap rowTos).all fun to => memS to (ds.map rowName))) (ev_allA (as := ds.flatMap rowTos) (q := fun to => memS to (ds.map rowName)) ?_) fun H3 e3 => ?_
    · rw [← en]
      refine el_comp2 (fun q => (rowTos q.2).map fun to => (V.str to, V.bl (memS to (ds.map rowName)))) (by rw [zip_fst hx]; exact ei_tup (ev_var rfl) (st_of ha)) ?_ fun x d H3 e3 hm => ?_
      · rw [← List.length_map (as := (xs.zip ds).flatMap _) (f := fun q : V × V => q.2), en, List.length_map]
        have := flat_len (ds := ds) (h := rowTos) fun d hd => what_len (hk d hd).2
        omega
      · obtain ⟨hd, hx⟩ := zip_mem hx hm
        obtain ⟨q, y, z, rfl, nq, hq, h1, h2⟩ := row_at hx (List.all_eq_true.mp htr d hd) (hk d hd).1
        replace hq := e3 q _ hq
        have ex : ((rowTos d).map fun to => (V.str to, V.bl (memS to (ds.map rowName)))).map (·.1) = (rowTos d).map V.str := by
          rw [List.map_map]
          rfl
        refine ⟨_, tg_name, rfl, et_yes, ?_, fun y' v' H4 e4 hm4 => ?_⟩
        · rw [ex]
          exact ew_pr (ea_cons (ev_op (ev_var rfl) ev_c (rv_ixT (st_of hq) at1)) (ea_cons (ev_op (ev_var rfl) ev_c (rv_ixT (st_of hq) at2)) ea_nil)) fun H4 e4 => ⟨p, z, _, _, rfl, (h2.ex e3).ex e4, (hk d hd).2, rfl⟩
        · obtain ⟨to, hto, q⟩ := List.mem_map.mp hm4
          cases q
          exact ⟨_, tg_name, rfl, et_yes, ev_op (ev_var rfl) (ev_var rfl) (rv_isL (sq_of (e4 l _ hl)) rfl (flat_strs _))⟩
    · have := hQ H3 ((e1.trans e2).trans e3)
      rw [eqr, hrow, Bool.true_and] at this
      rw [List.all_flatMap]
      exact this
end
end K35
set_option maxHeartbeats 4000000
/-! M1: traps and coins, plain -/
namespace K35
open PySem PySem.Spec PyProof.Rows L2 Evl

def rowKind (r : PyData) : Str := strOf (itD 1 r)
def rowG (d : PyData) : Bool := isTrip d && (rowOk d && isPl (itD 0 d))
def stay (found : List Str) (r : PyData) : Bool := memS (rowName r) found && (if rowKind r = "chance" then (rowTos r).all (memS · found) else (rowTos r).any (memS · found))
def step (ds : List PyData) (found : List Str) : List Str := (ds.filter (stay found)).map rowName
def notEnd (r : PyData) : Bool := !decide (rowKind r = "end")
def isEnd (r : PyData) : Bool := decide (rowKind r = "end")
def it (ds : List PyData) : Nat → List Str
  | 0 => (ds.filter notEnd).map rowName
  | n + 1 => step ds (it ds n)
def trapD (ds : List PyData) : List Str := it ds ds.length
def cst (found : List Str) (r : PyData) : Bool := memS (rowName r) found || (rowTos r).any (memS · found)
def cstep (ds : List PyData) (found : List Str) : List Str := (ds.filter (cst found)).map rowName
def cit (ds : List PyData) : Nat → List Str
  | 0 => (ds.filter isEnd).map rowName
  | n + 1 => cstep ds (cit ds n)
def coinK (r : PyData) : Bool := memS (rowKind r) ["end", "coin"]
def coinsD (ds : List PyData) : Bool := ds.all coinK && decide ((cit ds ds.length).length = ds.length)

theorem eqV_str (x y : Str) : eqV (.str x) (.str y) = decide (x = y) := by
  rw [Bool.eq_iff_iff]
  simp [eqV]
theorem memS_iff {x : Str} {xs : List Str} : memS x xs = true ↔ x ∈ xs := by
  unfold memS inV
  rw [List.any_map, List.any_eq_true]
  constructor
  · rintro ⟨y, hy, e⟩
    have : y = x := by simpa [eqV_str] using e
    exact this ▸ hy
  · intro h
    exact ⟨x, h, by simp [eqV_str]⟩
theorem rowG_of {ds : List PyData} (h : isRows (.tuple ds) = true) : ds.length ≤ 24 ∧ ∀ d, d ∈ ds → rowG d = true := by
  unfold isRows at h
  rw [Bool.and_eq_true, Bool.and_eq_true] at h
  obtain ⟨h1, h2, _⟩ := h
  unfold areTr at h1
  rw [Bool.and_eq_true, Bool.and_eq_true, Bool.and_eq_true] at h1
  obtain ⟨_, h3, h4, h5⟩ := h1
  refine ⟨(lenB8 h3).2, fun d hd => ?_⟩
  unfold arePl at h5
  rw [Bool.and_eq_true] at h5
  unfold rowG
  rw [Bool.and_eq_true, Bool.and_eq_true]
  exact ⟨List.all_eq_true.mp h4 d hd, List.all_eq_true.mp h2 d hd, List.all_eq_true.mp h5.1 _ (List.mem_map.mpr ⟨d, hd, rfl⟩)⟩
/-- a fixed row test -/
def pk (ds : List PyData) : Nat → PyData → Bool
  | 0, r => notEnd r
  | n + 1, r => stay (it ds n) r
theorem it_pk (ds : List PyData) (n : Nat) : it ds n = (ds.filter (pk ds n)).map rowName := by
  cases n <;> rfl
theorem stay_mono {f g : List Str} (h : ∀ x, x ∈ f → x ∈ g) {r : PyData} (hr : stay f r = true) : stay g r = true := by
  unfold stay at hr ⊢
  rw [Bool.and_eq_true] at hr ⊢
  refine ⟨memS_iff.mpr (h _ (memS_iff.mp hr.1)), ?_⟩
  have hr := hr.2
  split
  · rename_i hc
    rw [if_pos hc] at hr
    rw [List.all_eq_true] at hr ⊢
    exact fun x hx => memS_iff.mpr (h _ (memS_iff.mp (hr x hx)))
  · rename_i hc
    rw [if_neg hc] at hr
    rw [List.any_eq_true] at hr ⊢
    obtain ⟨x, hx, e⟩ := hr
    exact ⟨x, hx, memS_iff.mpr (h _ (memS_iff.mp e))⟩
theorem pk_down (ds : List PyData) : ∀ (n : Nat) (r : PyData), pk ds (n + 1) r = true → pk ds n r = true
  | 0, r, h => by
    show (!decide (rowKind r = "end")) = true
    have h : stay (it ds 0) r = true := h
    by_cases e : rowKind r = "end"
    · exfalso
      unfold stay at h
      rw [Bool.and_eq_true, if_neg (by rw [e]; decide)] at h
      have z : rowTos r = [] := by
        unfold rowTos tosD
        rw [if_pos (show strOf (itD 1 r) = "end" from e)]
      rw [z] at h
      simp at h
    · simp [e]
  | n + 1, r, h => by
    refine stay_mono (f := it ds (n + 1)) (g := it ds n) (fun x hx => ?_) h
    rw [it_pk] at hx ⊢
    obtain ⟨d, hd, e⟩ := List.mem_map.mp hx
    obtain ⟨h1, h2⟩ := List.mem_filter.mp hd
    exact List.mem_map.mpr ⟨d, List.mem_filter.mpr ⟨h1, pk_down ds n d h2⟩, e⟩
theorem filter_len {p q : PyData → Bool} {ds : List PyData} (h : ∀ r, q r = true → p r = true) : (ds.filter q).length ≤ (ds.filter p).length ∧ ((ds.filter p).length ≤ (ds.filter q).length → ds.filter q = ds.filter p) := by
  induction ds with
  | nil => exact ⟨Nat.le_refl _, fun _ => rfl⟩
  | cons d r ih =>
    cases hq : q d with
    | true =>
      rw [List.filter_cons_of_pos hq, List.filter_cons_of_pos (h d hq)]
      simp only [List.length_cons]
      refine ⟨by omega, fun z => ?_⟩
      rw [ih.2 (by omega)]
    | false =>
      have hq' : ¬ q d = true := by rw [hq]; decide
      rw [List.filter_cons_of_neg hq']
      cases hp : p d with
      | true =>
        rw [List.filter_cons_of_pos hp]
        simp only [List.length_cons]
        exact ⟨by omega, fun z => by omega⟩
      | false =>
        have hp' : ¬ p d = true := by rw [hp]; decide
        rw [List.filter_cons_of_neg hp']
        exact ih
theorem it_len (ds : List PyData) (n : Nat) : (it ds (n + 1)).length ≤ (it ds n).length ∧ ((it ds n).length ≤ (it ds (n + 1)).length → it ds (n + 1) = it ds n) := by
  have := filter_len (ds := ds) (pk_down ds n)
  rw [it_pk, it_pk, List.length_map, List.length_map]
  exact ⟨this.1, fun h => by rw [this.2 h]⟩
theorem it_fix {ds : List PyData} {n : Nat} (h : it ds (n + 1) = it ds n) : ∀ k, it ds (n + k) = it ds n
  | 0 => rfl
  | k + 1 => by
    show step ds (it ds (n + k)) = _
    rw [it_fix h k]
    exact h
/-- after as many turns as rows nothing more goes -/
theorem it_end (ds : List PyData) : ∀ n, it ds (n + 1) = it ds n ∨ (it ds n).length + n ≤ ds.length
  | 0 => .inr (by
    show ((ds.filter notEnd).map rowName).length + 0 ≤ _
    rw [List.length_map]
    exact List.length_filter_le _ _)
  | n + 1 => by
    rcases it_end ds n with h | h
    · left
      have := it_fix h 2
      rw [show n + 2 = n + 1 + 1 from rfl] at this
      rw [this, h]
    · by_cases e : it ds (n + 1) = it ds n
      · left
        have := it_fix e 2
        rw [show n + 2 = n + 1 + 1 from rfl] at this
        rw [this, e]
      · right
        obtain ⟨h1, h2⟩ := it_len ds n
        have : ¬ (it ds n).length ≤ (it ds (n + 1)).length := fun z => e (h2 z)
        omega
theorem it_still (ds : List PyData) : it ds (ds.length + 1) = it ds ds.length := by
  rcases it_end ds ds.length with h | h
  · exact h
  · obtain ⟨h1, h2⟩ := it_len ds ds.length
    exact h2 (by omega)
theorem it_trap {ds : List PyData} {n : Nat} (h : (it ds n).length ≤ (it ds (n + 1)).length) : it ds (n + 1) = trapD ds := by
  have e := (it_len ds n).2 h
  have a := it_fix e ds.length
  have b := it_fix (it_still ds) n
  rw [e]
  show it ds n = it ds ds.length
  rw [← a, ← b, Nat.add_comm]
end K35
set_option maxHeartbeats 4000000
/-! P9: the program's traps and coins -/
namespace K35
open PySem PySem.Spec PyProof.Rows L2 Evl

/-- rows in form, in the heap -/
def RowsAt (p : Addr) (H : Hp) (v : V) (ds : List PyData) : Prop := DT p H v (.tuple ds) ∧ ds.length ≤ 24 ∧ ∀ d, d ∈ ds → rowG d = true
theorem RowsAt.ex {p : Addr} {H H' : Hp} {v : V} {ds : List PyData} (h : RowsAt p H v ds) (e : Ex H H') : RowsAt p H' v ds := ⟨h.1.ex e, h.2⟩
theorem rowG_row {d : PyData} (h : rowG d = true) : isTrip d = true ∧ isK (itD 1 d) = true ∧ isWhat (rowKind d) (itD 2 d) = true ∧ isPl (itD 0 d) = true := by
  unfold rowG rowOk at h
  rw [Bool.and_eq_true, Bool.and_eq_true, Bool.and_eq_true] at h
  exact ⟨h.1, h.2.1.1, h.2.1.2, h.2.2⟩
theorem rowG_at {p : Addr} {H : Hp} {v : V} {d : PyData} (h : DT p H v d) (g : rowG d = true) :
    ∃ q z, v = .ref q ∧ q ≠ p ∧ H q = some (.tup [.str (rowName d), .str (rowKind d), z]) ∧ DT p H z (itD 2 d) := by
  obtain ⟨h1, h2, h3, h4⟩ := rowG_row g
  obtain ⟨q, x, z, rfl, nq, hq, hx, hz⟩ := row_at h h1 h2
  obtain ⟨s, es, _⟩ := pl_str h4
  unfold rowName
  rw [es] at hx ⊢
  obtain rfl := hx.strE
  exact ⟨q, z, rfl, nq, hq, hz⟩
theorem tos_len {d : PyData} (g : rowG d = true) : (rowTos d).length ≤ 8 := what_len (rowG_row g).2.2.1
section
variable {K : PySem.W.Frag} {σ : L2.St} {H : Hp} {te : TE} {xs : List V} {l : Addr} {i : Nat}
theorem ev_allV {bs : List Bool} (hv : σ[i]? = some (some (.ref l))) (h : H l = some (.lst (bs.map V.bl))) : Ev (tCB (rAll K) (tCons (tVar i) tNil)) σ H (.bl (bs.all id)) := fun H1 e Q q =>
  ⟨_, hv, l, bs, rfl, sq_of (e l _ h), q H1 (Ex.refl _)⟩
theorem ev_anyV {bs : List Bool} (hv : σ[i]? = some (some (.ref l))) (h : H l = some (.lst (bs.map V.bl))) : Ev (tCB (rAny K) (tCons (tVar i) tNil)) σ H (.bl (bs.any id)) := fun H1 e Q q =>
  ⟨_, hv, l, bs, rfl, sq_of (e l _ h), q H1 (Ex.refl _)⟩
theorem et_neS {k c : Str} (h : Ev te σ H (.str k)) : EvT (tTest (tOp rNe te (tC (.str c)))) σ H (!decide (k = c)) := by
  refine et_is (et_test (ev_op h ev_c (rv_ne rfl))) ?_
  congr 1
  rw [Bool.eq_iff_iff]
  simp
theorem et_eqSE {k c : Str} (h : Ev te σ H (.str k)) : EvT (tTest (tOp rEq te (tC (.str c)))) σ H (decide (k = c)) := by
  refine et_is (et_test (ev_op h ev_c (rv_eq rfl))) ?_
  rw [Bool.eq_iff_iff]
  simp
theorem ew_tuple1 (hv : σ[i]? = some (some (.ref l))) (h : H l = some (.lst xs)) : EvW (tCB (fun xs H Q => ∃ p ys, xs = [.ref p] ∧ ((SqL K H p ys ∧ ∀ l, H l = none → Q (.ref l) (upd H l (.tup ys))) ∨ (SqT K H p ys ∧ Q (.ref p) H))) (tCons (tVar i) tNil)) σ H xs := fun H1 e Q q =>
  ⟨_, hv, l, xs, rfl, .inl ⟨sq_of (e l _ h), fun p hp => q p _ (Ex.new hp) upd_same⟩⟩
end
theorem take_filter {ds : List PyData} {i : Nat} {d : PyData} (h : ds[i]? = some d) (c : PyData → Bool) (f : PyData → V) :
    ((ds.take (i + 1)).filter c).map f = if c d = true then ((ds.take i).filter c).map f ++ [f d] else ((ds.take i).filter c).map f := by
  rw [List.take_add_one, h, List.filter_append, List.map_append]
  split
  · rename_i hc
    simp [hc]
  · rename_i hc
    simp [hc]
section
variable {P : Program} {w : World} {K : PySem.W.Frag} {mg : Str → Option Value} {base : Heap} {f : Addr} {fd : FuncData}
def preRowsW (q : List PyData → List Str) : List V → Hp → List V → Prop := fun vs H xs => ∃ p v ds, vs = [v] ∧ RowsAt p H v ds ∧ xs = (q ds).map V.str
def preRowsB (q : List PyData → Bool) : List V → Hp → V → Prop := fun vs H z => ∃ p v ds, vs = [v] ∧ RowsAt p H v ds ∧ z = .bl (q ds)
theorem sc_trap_in : FnScope ["rows", "found", "many", "kept", "place", "kind", "what", "inside", "row", "to"] ["rows"] (defScope (topS 36)) :=
  ⟨rfl, rfl, rfl, by decide +kernel, rfl, by decide +kernel, by decide +kernel⟩
/-- many, found of the loop -/
def TrapI (ds : List PyData) (fnd : List Str) (n : Int) : Prop := ∃ j, fnd = it ds j ∧ ((j = 0 ∧ n = fnd.length + 1) ∨ ∃ i, j = i + 1 ∧ n = (it ds i).length)
theorem c_trap_in (F : FnP K "trap_in" (topS 36) f fd) (hm : mg "trap_in" = some (.ref f)) (G : Nm K mg)
    (c_arrows_of : C8.Cal P w K mg base 1 "arrows_of" (PrW preTos) []) : C8.Cal P w K mg base 2 "trap_in" (PrW (preRowsW trapD)) [] := by
  have nd := sc_trap_in.nd
  refine cal_of F hm sc_trap_in (fun _ _ _ _ _ _ us hl => match us, hl with | [_], _ => rfl) (fun vs H Q E h => ?_) fun cdv A outer s H vs Q E hr h => ?_
  · obtain ⟨z, ⟨_, _, _, rfl, _⟩, _⟩ := h
    rfl
  obtain ⟨z, ⟨p, v, ds, rfl, hR, rfl⟩, hQ⟩ := h
  obtain ⟨hd, h24, hg⟩ := hR
  obtain ⟨a, xs, rfl, na, ha, hx⟩ := hd.tupE
  refine ⟨_, (pss_cons (ps_set (i := 1) nd rfl (Or.inr rfl) (pe_lc (own := [("row", 8)]) rfl nd (kpi_tup (K := K) rfl (pv 0)) (blkOk_by (own := [("row", 8)]) (by rfl)) (fun _ _ _ _ _ => (pg_name (i := 8) nd rfl (Or.inl rfl))) (fun _ _ _ _ _ => pts_one (pt_cmpR op_ne (pe_ix (kix_tup (K := K) rfl) (pv 8) pe_int (fun _ _ => rfl)) pe_str (nomark _))) (fun _ _ _ _ _ => (pe_ix (kix_tup (K := K) rfl) (pv 8) pe_int (fun _ _ => rfl)))))
  (pss_cons (ps_set (i := 2) nd rfl (Or.inl rfl) (pe_op op_add (pe_callB (kcall_len (K := K) rfl) (by rfl) G.n_len PySem.boot_len (pa_cons (pv 1) pa_nil)) pe_int))
  (pss_cons (ps_while PassesOwn.never (pt_cmpR op_gt (pv 2) (pe_callB (kcall_len (K := K) rfl) (by rfl) G.n_len PySem.boot_len (pa_cons (pv 1) pa_nil)) (nomark _)) (pss_cons (ps_set (i := 2) nd rfl (Or.inl rfl) (pe_callB (kcall_len (K := K) rfl) (by rfl) G.n_len PySem.boot_len (pa_cons (pv 1) pa_nil)))
  (pss_cons (ps_set (i := 3) nd rfl (Or.inl rfl) (pe_lst pa_nil))
  (pss_cons (ps_for PassesOwn.never rfl (kpi_tup (K := K) rfl (pv 0)) (kpg_tup (K := K) rfl (n := 3) rfl (pgs_cons (pg_name (i := 4) nd rfl (Or.inl rfl)) (pgs_cons (pg_name (i := 5) nd rfl (Or.inl rfl)) (pgs_cons (pg_name (i := 6) nd rfl (Or.inl rfl)) pgs_nil)))) (pss_cons (ps_setLc (i := 7) (own := [("to", 9)]) rfl nd rfl rfl (sw_true rfl rfl rfl (by decide +kernel)) (kpi_tup (K := K) rfl (C8.pe_c c_arrows_of hr (by decide) rfl (pa_cons (pv 5) (pa_cons (pv 6) pa_nil)))) (blkOk_by (own := [("to", 9)]) (by rfl)) (fun _ _ _ _ _ => (pg_name (i := 9) nd rfl (Or.inl rfl))) (fun _ _ _ _ _ => pts_nil) (fun _ _ _ _ _ => (pe_cmpR (kop_in (K := K) rfl) (pv 9) (pv 1) rfl)))
  (pss_one (ps_if (PW.pt (pw_and (pt_cmpR (kop_in (K := K) rfl) (pv 4) (pv 1) rfl) (pw_and1 (pt_ifExp (pt_cmpR op_eq (pv 5) pe_str (nomark _)) (pt_val (pe_callB (kcr_all (K := K) rfl rfl) (by rfl) G.n_all PyProof.Rows.boot_all (pa_cons (pv 7) pa_nil))) (pt_val (pe_callB (kcr_any (K := K) rfl rfl) (by rfl) G.n_any PyProof.Rows.boot_any (pa_cons (pv 7) pa_nil))))))) (pss_one (ps_expr (pe_bm PySem.F.plainAttrs_list PySem.F.slot_list_append PySem.F.type_list_append mt_append (pv 3) (pa_cons (pv 4) pa_nil)))) pss_nil))))
  (pss_one (ps_set (i := 1) nd rfl (Or.inr rfl) (pv 3)))))))
  (pss_one (ps_ret (pe_callTy (kcall_tuple (K := K) rfl) (by rfl) G.n_tuple PyProof.Rows.boot_tuple (pa_cons (pv 1) pa_nil))))))), ?_⟩
  refine q_asgL (xs := (it ds 0).map V.str) ?_ fun l0 H1 nl0 e1 hl0 => ?_
  · show EvL _ _ _ (((ds.filter notEnd).map rowName).map V.str)
    rw [List.map_map]
    refine el_filD hx notEnd _ (ei_tup (ev_var rfl) (st_of ha)) (by omega) fun x d H1 e1 hd hx => ⟨_, tg_name, rfl, ?_⟩
    obtain ⟨q, z, rfl, nq, hq, hz⟩ := rowG_at hx (hg d hd)
    exact ⟨et_neS (ev_op (ev_var rfl) ev_c (rv_ixT (st_of hq) at1)), fun _ => ev_op (ev_var rfl) ev_c (rv_ixT (st_of hq) at0)⟩
  refine q_asg (ev_op (ev_lenL (ev_var rfl) (sq_of hl0)) ev_c rv_I0) fun H2 e2 => ?_
  refine q_while (fun m σ' H' => ∃ fnd l n c3 c4 c5 c6 c7, σ' = [some (.ref a), some (.ref l), some (.int n), c3, c4, c5, c6, c7, none, none] ∧ Ex H H' ∧ H' l = some (.lst (fnd.map V.str)) ∧ TrapI ds fnd n ∧ m = n.toNat) (((it ds 0).length : Int) + 1).toNat ?_ ?_
  · refine ⟨it ds 0, l0, _, none, none, none, none, none, rfl, e1.trans e2, e2 l0 _ hl0, ⟨0, rfl, .inl ⟨rfl, by rw [List.length_map]⟩⟩, ?_⟩
    simp
  · rintro m σ' H' ⟨fnd, l, n, c3, c4, c5, c6, c7, rfl, ex, hl, ti, rfl⟩
    refine ⟨_, et_test (ev_op (ev_var rfl) (ev_lenL (ev_var rfl) (sq_of hl)) rv_I0), fun hb H3 e3 => ?_, fun hb H3 e3 => ?_⟩
    · have hb : ((fnd.map V.str).length : Int) < n := of_decide_eq_true hb
      rw [List.length_map] at hb
      refine ⟨fun σ2 H2 => ∃ m', m' < n.toNat ∧ ∃ fnd l n c3 c4 c5 c6 c7, σ2 = [some (.ref a), some (.ref l), some (.int n), c3, c4, c5, c6, c7, none, none] ∧ Ex H H2 ∧ H2 l = some (.lst (fnd.map V.str)) ∧ TrapI ds fnd n ∧ m' = n.toNat, fun _ _ h => h, ?_⟩
      refine q_asg (ev_lenL (ev_var rfl) (sq_of (e3 l _ hl))) fun H4 e4 => ?_
      refine q_asgL (el_lst ea_nil (by simp)) fun q H5 nq e5 hq => ?_
      have ex5 := ((ex.trans e3).trans e4).trans e5
      have hl5 := e5 l _ (e4 l _ (e3 l _ hl))
      have ne : l ≠ q := ne_of_none (e4 l _ (e3 l _ hl)) nq
      refine q_forT (ev_var rfl) (st_of (ex5 a _ ha)) (fun i σ6 H6 => ∃ c4 c5 c6 c7, σ6 = [some (.ref a), some (.ref l), some (.int ((fnd.map V.str).length : Int)), some (.ref q), c4, c5, c6, c7, none, none] ∧ Ex H4 H6 ∧ H6 q = some (.lst (((ds.take i).filter (stay fnd)).map fun r => V.str (rowName r)))) ?_ ?_ ?_ ?_
      · exact fun H6 e6 => ⟨c4, c5, c6, c7, rfl, e5.trans e6, e6 q _ hq⟩
      · rintro i σ6 H6 hi ⟨_, _, _, _, _, e6, _⟩
        exact st_of ((((ex.trans e3).trans e4).trans e6) a _ ha)
      · rintro i x σ6 H6 hxi ⟨c4, c5, c6, c7, rfl, e6, hq6⟩
        have exH := ((ex.trans e3).trans e4).trans e6
        have hl6 := e6 l _ (e4 l _ (e3 l _ hl))
        obtain ⟨d, hdi, hdt⟩ := hx.get hxi
        have hdm := List.mem_of_getElem? hdi
        obtain ⟨r, z, rfl, nr, hr6, hz⟩ := rowG_at (hdt.ex exH) (hg d hdm)
        have tk := take_filter hdi (stay fnd) fun r => V.str (rowName r)
        refine tg_three (st_of hr6) _ ?_
        refine q_asgL (xs := ((rowTos d).map fun to => memS to fnd).map V.bl) ?_ fun u H7 nu e7 hu => ?_
        · rw [List.map_map]
          exact el_mapA (val := V.str) _ (ei_newT (ew_pr (ea_cons (ev_var rfl) (ea_cons (ev_var rfl) ea_nil)) fun H7 e7 => ⟨p, z, _, _, rfl, hz.ex e7, (rowG_row (hg d hdm)).2.2.1, rfl⟩)) (by have := tos_len (hg d hdm); omega) fun to H7 e7 hto =>
            ⟨_, tg_name, rfl, ev_op (ev_var rfl) (ev_var rfl) (rv_isL (sq_of (e7 l _ hl6)) rfl (flat_strs _))⟩
        have hl7 := e7 l _ hl6
        have est : stay fnd d = (memS (rowName d) fnd && (if rowKind d = "chance" then ((rowTos d).map fun to => memS to fnd).all id else ((rowTos d).map fun to => memS to fnd).any id)) := by
          unfold stay
          rw [List.all_map, List.any_map]
          rfl
        refine s_when (b := stay fnd d) ?_ (fun hb H8 e8 => ?_) fun hb H8 e8 => ?_
        · rw [est]
          refine et_and (et_test (ev_op (ev_var rfl) (ev_var rfl) (rv_isL (sq_of hl7) rfl (flat_strs _)))) fun _ => et_ifT (et_eqS rfl) (fun hb => ?_) fun hb => ?_
          · rw [if_pos (of_decide_eq_true hb)]
            exact et_B (ev_allV rfl hu)
          · rw [if_neg (of_decide_eq_false hb)]
            exact et_B (ev_anyV rfl hu)
        · refine s_app (e8 q _ (e7 q _ hq6)) (ev_var rfl) (ev_var rfl) ?_ fun H9 e9 => ?_
          · rw [List.length_map]
            have h1 := List.length_filter_le (stay fnd) (ds.take i)
            have h2 := List.length_take_le i ds
            have h3 := List.length_take_le' i ds
            omega
          · refine ⟨_, _, _, _, rfl, Ex.mut (((e6.trans e7).trans e8).trans e9) nq, ?_⟩
            rw [upd_same, tk, if_pos hb]
        · refine ⟨_, _, _, _, rfl, (e6.trans e7).trans e8, ?_⟩
          rw [tk, if_neg (by rw [hb]; decide)]
          exact e8 q _ (e7 q _ hq6)
      · rintro σ6 H6 ⟨c4, c5, c6, c7, rfl, e6, hq6⟩
        rw [hx.length, List.take_length] at hq6
        refine s_asg (ev_var rfl) fun H7 e7 => ?_
        refine ⟨((fnd.map V.str).length : Int).toNat, by rw [List.length_map]; omega, step ds fnd, q, _, _, _, _, _, _, rfl, (((ex.trans e3).trans e4).trans e6).trans e7, ?_, ?_, rfl⟩
        · unfold step
          rw [List.map_map]
          exact e7 q _ hq6
        · obtain ⟨j, rfl, _⟩ := ti
          exact ⟨j + 1, rfl, .inr ⟨j, rfl, by rw [List.length_map]⟩⟩
    · have hb : ¬ ((fnd.map V.str).length : Int) < n := of_decide_eq_false hb
      rw [List.length_map] at hb
      have : fnd = trapD ds := by
        obtain ⟨j, rfl, h | ⟨i, rfl, hi⟩⟩ := ti
        · omega
        · exact it_trap (by omega)
      rw [← this] at hQ
      exact s_retW (ew_tuple1 rfl (e3 l _ hl)) fun q H4 e4 h4 => hQ q H4 ((ex.trans e3).trans e4) h4
/-! ### coins -/
theorem sc_are_coin_rows : FnScope ["rows", "found", "turn", "place", "kind", "what", "to"] ["rows"] (defScope (topS 37)) :=
  ⟨rfl, rfl, rfl, by decide +kernel, rfl, by decide +kernel, by decide +kernel⟩
theorem strs_map (xs : List PyData) (h : PyData → Str) : (xs.map h).map V.str = xs.map fun d => V.str (h d) := by
  rw [List.map_map]
  rfl
theorem c_are_coin_rows (F : FnP K "are_coin_rows" (topS 37) f fd) (hm : mg "are_coin_rows" = some (.ref f)) (G : Nm K mg)
    (c_arrows_of : C8.Cal P w K mg base 1 "arrows_of" (PrW preTos) []) : C8.Cal P w K mg base 2 "are_coin_rows" (PrV (preRowsB coinsD)) [] := by
  have nd := sc_are_coin_rows.nd
  refine cal_of F hm sc_are_coin_rows (fun _ _ _ _ _ _ us hl => match us, hl with | [_], _ => rfl) (fun vs H Q E h => ?_) fun cdv A outer s H vs Q E hr h => ?_
  · obtain ⟨z, ⟨_, _, _, rfl, _⟩, _⟩ := h
    rfl
  obtain ⟨z, ⟨p, v, ds, rfl, hR, rfl⟩, hQ⟩ := h
  obtain ⟨hd, h24, hg⟩ := hR
  obtain ⟨a, xs, rfl, na, ha, hx⟩ := hd.tupE
  refine ⟨_, (pss_cons (ps_if (pt_not (pt_val (pe_callB (kcr_all (K := K) rfl rfl) (by rfl) G.n_all PyProof.Rows.boot_all (pa_cons (pe_lc (own := [("place", 3), ("kind", 4), ("what", 5)]) rfl nd (kpi_tup (K := K) rfl (pv 0)) (blkOk_by (own := [("place", 3), ("kind", 4), ("what", 5)]) (by rfl)) (fun _ _ _ _ _ => (kpg_tup (K := K) rfl (n := 3) rfl (pgs_cons (pg_name (i := 3) nd rfl (Or.inl rfl)) (pgs_cons (pg_name (i := 4) nd rfl (Or.inl rfl)) (pgs_cons (pg_name (i := 5) nd rfl (Or.inl rfl)) pgs_nil))))) (fun _ _ _ _ _ => pts_nil) (fun _ _ _ _ _ => (pe_cmpR (kop_in (K := K) rfl) (pv 4) (pe_tup (pa_cons pe_str (pa_cons pe_str pa_nil))) rfl))) pa_nil)))) (pss_one (ps_ret pe_bl)) pss_nil)
  (pss_cons (ps_set (i := 1) nd rfl (Or.inr rfl) (pe_lc (own := [("place", 3), ("kind", 4), ("what", 5)]) rfl nd (kpi_tup (K := K) rfl (pv 0)) (blkOk_by (own := [("place", 3), ("kind", 4), ("what", 5)]) (by rfl)) (fun _ _ _ _ _ => (kpg_tup (K := K) rfl (n := 3) rfl (pgs_cons (pg_name (i := 3) nd rfl (Or.inl rfl)) (pgs_cons (pg_name (i := 4) nd rfl (Or.inl rfl)) (pgs_cons (pg_name (i := 5) nd rfl (Or.inl rfl)) pgs_nil))))) (fun _ _ _ _ _ => pts_one (pt_cmpR op_eq (pv 4) pe_str (nomark _))) (fun _ _ _ _ _ => (pv 3))))
  (pss_cons (ps_for PassesOwn.never rfl (pi_range1 (by rfl) G.n_range (pa_cons (pe_callB (kcall_len (K := K) rfl) (by rfl) G.n_len PySem.boot_len (pa_cons (pv 0) pa_nil)) pa_nil)) (pg_name (i := 2) nd rfl (Or.inl rfl)) (pss_one (ps_set (i := 1) nd rfl (Or.inr rfl) (pe_lc (own := [("place", 3), ("kind", 4), ("what", 5)]) rfl nd (kpi_tup (K := K) rfl (pv 0)) (blkOk_by (own := [("place", 3), ("kind", 4), ("what", 5)]) (by rfl)) (fun _ _ _ _ _ => (kpg_tup (K := K) rfl (n := 3) rfl (pgs_cons (pg_name (i := 3) nd rfl (Or.inl rfl)) (pgs_cons (pg_name (i := 4) nd rfl (Or.inl rfl)) (pgs_cons (pg_name (i := 5) nd rfl (Or.inl rfl)) pgs_nil))))) (fun _ _ _ _ _ => pts_one (PW.pt (pw_or (pt_cmpR (kop_in (K := K) rfl) (pv 3) (pv 1) rfl) (pw_or1 (pt_val (pe_callB (kcr_any (K := K) rfl rfl) (by rfl) G.n_any PyProof.Rows.boot_any (pa_cons (pe_lc (own := [("to", 6)]) rfl nd (kpi_tup (K := K) rfl (C8.pe_c c_arrows_of hr (by decide) rfl (pa_cons (pv 4) (pa_cons (pv 5) pa_nil)))) (blkOk_by (own := [("to", 6)]) (by rfl)) (fun _ _ _ _ _ => (pg_name (i := 6) nd rfl (Or.inl rfl))) (fun _ _ _ _ _ => pts_nil) (fun _ _ _ _ _ => (pe_cmpR (kop_in (K := K) rfl) (pv 6) (pv 1) rfl))) pa_nil))))))) (fun _ _ _ _ _ => (pv 3))))))
  (pss_one (ps_ret (pe_cmpR op_eq (pe_callB (kcall_len (K := K) rfl) (by rfl) G.n_len PySem.boot_len (pa_cons (pv 1) pa_nil)) (pe_callB (kcall_len (K := K) rfl) (by rfl) G.n_len PySem.boot_len (pa_cons (pv 0) pa_nil)) (nomark _))))))), ?_⟩
  refine q_when (et_not (et_B (ev_allD (q := coinK) (el_mapD hx (fun d => V.bl (coinK d)) (ei_tup (ev_var rfl) (st_of ha)) (by omega) fun x d H1 e1 hd hx => ?_)))) (fun hb H1 e1 => s_ret ev_c fun H2 e2 => ?_) fun hb H1 e1 => ?_
  · obtain ⟨q, z, rfl, nq, hq, hz⟩ := rowG_at hx (hg d hd)
    exact ⟨_, tg_three (st_of hq), rfl, ev_inU (ev_var rfl) (eu_tup (ea_cons ev_c (ea_cons ev_c ea_nil)) (by simp)) rfl rfl⟩
  · have : ds.all coinK = false := by
      revert hb
      cases ds.all coinK <;> simp
    unfold coinsD at hQ
    rw [this] at hQ
    exact hQ H2 (e1.trans e2)
  have hck : ds.all coinK = true := by
    revert hb
    cases ds.all coinK <;> simp
  replace hx := hx.ex e1
  replace ha := e1 a _ ha
  refine q_asgL (xs := (cit ds 0).map V.str) ?_ fun l0 H2 nl0 e2 hl0 => ?_
  · show EvL _ _ _ (((ds.filter isEnd).map rowName).map V.str)
    rw [strs_map]
    refine el_filD hx isEnd _ (ei_tup (ev_var rfl) (st_of ha)) (by omega) fun x d H1 e1 hd hx => ?_
    obtain ⟨q, z, rfl, nq, hq, hz⟩ := rowG_at hx (hg d hd)
    exact ⟨_, tg_three (st_of hq), rfl, et_eqSE (ev_var rfl), fun _ => ev_var rfl⟩
  replace hx := hx.ex e2
  replace ha := e2 a _ ha
  have ln : xs.length = ds.length := hx.length
  have rn : EvI (iRng1 (tCons (tCB (fun xs H Q => ∃ p ys, xs = [.ref p] ∧ (SqL K H p ys ∨ SqT K H p ys) ∧ Q (.int ys.length) H) (tCons (tVar 0) tNil)) tNil)) [some (.ref a), some (.ref l0), none, none, none, none, none] H2 (rngV ds.length) := by
    have := ei_rng (n := (xs.length : Int)) (ev_lenT (K := K) (ev_var (σ := [some (.ref a), some (.ref l0), none, none, none, none, none]) (i := 0) rfl) (st_of ha)) (by omega) (by omega)
    rwa [show (xs.length : Int).toNat = ds.length by omega] at this
  have lr : (rngV ds.length).length = ds.length := by simp [rngV]
  refine q_forI rn (fun i σ' H' => ∃ l c2, σ' = [some (.ref a), some (.ref l), c2, none, none, none, none] ∧ H' l = some (.lst ((cit ds i).map V.str))) ?_ ?_ ?_
  · exact fun H3 e3 => ⟨l0, none, rfl, e3 l0 _ hl0⟩
  · rintro i x σ' H' e' hxi ⟨l, c2, rfl, hl⟩
    refine ⟨_, tg_name, ?_⟩
    have hx' := hx.ex e'
    have ha' := e' a _ ha
    refine s_asgL (xs := (cit ds (i + 1)).map V.str) ?_ fun l1 H3 nl1 e3 hl1 => ⟨e3, l1, _, rfl, hl1⟩
    show EvL _ _ _ (((ds.filter (cst (cit ds i))).map rowName).map V.str)
    rw [strs_map]
    refine el_filD hx' (cst (cit ds i)) _ (ei_tup (ev_var rfl) (st_of ha')) (by omega) fun x d H4 e4 hd hx => ?_
    obtain ⟨q, z, rfl, nq, hq, hz⟩ := rowG_at hx (hg d hd)
    refine ⟨_, tg_three (st_of hq), rfl, ?_, fun _ => ev_var rfl⟩
    refine et_or (et_test (ev_op (ev_var rfl) (ev_var rfl) (rv_isL (sq_of (e4 l _ hl)) rfl (flat_strs _)))) fun _ => et_B (ev_anyA (as := rowTos d) (q := fun to => memS to (cit ds i)) ?_)
    exact el_mapA (val := V.str) _ (ei_newT (ew_pr (ea_cons (ev_var rfl) (ea_cons (ev_var rfl) ea_nil)) fun H7 e7 => ⟨p, z, _, _, rfl, hz.ex e7, (rowG_row (hg d hd)).2.2.1, rfl⟩)) (by have := tos_len (hg d hd); omega) fun to H7 e7 hto =>
            ⟨_, tg_name, rfl, ev_op (ev_var rfl) (ev_var rfl) (rv_isL (sq_of (e7 l _ (e4 l _ hl))) rfl (flat_strs _))⟩
  · rintro σ' H' e' ⟨l, c2, rfl, hl⟩
    rw [lr] at hl
    refine s_ret (ev_op (ev_lenL (ev_var rfl) (sq_of hl)) (ev_lenT (ev_var rfl) (st_of (e' a _ ha))) (rv_eq rfl)) fun H3 e3 => ?_
    have := hQ H3 (((e1.trans e2).trans e').trans e3)
    unfold coinsD at this
    rw [hck, Bool.true_and] at this
    rw [List.length_map, ln, dec_int]
    have q : (((cit ds ds.length).length : Int) == (ds.length : Int)) = decide ((cit ds ds.length).length = ds.length) := by
      rw [Bool.eq_iff_iff]
      simp
      omega
    rw [q]
    exact this
end
end K35
set_option maxHeartbeats 4000000
/-! P10: the law's names and what a row says -/
namespace K35
open PySem PySem.Spec PyProof.Rows L2 Evl

/-! ### chances whose sum is one -/
theorem low_eq {a b : Int} (h : 0 < b) : (lowF a b).1 * (Int.gcd a b : Nat) = a ∧ (lowF a b).2 * (Int.gcd a b : Nat) = b :=
  ⟨Int.ediv_mul_cancel (Int.gcd_dvd_left a b), Int.ediv_mul_cancel (Int.gcd_dvd_right a b)⟩
theorem low_le {a b c d : Int} (h : 0 < b) (q : c * b ≤ a * d) : c * (lowF a b).2 ≤ (lowF a b).1 * d := by
  have g := gcd_pos (a := a) h
  obtain ⟨e1, e2⟩ := low_eq (a := a) h
  have g' : (0 : Int) < (Int.gcd a b : Nat) := by omega
  refine Int.le_of_mul_le_mul_right ?_ g'
  rw [Int.mul_assoc, e2, Int.mul_right_comm, e1]
  exact q
theorem add_keep {x y : Int × Int} {c d : Int} (hx : 0 < x.2) (hy : 0 < y.2) (hy1 : 0 ≤ y.1) (hd : 0 < d) (q : c * x.2 ≤ x.1 * d) : c * (addF x y).2 ≤ (addF x y).1 * d := by
  refine low_le (Int.mul_pos hx hy) ?_
  have h1 : c * x.2 * y.2 ≤ x.1 * d * y.2 := Int.mul_le_mul_of_nonneg_right q (by omega)
  have h2 : 0 ≤ y.1 * x.2 * d := Int.mul_nonneg (Int.mul_nonneg hy1 (by omega)) (by omega)
  rw [← Int.mul_assoc, Int.add_mul, Int.mul_right_comm x.1 y.2 d]
  omega
theorem add_new {x y : Int × Int} (hx : 0 < x.2) (hx1 : 0 ≤ x.1) (hy : 0 < y.2) : y.1 * (addF x y).2 ≤ (addF x y).1 * y.2 := by
  refine low_le (Int.mul_pos hx hy) ?_
  have h2 : 0 ≤ x.1 * y.2 * y.2 := Int.mul_nonneg (Int.mul_nonneg hx1 (by omega)) (by omega)
  rw [← Int.mul_assoc, Int.add_mul]
  omega
theorem add_nn {x y : Int × Int} (hx : 0 < x.2) (hx1 : 0 ≤ x.1) (hy : 0 < y.2) (hy1 : 0 ≤ y.1) : 0 ≤ (addF x y).1 := by
  have := low_le (a := x.1 * y.2 + y.1 * x.2) (b := x.2 * y.2) (c := 0) (d := 1) (Int.mul_pos hx hy) (by
    have h1 := Int.mul_nonneg hx1 (show 0 ≤ y.2 by omega)
    have h2 := Int.mul_nonneg hy1 (show 0 ≤ x.2 by omega)
    omega)
  rw [Int.zero_mul, Int.mul_one] at this
  exact this
theorem fold_le (ds : List PyData) (hf : ∀ d, d ∈ ds → 0 < (frN d).2 ∧ 0 ≤ (frN d).1) : ∀ x : Int × Int, 0 < x.2 → 0 ≤ x.1 →
    (∀ c d : Int, 0 < d → c * x.2 ≤ x.1 * d → c * (ds.foldl (fun x d => addF x (frN d)) x).2 ≤ (ds.foldl (fun x d => addF x (frN d)) x).1 * d) ∧
      ∀ e, e ∈ ds → (frN e).1 * (ds.foldl (fun x d => addF x (frN d)) x).2 ≤ (ds.foldl (fun x d => addF x (frN d)) x).1 * (frN e).2 := by
  induction ds with
  | nil => exact fun x _ _ => ⟨fun c d _ q => q, fun e he => by cases he⟩
  | cons d r ih =>
    intro x hx hx1
    obtain ⟨h1, h2⟩ := hf d List.mem_cons_self
    have p := (low_pos (a := x.1 * (frN d).2 + (frN d).1 * x.2) (Int.mul_pos hx h1)).1
    obtain ⟨i1, i2⟩ := ih (fun e he => hf e (List.mem_cons_of_mem _ he)) (addF x (frN d)) p (add_nn hx hx1 h1 h2)
    refine ⟨fun c e he q => i1 c e he (add_keep hx h1 h2 he q), fun e he => ?_⟩
    rcases List.mem_cons.mp he with rfl | he
    · exact i1 _ _ h1 (add_new hx hx1 h1)
    · exact i2 e he
theorem sum_one {ds : List PyData} (hf : ds.all isFr = true) : (ds.all (fun n => isCh n && decide (0 < (frN n).1)) && decide (sumF ds = (1, 1))) = (decide (sumF ds = (1, 1)) && !ds.any fun n => decide ((frN n).1 < 1)) := by
  have fr : ∀ d, d ∈ ds → 0 < (frN d).2 := fun d hd => by
    obtain ⟨n, m, rfl, h1, _, h3⟩ := isFr_of (List.all_eq_true.mp hf d hd)
    rw [h3]
    show 0 < m
    omega
  rw [Bool.eq_iff_iff]
  simp only [Bool.and_eq_true, decide_eq_true_eq, List.all_eq_true, Bool.not_eq_true', List.any_eq_false]
  constructor
  · rintro ⟨h1, h2⟩
    exact ⟨h2, fun d hd => by have := (h1 d hd).2; omega⟩
  · rintro ⟨h1, h2⟩
    refine ⟨fun d hd => ?_, h1⟩
    have p : ∀ d, d ∈ ds → 0 < (frN d).2 ∧ 0 ≤ (frN d).1 := fun d hd => ⟨fr d hd, by have := h2 d hd; omega⟩
    have := (fold_le ds p (0, 1) (by decide) (by decide)).2 d hd
    rw [show ds.foldl (fun x d => addF x (frN d)) (0, 1) = (1, 1) from h1] at this
    have q := h2 d hd
    simp only [Int.mul_one, Int.one_mul] at this
    unfold isCh
    simp only [Bool.and_eq_true, decide_eq_true_eq]
    exact ⟨⟨List.all_eq_true.mp hf d hd, by omega, this⟩, by omega⟩

section
variable {K : PySem.W.Frag} {σ : L2.St} {H : Hp}
theorem rv_addS {i j : Str} (h : i.length + j.length ≤ 100000) : RV (fun x y H Q => ∃ i j, x = .str i ∧ y = .str j ∧ i.length + j.length ≤ sizeLine ∧ Q (.str (i ++ j)) H) (.str i) (.str j) H (.str (i ++ j)) := fun H1 _ _ q => ⟨i, j, rfl, rfl, sz_of h, q H1 (Ex.refl H1)⟩
theorem rv_niS {i j : Str} : RV (fun x y H Q => ∃ i j, x = .str i ∧ y = .str j ∧ Q (.bl (!(!(Builtin.Str.occurrences j i 0 j.length 1).isEmpty))) H) (.str i) (.str j) H (.bl (!subS j i)) := fun H1 _ _ q => ⟨i, j, rfl, rfl, q H1 (Ex.refl H1)⟩
theorem rv_geS {i j : Str} : RV (fun x y H Q => ∃ i j, x = .str i ∧ y = .str j ∧ Q (.bl (!decide (i.cps.toList < j.cps.toList))) H) (.str i) (.str j) H (.bl (!decide (i.cps.toList < j.cps.toList))) := fun H1 _ _ q => ⟨i, j, rfl, rfl, q H1 (Ex.refl H1)⟩
end
theorem signs_eq : smallS ++ ("0123456789" : Str) = signsS := by decide +kernel
theorem fil_emp {α : Type} {as : List α} {c : α → Bool} {h : α → V} : ((as.filter fun a => !c a).map h).isEmpty = as.all c := by
  induction as with
  | nil => rfl
  | cons a r ih =>
    cases hc : c a
    · simp [hc]
    · simp [List.filter_cons, hc, ih]
section
variable {P : Program} {w : World} {K : PySem.W.Frag} {mg : Str → Option Value} {base : Heap} {f : Addr} {fd : FuncData}
theorem sc__law_are_names : FnScope ["_law_some", "_law_signs_here", "_law_name", "_law_sign", "_law_k"] ["_law_some"] (defScope (topS 57)) :=
  ⟨rfl, rfl, rfl, by decide +kernel, rfl, by decide +kernel, by decide +kernel⟩
theorem c__law_are_names (F : FnP K "_law_are_names" (topS 57) f fd) (hm : mg "_law_are_names" = some (.ref f)) (G : Nm K mg) :
    C8.Cal P w K mg base 1 "_law_are_names" (PrV (preAre K SqL arePl)) [] := by
  have nd := sc__law_are_names.nd
  refine cal_of F hm sc__law_are_names (fun _ _ _ _ _ _ us hl => match us, hl with | [_], _ => rfl) (fun vs H Q E h => ?_) fun cdv A outer s H vs Q E hr h => ?_
  · obtain ⟨z, ⟨_, _, _, _, rfl, _⟩, _⟩ := h
    rfl
  obtain ⟨z, ⟨p, a, xs, ds, rfl, hx, hD, hok, hn, rfl⟩, hQ⟩ := h
  refine ⟨_, (pss_cons (ps_set (i := 1) nd rfl (Or.inr rfl) pe_str)
  (pss_cons (ps_for PassesOwn.never rfl (kpi_list (K := K) rfl (pv 0)) (pg_name (i := 2) nd rfl (Or.inl rfl)) (pss_cons (ps_if (PW.pt (pw_or (pt_not (pt_val (pe_callB (kcall_isi (K := K) rfl) (by rfl) G.n_isinstance PyProof.Rows.boot_isinstance (pa_cons (pv 2) (pa_cons (pe_bltn (v := .ty "str") (by rfl) G.n_str PyProof.Rows.boot_str rfl) pa_nil))))) (pw_or (pt_not (pt_chain op_le op_le pe_int (pe_callB call_len_str (by rfl) G.n_len PySem.boot_len (pa_cons (pv 2) pa_nil)) pe_int)) (pw_or1 (pt_cmpR op_notIn_str (pe_ix ix_str (pv 2) pe_int (fun _ _ => rfl)) (pv 1) rfl))))) (pss_one (ps_ret pe_bl)) pss_nil)
  (pss_one (ps_if (pt_cmpR (kop_neE (K := K) rfl (u0 hr)) (pe_lc (own := [("_law_sign", 3)]) rfl nd (pi_str (pv 2)) (blkOk_by (own := [("_law_sign", 3)]) (by rfl)) (fun _ _ _ _ _ => (pg_name (i := 3) nd rfl (Or.inl rfl))) (fun _ _ _ _ _ => pts_one (pt_cmpR op_notIn_str (pv 3) (pe_op op_add_str (pv 1) pe_str) rfl)) (fun _ _ _ _ _ => (pv 3))) (pe_lst pa_nil) (nomark _)) (pss_one (ps_ret pe_bl)) pss_nil))))
  (pss_one (ps_ret (pe_cmpR (kop_eqE (K := K) rfl (u0 hr)) (pe_lc (own := [("_law_k", 4)]) rfl nd (pi_range1 (by rfl) G.n_range (pa_cons (pe_op op_sub (pe_callB (kcall_len (K := K) rfl) (by rfl) G.n_len PySem.boot_len (pa_cons (pv 0) pa_nil)) pe_int) pa_nil)) (blkOk_by (own := [("_law_k", 4)]) (by rfl)) (fun _ _ _ _ _ => (pg_name (i := 4) nd rfl (Or.inl rfl))) (fun _ _ _ _ _ => pts_one (pt_cmpR op_ge_str (pe_ix (kix_list (K := K) rfl) (pv 0) (pv 4) (fun _ _ => rfl)) (pe_ix (kix_list (K := K) rfl) (pv 0) (pe_op op_add (pv 4) pe_int) (fun _ _ => rfl)) (nomark _))) (fun _ _ _ _ _ => (pv 4))) (pe_lst pa_nil) (nomark _)))))), ?_⟩
  refine q_asg ev_c fun H1 e1 => ?_
  have bad : ∀ d, d ∈ ds → isPl d = false → ∀ H2, Ex H H2 → Q (.bl false) H2 := fun d hd hp H2 e2 => by
    have : arePl ds = false := by
      unfold arePl
      have : ds.all isPl = false := by
        cases h : ds.all isPl with
        | false => rfl
        | true =>
          rw [List.all_eq_true.mp h d hd] at hp
          cases hp
      rw [this]
      rfl
    rw [this] at hQ
    exact hQ H2 e2
  refine q_forI (ei_list (ev_var rfl) (ex_l e1 hx)) (fun i σ' H' => ∃ c2, σ' = [some (.ref a), some (.str smallS), c2, none, none] ∧ ∀ d, d ∈ ds.take i → isPl d = true) ?_ ?_ ?_
  · exact fun H2 e2 => ⟨none, rfl, fun d hd => by simp at hd⟩
  · rintro i x σ' H' e' hxi ⟨c2, rfl, hp⟩
    obtain ⟨d, hdi, hd⟩ := (hD.ex (e1.trans e')).get hxi
    have hdm := List.mem_of_getElem? hdi
    refine ⟨_, tg_name, ?_⟩
    cases ht : isaStr d with
    | false =>
      refine q_when (et_orT (et_notF (et_is (et_B (ev_isiV rfl hd (kit_str d))) ht))) (fun hb H2 e2 => s_ret ev_c fun H3 e3 => ?_) fun hb => by cases hb
      exact bad d hdm (by cases d <;> first | rfl | cases ht) H3 (((e1.trans e').trans e2).trans e3)
    | true =>
      have : ∃ z, d = .str z := by
        cases d <;> first | exact ⟨_, rfl⟩ | cases ht
      obtain ⟨z, rfl⟩ := this
      obtain rfl := hd.strE
      have hz := (hok _ hdm).strE
      refine q_when (et_or (et_not (et_is (et_B (ev_isiV rfl hd (kit_str _))) ht)) fun _ => et_or (et_not (et_chain ev_c (ev_lenS (ev_var rfl) (by omega)) ev_c rv_le rv_le)) fun hl => et_test (ev_op (ev_op (ev_var rfl) ev_c (rv_hd hz ?_)) (ev_var rfl) rv_niS)) (fun hb H2 e2 => s_ret ev_c fun H3 e3 => ?_) fun hb H2 e2 => ?_
      · simp at hl
        omega
      · refine bad _ hdm ?_ H3 (((e1.trans e').trans e2).trans e3)
        show ((_ && _) && (_ && _)) = false
        by_cases h13 : 1 ≤ z.length ∧ z.length ≤ 3
        · have hs : subS smallS (hdS z) = false := by
            revert hb
            have l1 : (1 : Int) ≤ z.length := by omega
            have l3 : (z.length : Int) ≤ 3 := by omega
            cases subS smallS (hdS z) <;> simp [l1, l3]
          rw [hs, Bool.false_and, Bool.and_false]
        · have : (decide (1 ≤ z.length) && decide (z.length ≤ 3)) = false := by
            simp
            omega
          rw [this, Bool.false_and]
      · have h13 : 1 ≤ z.length ∧ z.length ≤ 3 ∧ subS smallS (hdS z) = true := by
          revert hb
          cases subS smallS (hdS z) <;> simp <;> omega
        refine s_when (et_test (ev_neE (el_filA (as := chs z) (val := V.str) (fun c => !subS signsS c) V.str (ei_str (ev_var rfl)) (by rw [chs_len]; omega) fun c H3 e3 hc => ⟨_, tg_name, rfl, ?_, fun _ => ev_var rfl⟩))) (fun hb H3 e3 => s_ret ev_c fun H4 e4 => ?_) fun hb H3 e3 => ?_
        · refine et_test (ev_op (ev_var rfl) (ev_is (ev_op (ev_var rfl) ev_c (rv_addS ?_)) (congrArg V.str signs_eq)) rv_niS)
          decide
        · rw [fil_emp] at hb
          have hb : (chs z).all (subS signsS) = false := by
            revert hb
            cases (chs z).all (subS signsS) <;> simp
          refine bad _ hdm ?_ H4 ((((e1.trans e').trans e2).trans e3).trans e4)
          show ((_ && _) && (_ && _)) = false
          rw [hb, Bool.and_false, Bool.and_false]
        · rw [fil_emp] at hb
          have hb : (chs z).all (subS signsS) = true := by
            revert hb
            cases (chs z).all (subS signsS) <;> simp
          refine ⟨e2.trans e3, _, rfl, fun e he => ?_⟩
          rw [List.take_add_one, hdi] at he
          rcases List.mem_append.mp he with he | he
          · exact hp e he
          · have : e = .str z := by simpa using he
            subst this
            show ((_ && _) && (_ && _)) = true
            rw [hb, h13.2.2]
            simp [h13]
  · rintro σ' H' e' ⟨c2, rfl, hp⟩
    have hl := hD.length
    rw [hl, List.take_length] at hp
    have hD2 := hD.ex (e1.trans e')
    have hx2 := ex_l (e1.trans e') hx
    have rn := ei_rng (n := (xs.length : Int) - 1) (ev_op (r := rI0 fun i j => .int (i - j)) (ev_lenL (ev_var (σ := [some (.ref a), some (.str smallS), c2, none, none]) (i := 0) rfl) hx2) (ev_c (v := .int 1)) rv_I0) (by omega) (by omega)
    rw [show ((xs.length : Int) - 1).toNat = ds.length - 1 by omega] at rn
    refine s_ret (ev_eqE (el_filA (as := List.range (ds.length - 1)) (val := fun (i : Nat) => V.int (i : Int)) (fun i => !ltD (ds.getD i .none) (ds.getD (i + 1) .none)) (fun (i : Nat) => V.int (i : Int)) rn (by rw [List.length_range]; omega) fun i H2 e2 hi => ⟨_, tg_name, rfl, ?_, fun _ => ev_var rfl⟩)) fun H2 e2 => ?_
    · have hi := List.mem_range.mp hi
      have hD3 := hD2.ex e2
      have hx3 := ex_l e2 hx2
      exact et_test (ev_op (ev_op (ev_var rfl) (ev_var rfl) (rv_ixL hx3 (asc_item hD3 hp (by omega)))) (ev_op (ev_var rfl) (ev_op (ev_var rfl) ev_c rv_I0) (rv_ixL hx3 (asc_item (i := i + 1) hD3 hp (by omega)))) rv_geS)
    · have := hQ H2 ((e1.trans e').trans e2)
      rw [fil_emp]
      unfold arePl at this
      rw [List.all_eq_true.mpr hp] at this
      exact this
/-! ### is_what -/
theorem sc__law_is_what : FnScope ["_law_kind", "_law_what", "_law_whole", "_law_to", "_law_chance", "_law_pair"] ["_law_kind", "_law_what"] (defScope (topS 58)) :=
  ⟨rfl, rfl, rfl, by decide +kernel, rfl, by decide +kernel, by decide +kernel⟩
theorem el_listT {σ : L2.St} {H : Hp} {te : TE} {a : Addr} {xs : List V} (h : Ev te σ H (.ref a)) (ha : SqT K H a xs) : EvL (tCB (fun xs H Q => ∃ p ys, xs = [.ref p] ∧ (SqL K H p ys ∨ SqT K H p ys) ∧ ∀ l, H l = none → Q (.ref l) (upd H l (.lst ys))) (tCons te tNil)) σ H xs := fun H1 e Q q =>
  h H1 e _ fun H2 e2 => ⟨a, xs, rfl, .inr (ex_t (e.trans e2) ha), fun l hl => q l _ (fresh_back e2 hl) (e2.trans (Ex.new hl)) upd_same⟩
theorem et_notT2 {σ : L2.St} {H : Hp} {p : Addr} {x : V} {d : PyData} {i n : Nat} (hv : σ[i]? = some (some x)) (h : DT p H x d) :
    EvT (tOr (tNot (tB (tCB (rIsi K) (tCons (tVar i) (tCons (tC (.ty "tuple")) tNil))))) (tTest (tOp rNe (tCB (fun xs H Q => ∃ p ys, xs = [.ref p] ∧ (SqL K H p ys ∨ SqT K H p ys) ∧ Q (.int ys.length) H) (tCons (tVar i) tNil)) (tC (.int n))))) σ H
      (!(isaTup d && decide ((itemsD d).length = n))) := by
  rw [Bool.not_and]
  refine et_or (et_not (et_B (ev_isiV hv h (kit_tup d)))) fun ht => ?_
  have ht : isaTup d = true := by
    revert ht
    cases isaTup d <;> simp
  obtain ⟨ds, rfl⟩ := tup_of ht
  obtain ⟨a, xs, rfl, na, ha, hx⟩ := h.tupE
  refine et_is (et_test (ev_op (ev_lenT (ev_var hv) (st_of ha)) ev_c (rv_ne rfl))) ?_
  rw [hx.length]
  show _ = !decide (ds.length = n)
  congr 1
  rw [Bool.eq_iff_iff]
  simp
  omega
theorem c__law_is_what (F : FnP K "_law_is_what" (topS 58) f fd) (hm : mg "_law_is_what" = some (.ref f)) (G : Nm K mg)
    (c__law_is_fraction : C8.Cal P w K mg base 2 "_law_is_fraction" (PrV (preB isFr)) []) (c__law_are_names : C8.Cal P w K mg base 1 "_law_are_names" (PrV (preAre K SqL arePl)) [])
    (c__law_plus : C8.Cal P w K mg base 2 "_law_plus" (PrW (preAdd K)) []) : C8.Cal P w K mg base 3 "_law_is_what" (PrV (preWhat isWhat)) [] := by
  have nd := sc__law_is_what.nd
  refine cal_of F hm sc__law_is_what (fun _ _ _ _ _ _ us hl => match us, hl with | [_, _], _ => rfl) (fun vs H Q E h => ?_) fun cdv A outer s H vs Q E hr h => ?_
  · obtain ⟨z, ⟨_, _, _, _, rfl, _⟩, _⟩ := h
    rfl
  obtain ⟨z, ⟨p, v, k, d, rfl, hd, ho, rfl⟩, hQ⟩ := h
  refine ⟨_, (pss_cons (ps_if (pt_cmpR op_eq (pv 0) pe_str (nomark _)) (pss_one (ps_ret (C8.pe_c c__law_is_fraction hr (by decide) rfl (pa_cons (pv 1) pa_nil)))) pss_nil)
  (pss_cons (ps_if (PW.pt (pw_or (pt_not (pt_val (pe_callB (kcall_isi (K := K) rfl) (by rfl) G.n_isinstance PyProof.Rows.boot_isinstance (pa_cons (pv 1) (pa_cons (pe_bltn (v := .ty "tuple") (by rfl) G.n_tuple PyProof.Rows.boot_tuple rfl) pa_nil))))) (pw_or1 (pt_not (pt_chain op_le op_le pe_int (pe_callB (kcall_len (K := K) rfl) (by rfl) G.n_len PySem.boot_len (pa_cons (pv 1) pa_nil)) pe_int))))) (pss_one (ps_ret pe_bl)) pss_nil)
  (pss_cons (ps_if (pt_cmpR op_eq (pv 0) pe_str (nomark _)) (pss_one (ps_ret (C8.pe_c c__law_are_names hr (by decide) rfl (pa_cons (pe_callTy (kcall_list (K := K) rfl) (by rfl) G.n_list PyProof.Rows.boot_list (pa_cons (pv 1) pa_nil)) pa_nil)))) pss_nil)
  (pss_cons (ps_if (pt_cmpR (kop_neE (K := K) rfl (u0 hr)) (pe_lc (own := [("_law_pair", 5)]) rfl nd (kpi_tup (K := K) rfl (pv 1)) (blkOk_by (own := [("_law_pair", 5)]) (by rfl)) (fun _ _ _ _ _ => (pg_name (i := 5) nd rfl (Or.inl rfl))) (fun _ _ _ _ _ => pts_one (PW.pt (pw_or (pt_not (pt_val (pe_callB (kcall_isi (K := K) rfl) (by rfl) G.n_isinstance PyProof.Rows.boot_isinstance (pa_cons (pv 5) (pa_cons (pe_bltn (v := .ty "tuple") (by rfl) G.n_tuple PyProof.Rows.boot_tuple rfl) pa_nil))))) (pw_or1 (pt_cmpR op_ne (pe_callB (kcall_len (K := K) rfl) (by rfl) G.n_len PySem.boot_len (pa_cons (pv 5) pa_nil)) pe_int (nomark _)))))) (fun _ _ _ _ _ => (pv 5))) (pe_lst pa_nil) (nomark _)) (pss_one (ps_ret pe_bl)) pss_nil)
  (pss_cons (ps_if (PW.pt (pw_or (pt_not (pt_val (C8.pe_c c__law_are_names hr (by decide) rfl (pa_cons (pe_lc (own := [("_law_pair", 5)]) rfl nd (kpi_tup (K := K) rfl (pv 1)) (blkOk_by (own := [("_law_pair", 5)]) (by rfl)) (fun _ _ _ _ _ => (pg_name (i := 5) nd rfl (Or.inl rfl))) (fun _ _ _ _ _ => pts_nil) (fun _ _ _ _ _ => (pe_ix (kix_tup (K := K) rfl) (pv 5) pe_int (fun _ _ => rfl)))) pa_nil)))) (pw_or1 (pt_cmpR (kop_neE (K := K) rfl (u0 hr)) (pe_lc (own := [("_law_pair", 5)]) rfl nd (kpi_tup (K := K) rfl (pv 1)) (blkOk_by (own := [("_law_pair", 5)]) (by rfl)) (fun _ _ _ _ _ => (pg_name (i := 5) nd rfl (Or.inl rfl))) (fun _ _ _ _ _ => pts_one (pt_not (pt_val (C8.pe_c c__law_is_fraction hr (by decide) rfl (pa_cons (pe_ix (kix_tup (K := K) rfl) (pv 5) pe_int (fun _ _ => rfl)) pa_nil))))) (fun _ _ _ _ _ => (pv 5))) (pe_lst pa_nil) (nomark _))))) (pss_one (ps_ret pe_bl)) pss_nil)
  (pss_cons (ps_if (pt_cmpR op_ne (pv 0) pe_str (nomark _)) (pss_one (ps_ret pe_bl)) pss_nil)
  (pss_cons (ps_set (i := 2) nd rfl (Or.inl rfl) (pe_tup (pa_cons pe_int (pa_cons pe_int pa_nil))))
  (pss_cons (ps_for PassesOwn.never rfl (kpi_tup (K := K) rfl (pv 1)) (kpg_tup (K := K) rfl (n := 2) rfl (pgs_cons (pg_name (i := 3) nd rfl (Or.inl rfl)) (pgs_cons (pg_name (i := 4) nd rfl (Or.inl rfl)) pgs_nil))) (pss_one (ps_set (i := 2) nd rfl (Or.inl rfl) (C8.pe_c c__law_plus hr (by decide) rfl (pa_cons (pv 2) (pa_cons (pv 4) pa_nil))))))
  (pss_one (ps_ret (pe_and (pe_cmpR (kop_eqD (K := K) rfl (u64 hr)) (pv 2) (pe_tup (pa_cons pe_int (pa_cons pe_int pa_nil))) (nomark _)) (pe_one (pe_cmpR (kop_eqE (K := K) rfl (u0 hr)) (pe_lc (own := [("_law_pair", 5)]) rfl nd (kpi_tup (K := K) rfl (pv 1)) (blkOk_by (own := [("_law_pair", 5)]) (by rfl)) (fun _ _ _ _ _ => (pg_name (i := 5) nd rfl (Or.inl rfl))) (fun _ _ _ _ _ => pts_one (pt_cmpR op_lt (pe_ix (kix_tup (K := K) rfl) (pe_ix (kix_tup (K := K) rfl) (pv 5) pe_int (fun _ _ => rfl)) pe_int (fun _ _ => rfl)) pe_int (nomark _))) (fun _ _ _ _ _ => (pv 5))) (pe_lst pa_nil) (nomark _)))))))))))))), ?_⟩
  refine q_when (et_eqS rfl) (fun hb H1 e1 => ?_) fun hb H1 e1 => ?_
  · have hk : k = "end" := of_decide_eq_true hb
    refine s_ret (ev_pr (z := .bl (isFr d)) (ea_cons (ev_var rfl) ea_nil) fun H2 e2 => ⟨p, v, d, (hd.ex e1).ex e2, ho, rfl, rfl⟩) fun H2 e2 => ?_
    have := hQ H2 (e1.trans e2)
    unfold isWhat at this
    rw [if_pos hk] at this
    exact this
  have hk1 : ¬ k = "end" := of_decide_eq_false hb
  replace hd := hd.ex e1
  have bad : ∀ H2, isWhat k d = false → Ex H H2 → Q (.bl false) H2 := fun H2 q e2 => by
    rw [q] at hQ
    exact hQ H2 e2
  cases ht : isaTup d with
  | false =>
    refine q_when (et_orT (et_notF (et_is (et_B (ev_isiV rfl hd (kit_tup d))) ht))) (fun hb H2 e2 => s_ret ev_c fun H3 e3 => bad H3 ?_ ((e1.trans e2).trans e3)) fun hb => by cases hb
    unfold isWhat arePr
    rw [if_neg hk1, ht, Bool.false_and, Bool.false_and, Bool.false_and]
    split <;> rfl
  | true =>
  obtain ⟨ds, rfl⟩ := tup_of ht
  obtain ⟨a, xs, rfl, na, ha, hx⟩ := hd.tupE
  have hall := ho.tupE.2
  have hn := ho.tupE.1
  refine q_when (et_or (et_not (et_is (et_B (ev_isiV rfl hd (kit_tup _))) ht)) fun _ => et_not (et_test (chain_len (m := 8) rfl (st_of ha) hx.length))) (fun hb H2 e2 => s_ret ev_c fun H3 e3 => bad H3 ?_ ((e1.trans e2).trans e3)) fun hb H2 e2 => ?_
  · have : lenB ds 8 = false := by
      revert hb
      show (_ || !lenB ds 8) = true → _
      cases lenB ds 8 <;> simp
    have : lenB (itemsD (.tuple ds)) 8 = false := this
    unfold isWhat arePr
    rw [if_neg hk1, this, Bool.false_and, Bool.false_and, Bool.and_false, Bool.false_and]
    split <;> rfl
  have h8 : lenB ds 8 = true := by
    revert hb
    show (_ || !lenB ds 8) = false → _
    cases lenB ds 8 <;> simp
  have n8 := (lenB8 h8).2
  replace hx := hx.ex e2
  replace ha := e2 a _ ha
  refine q_when (et_eqS rfl) (fun hb H3 e3 => ?_) fun hb H3 e3 => ?_
  · have hk : k = "coin" := of_decide_eq_true hb
    refine s_ret (ev_prL (z := .bl (arePl ds)) (EvL.m (el_listT (ev_var rfl) (st_of (e3 a _ ha)))) fun q H4 e4 h4 => ⟨p, q, xs, ds, rfl, sq_of h4, (hx.ex e3).ex e4, hall, hn, rfl⟩) fun H4 e4 => ?_
    have := hQ H4 (((e1.trans e2).trans e3).trans e4)
    have q : isWhat k (.tuple ds) = arePl ds := by
      unfold isWhat
      rw [if_neg hk1, if_pos hk]
      show (_ && (lenB ds 8 && _)) = _
      rw [h8]
      rfl
    rw [q] at this
    exact this
  have hk2 : ¬ k = "coin" := of_decide_eq_false hb
  replace hx := hx.ex e3
  replace ha := e3 a _ ha
  have eqw : isWhat k (.tuple ds) = (ds.all isPair && (arePl (ds.map prA) && (if k = "chance" then (ds.map prB).all (fun n => isCh n && decide (0 < (frN n).1)) && decide (sumF (ds.map prB) = (1, 1)) else (ds.map prB).all isFr))) := by
    unfold isWhat
    rw [if_neg hk1, if_neg hk2]
    show ((_ && (lenB ds 8 && _)) && _) = _
    rw [h8]
    rfl
  obtain ⟨zs, ez, he⟩ := el_anyD (wi := iTup K (tVar 1)) (g := gName 5) (te := tVar 5) (vs := [5]) (σ := [some (.str k), some (.ref a), none, none, none, none]) hx (fun d => !isPair d) (ei_tup (ev_var rfl) (st_of ha)) (by omega) fun x d H4 e4 hd hx => ⟨_, tg_name, rfl, (isPair_eq d).symm ▸ et_notT2 (K := K) (n := 2) (i := 5) rfl hx, fun _ => ev_var rfl⟩
  have any_not : ∀ c : PyData → Bool, (ds.any fun d => !c d) = !ds.all c := fun c => by
    rw [List.not_all_eq_any_not]
  rw [any_not, Bool.not_not] at he
  refine q_when (et_test (ev_neE ez)) (fun hb H4 e4 => s_ret ev_c fun H5 e5 => bad H5 ?_ ((((e1.trans e2).trans e3).trans e4).trans e5)) fun hb H4 e4 => ?_
  · rw [he] at hb
    have : ds.all isPair = false := by
      revert hb
      cases ds.all isPair <;> simp
    rw [eqw, this]
    rfl
  have hpair : ds.all isPair = true := by
    rw [he] at hb
    revert hb
    cases ds.all isPair <;> simp
  rw [hpair, Bool.true_and] at eqw
  replace hx := hx.ex e4
  replace ha := e4 a _ ha
  obtain ⟨ys, hys, evy⟩ := el_projD (wi := iTup K (tVar 1)) (g := gName 5) (te := tOp (rIxT K) (tVar 5) (tC (.int 0))) (vs := [5]) (σ := [some (.str k), some (.ref a), none, none, none, none]) prA hx (ei_tup (ev_var rfl) (st_of ha)) (by omega) fun x d hd hx => by
    obtain ⟨b, c, rfl⟩ := pair_of (List.all_eq_true.mp hpair d hd)
    obtain ⟨q, y, z, rfl, nq, hq, h1, h2⟩ := pair_at hx
    exact ⟨y, h1, fun H3 e3 => ⟨_, tg_name, rfl, ev_op (ev_var rfl) ev_c (rv_ixT (st_of (e3 q _ hq)) at0)⟩⟩
  obtain ⟨us, eu, hu⟩ := el_anyD (wi := iTup K (tVar 1)) (g := gName 5) (te := tVar 5) (vs := [5]) (σ := [some (.str k), some (.ref a), none, none, none, none]) (tt := tNot (tB (tCall (PrV (preB isFr)) [] C8.E0 (tCons (tOp (rIxT K) (tVar 5) (tC (.int 1))) tNil)))) hx (fun d => !isFr (prB d)) (ei_tup (ev_var rfl) (st_of ha)) (by omega) fun x d H5 e5 hd hx => by
    obtain ⟨b, c, rfl⟩ := pair_of (List.all_eq_true.mp hpair d hd)
    obtain ⟨q, y, z, rfl, nq, hq, h1, h2⟩ := pair_at hx
    have o2 : Okd c := (hall _ hd).tupE.2 _ (by simp)
    exact ⟨_, tg_name, rfl, et_not (et_B (ev_pr (z := .bl (isFr c)) (ea_cons (ev_op (ev_var rfl) ev_c (rv_ixT (st_of hq) at1)) ea_nil) fun H6 e6 => ⟨p, z, c, h2.ex e6, o2, rfl, rfl⟩)), fun _ => ev_var rfl⟩
  rw [any_not fun d => isFr (prB d), Bool.not_not] at hu
  have allm : (ds.map prB).all isFr = ds.all fun d => isFr (prB d) := List.all_map
  refine q_when (et_or (et_not (et_B (ev_prL (z := .bl (arePl (ds.map prA))) (EvL.m evy) fun q H5 e5 h5 => ⟨p, q, ys, _, rfl, sq_of h5, hys.ex e5, (okd_pr hall hpair).1, by rw [List.length_map]; omega, rfl⟩))) fun _ => et_test (ev_neE eu)) (fun hb H5 e5 => s_ret ev_c fun H6 e6 => bad H6 ?_ (((((e1.trans e2).trans e3).trans e4).trans e5).trans e6)) fun hb H5 e5 => ?_
  · rw [hu, ← allm] at hb
    rw [eqw]
    cases h1 : arePl (ds.map prA) with
    | false => rfl
    | true =>
      rw [h1] at hb
      have h2 : (ds.map prB).all isFr = false := by
        revert hb
        cases (ds.map prB).all isFr <;> simp
      rw [h2]
      split
      · have : ¬ (ds.map prB).all (fun n => isCh n && decide (0 < (frN n).1)) = true := fun h => by
          rw [List.all_eq_true.mpr fun d hd => ?_] at h2
          · cases h2
          · have := List.all_eq_true.mp h d hd
            unfold isCh at this
            simp only [Bool.and_eq_true] at this
            exact this.1.1
        rw [Bool.eq_false_iff.mpr this]
        rfl
      · rfl
  have h12 : arePl (ds.map prA) = true ∧ (ds.map prB).all isFr = true := by
    rw [hu, ← allm] at hb
    revert hb
    cases arePl (ds.map prA) <;> cases (ds.map prB).all isFr <;> simp
  rw [h12.1, Bool.true_and, h12.2] at eqw
  refine q_when (et_neS (ev_var rfl)) (fun hb H6 e6 => s_ret ev_c fun H7 e7 => ?_) fun hb H6 e6 => ?_
  · have hk : ¬ k = "chance" := fun z => by
      rw [z] at hb
      simp at hb
    rw [if_neg hk] at eqw
    rw [eqw] at hQ
    exact hQ H7 ((((((e1.trans e2).trans e3).trans e4).trans e5).trans e6).trans e7)
  have hk : k = "chance" := by
    revert hb
    by_cases z : k = "chance" <;> simp [z]
  rw [if_pos hk, sum_one h12.2] at eqw
  rw [eqw] at hQ
  replace hx := (hx.ex e5).ex e6
  replace ha := e6 a _ (e5 a _ ha)
  have okn := (okd_pr hall hpair).2
  have hlen := hx.length
  refine q_asgU (eu_tup (ea_cons ev_c (ea_cons ev_c ea_nil)) (by simp)) fun t0 H7 nt e7 ht0 => ?_
  replace hx := hx.ex e7
  replace ha := e7 a _ ha
  refine q_forI (ei_tup (ev_var rfl) (st_of ha)) (fun i σ' H' => ∃ t c3 c4, σ' = [some (.str k), some (.ref a), some (.ref t), c3, c4, none] ∧ H' t = some (.tup (prV (sumF ((ds.map prB).take i)))) ∧ 0 < (sumF ((ds.map prB).take i)).2 ∧ (sumF ((ds.map prB).take i)).2 ≤ 16 ^ i) ?_ ?_ ?_
  · exact fun H8 e8 => ⟨t0, none, none, rfl, e8 t0 _ ht0, show (0 : Int) < 1 by decide, show (1 : Int) ≤ 1 by decide⟩
  · rintro i x σ' H' e' hxi ⟨t, c3, c4, rfl, ht, k1, k2⟩
    obtain ⟨d, hdi, hdt⟩ := (hx.ex e').get hxi
    have hdm := List.mem_of_getElem? hdi
    have hi : i < ds.length := (List.getElem?_eq_some_iff.mp hdi).1
    obtain ⟨b, c, rfl⟩ := pair_of (List.all_eq_true.mp hpair d hdm)
    obtain ⟨q, y, z, rfl, nq, hq, h1, h2⟩ := pair_at hdt
    have hnm : c ∈ ds.map prB := List.mem_map.mpr ⟨_, hdm, rfl⟩
    have hni : (ds.map prB)[i]? = some c := by
      rw [List.getElem?_map, hdi]
      rfl
    obtain ⟨u, rfl, nu, hu', m1, m2, m3⟩ := fr_ok h2 (okn c hnm) (List.all_eq_true.mp h12.2 c hnm)
    have := pow16 (i := i) (by omega)
    have ao := add_ok (x := sumF ((ds.map prB).take i)) k1 k2 m1 m2
    rw [← sum_take hni] at ao
    refine ⟨_, tg_two (st_of hq), ?_⟩
    refine s_asgW (ew_pr (xs := prV (sumF ((ds.map prB).take (i + 1)))) (ea_cons (ev_var rfl) (ea_cons (ev_var rfl) ea_nil)) fun H8 e8 => ⟨t, u, sumF ((ds.map prB).take i), frN c, rfl, st_of (e8 t _ ht), st_of (e8 u _ hu'), k1, by omega, m1, m2, m3, by rw [sum_take hni]⟩) fun t2 H8 e8 h8 => ?_
    exact ⟨e8, t2, _, _, rfl, h8, ao.1, ao.2⟩
  · rintro σ' H' e' ⟨t, c3, c4, rfl, ht, _⟩
    rw [hx.length, show ds.length = (ds.map prB).length by rw [List.length_map], List.take_length] at ht
    replace hx := hx.ex e'
    replace ha := e' a _ ha
    obtain ⟨ws, ew, hw⟩ := el_anyD (wi := iTup K (tVar 1)) (g := gName 5) (te := tVar 5) (vs := [5]) (σ := [some (.str k), some (.ref a), some (.ref t), c3, c4, none]) (tt := tTest (tOp (rI0 fun i j => .bl (decide (i < j))) (tOp (rIxT K) (tOp (rIxT K) (tVar 5) (tC (.int 1))) (tC (.int 0))) (tC (.int 1)))) hx (fun d => decide ((frN (prB d)).1 < 1)) (ei_tup (ev_var rfl) (st_of ha)) (by omega) fun x d H5 e5 hd hx => by
      obtain ⟨b, c, rfl⟩ := pair_of (List.all_eq_true.mp hpair d hd)
      obtain ⟨q, y, z, rfl, nq, hq, h1, h2⟩ := pair_at hx
      have hnm : c ∈ ds.map prB := List.mem_map.mpr ⟨_, hd, rfl⟩
      obtain ⟨u, rfl, nu, hu', m1, m2, m3⟩ := fr_ok h2 (okn c hnm) (List.all_eq_true.mp h12.2 c hnm)
      exact ⟨_, tg_name, rfl, et_test (ev_op (ev_op (ev_op (ev_var rfl) ev_c (rv_ixT (st_of hq) at1)) ev_c (rv_ixT (st_of hu') at0)) ev_c rv_I0), fun _ => ev_var rfl⟩
    refine s_ret (ev_andV (ev_eqP (x := sumF (ds.map prB)) (y := (1, 1)) (Ev.s (ev_var rfl) (st_of ht)) (EvW.s (EvU.w (eu_tup (vs := [.int 1, .int 1]) (ea_cons ev_c (ea_cons ev_c ea_nil)) (show 2 ≤ 100000 by decide))))) fun _ => ev_eqE ew) fun H8 e8 => ?_
    rw [hw]
    have := hQ H8 ((((((((e1.trans e2).trans e3).trans e4).trans e5).trans e6).trans e7).trans e').trans e8)
    rw [List.any_map] at this
    exact this
end
end K35
set_option maxHeartbeats 4000000
/-! P11: the law's rows, traps, coins -/
namespace K35
open PySem PySem.Spec PyProof.Rows L2 Evl

section
variable {K : PySem.W.Frag} {σ : L2.St} {H : Hp} {ta tb te : TE} {t : TT} {xs ys : List V}
theorem el_if {b : Bool} (h : EvT t σ H b) (h1 : b = true → EvL ta σ H xs) (h2 : b = false → EvL tb σ H xs) : EvL (tIf t ta tb) σ H xs := fun H1 e Q q => h H1 e _ fun H2 e2 => by
  cases b with
  | true =>
    show ta σ H2 Q
    exact h1 rfl H2 (e.trans e2) Q fun p H3 hp e3 => q p H3 (fresh_back e2 hp) (e2.trans e3)
  | false =>
    show tb σ H2 Q
    exact h2 rfl H2 (e.trans e2) Q fun p H3 hp e3 => q p H3 (fresh_back e2 hp) (e2.trans e3)
theorem eqV_bl (x y : Bool) : eqV (.bl x) (.bl y) = decide (x = y) := by
  cases x <;> cases y <;> rfl
theorem flat_bls (bs : List Bool) : (bs.map V.bl).all flatV = true := by
  rw [List.all_map, List.all_eq_true]
  intro x _
  rfl
theorem inV_true (bs : List Bool) : inV (.bl true) (bs.map V.bl) = bs.any id := by
  unfold inV
  rw [List.any_map]
  congr 1
  funext b
  cases b <;> rfl
theorem inV_false (bs : List Bool) : (!inV (.bl false) (bs.map V.bl)) = bs.all id := by
  unfold inV
  rw [List.any_map]
  induction bs with
  | nil => rfl
  | cons b r ih =>
    rw [List.any_cons, List.all_cons, Bool.not_or, ih]
    cases b <;> rfl
theorem el_cat {a : Addr} (ha : Ev ta σ H (.ref a)) (h : H a = some (.lst xs)) (hb : EvL tb σ H ys) (hn : xs.length + ys.length ≤ 100000) : EvL (tOp rCat ta tb) σ H (xs ++ ys) := fun H1 e Q q =>
  ha H1 e _ fun H2 e2 => hb H2 (e.trans e2) _ fun p H3 hp e3 h3 => ⟨a, p, xs, ys, rfl, rfl, e3 a _ (e2 a _ (e a _ h)), h3, sz_of hn, fun r hr => q r _ (fresh_back (e2.trans e3) hr) ((e2.trans e3).trans (Ex.new hr)) upd_same⟩
end
section
variable {P : Program} {w : World} {K : PySem.W.Frag} {mg : Str → Option Value} {base : Heap} {f : Addr} {fd : FuncData}
/-! ### tos -/
def preTos2 : List V → Hp → List V → Prop := fun vs H xs => ∃ p v d, vs = [v] ∧ DT p H v d ∧ rowG d = true ∧ xs = (rowTos d).map V.str
theorem sc__law_tos : FnScope ["_law_strand", "_law_pair"] ["_law_strand"] (defScope (topS 50)) :=
  ⟨rfl, rfl, rfl, by decide +kernel, rfl, by decide +kernel, by decide +kernel⟩
theorem c__law_tos (F : FnP K "_law_tos" (topS 50) f fd) (hm : mg "_law_tos" = some (.ref f)) (G : Nm K mg) :
    C8.Cal P w K mg base 1 "_law_tos" (PrM preTos2) [] := by
  have nd := sc__law_tos.nd
  refine cal_of F hm sc__law_tos (fun _ _ _ _ _ _ us hl => match us, hl with | [_], _ => rfl) (fun vs H Q E h => ?_) fun cdv A outer s H vs Q E hr h => ?_
  · obtain ⟨z, ⟨_, _, _, rfl, _⟩, _⟩ := h
    rfl
  obtain ⟨z, ⟨p, v, d, rfl, hd, hg, rfl⟩, hQ⟩ := h
  obtain ⟨q, z, rfl, nq, hq, hz⟩ := rowG_at hd hg
  have hw := (rowG_row hg).2.2.1
  refine ⟨_, (pss_cons (ps_if (pt_cmpR op_eq (pe_ix (kix_tup (K := K) rfl) (pv 0) pe_int (fun _ _ => rfl)) pe_str (nomark _)) (pss_one (ps_ret (pe_lst pa_nil))) pss_nil)
  (pss_one (ps_ret (pe_ifExp (pt_cmpR op_eq (pe_ix (kix_tup (K := K) rfl) (pv 0) pe_int (fun _ _ => rfl)) pe_str (nomark _)) (pe_callTy (kcall_list (K := K) rfl) (by rfl) G.n_list PyProof.Rows.boot_list (pa_cons (pe_ix (kix_tup (K := K) rfl) (pv 0) pe_int (fun _ _ => rfl)) pa_nil)) (pe_lc (own := [("_law_pair", 1)]) rfl nd (kpi_tup (K := K) rfl (pe_ix (kix_tup (K := K) rfl) (pv 0) pe_int (fun _ _ => rfl))) (blkOk_by (own := [("_law_pair", 1)]) (by rfl)) (fun _ _ _ _ _ => (pg_name (i := 1) nd rfl (Or.inl rfl))) (fun _ _ _ _ _ => pts_nil) (fun _ _ _ _ _ => (pe_ix (kix_tup (K := K) rfl) (pv 1) pe_int (fun _ _ => rfl)))))))), ?_⟩
  refine q_when (et_eqSE (ev_op (ev_var rfl) ev_c (rv_ixT (st_of hq) at1))) (fun hb H1 e1 => ?_) fun hb H1 e1 => ?_
  · have hk : rowKind d = "end" := of_decide_eq_true hb
    refine s_retM (EvL.m (el_lst ea_nil (by simp))) fun q H2 e2 h2 => hQ q H2 (e1.trans e2) ?_
    unfold rowTos tosD
    rw [if_pos (show strOf (itD 1 d) = "end" from hk)]
    exact h2
  have hk1 : ¬ rowKind d = "end" := of_decide_eq_false hb
  replace hz := hz.ex e1
  replace hq := e1 q _ hq
  obtain ⟨ds, ew, h8⟩ := what_tup hw hk1
  rw [ew] at hz hw
  obtain ⟨a, xs, rfl, na, ha, hx⟩ := hz.tupE
  have h8 := (lenB8 h8).2
  have er : rowTos d = tosD (rowKind d) (.tuple ds) := by
    unfold rowTos
    rw [ew]
    rfl
  rw [er] at hQ
  refine s_retM (EvL.m (el_if (xs := (tosD (rowKind d) (.tuple ds)).map V.str) (et_eqSE (ev_op (ev_var rfl) ev_c (rv_ixT (st_of hq) at1))) (fun hb => ?_) fun hb => ?_)) fun q H2 e2 h2 => hQ q H2 (e1.trans e2) h2
  · have hk : rowKind d = "coin" := of_decide_eq_true hb
    rw [hk] at hw hk1 ⊢
    have e : xs = (tosD "coin" (.tuple ds)).map V.str := by
      unfold tosD
      rw [if_neg hk1, if_pos rfl]
      exact strs_of hx (arePl_str (what_coin hw))
    rw [← e]
    exact el_listT (ev_op (ev_var rfl) ev_c (rv_ixT (st_of hq) at2)) (st_of ha)
  · have hk2 : ¬ rowKind d = "coin" := of_decide_eq_false hb
    obtain ⟨w1, w2⟩ := what_pairs hw hk1 hk2
    have e : tosD (rowKind d) (.tuple ds) = (ds.map prA).map strOf := by
      unfold tosD
      rw [if_neg hk1, if_neg hk2]
      rfl
    rw [e]
    exact pairs_tos (a := a) hx w1 w2 h8 (ei_tup (ev_op (ev_var rfl) ev_c (rv_ixT (st_of hq) at2)) (st_of ha)) fun q y z H2 e2 hq => ⟨_, tg_name, rfl, ev_op (ev_var rfl) ev_c (rv_ixT (st_of hq) at0)⟩
/-! ### are_rows -/
theorem sc__law_are_rows : FnScope ["_law_table", "_law_line", "_law_kinds_here", "_law_names", "_law_to"] ["_law_table"] (defScope (topS 59)) :=
  ⟨rfl, rfl, rfl, by decide +kernel, rfl, by decide +kernel, by decide +kernel⟩
theorem any_notD {ds : List PyData} (c : PyData → Bool) : (ds.any fun d => !c d) = !ds.all c := by
  rw [List.not_all_eq_any_not]
theorem et_emp {σ : L2.St} {H : Hp} {te : TE} {K : PySem.W.Frag} {zs : List V} {b : Bool} (h : EvL te σ H zs) (e : zs.isEmpty = b) : EvT (tTest (tOp (rNeE K) te (tLst tNil))) σ H (!b) := by
  rw [← e]
  exact et_test (ev_neE h)
theorem c__law_are_rows (F : FnP K "_law_are_rows" (topS 59) f fd) (hm : mg "_law_are_rows" = some (.ref f)) (G : Nm K mg)
    (c__law_are_names : C8.Cal P w K mg base 1 "_law_are_names" (PrV (preAre K SqL arePl)) []) (c__law_is_what : C8.Cal P w K mg base 3 "_law_is_what" (PrV (preWhat isWhat)) [])
    (c__law_tos : C8.Cal P w K mg base 1 "_law_tos" (PrM preTos2) []) : C8.Cal P w K mg base 4 "_law_are_rows" (PrV (preB isRows)) [] := by
  have nd := sc__law_are_rows.nd
  refine cal_of F hm sc__law_are_rows (fun _ _ _ _ _ _ us hl => match us, hl with | [_], _ => rfl) (fun vs H Q E h => ?_) fun cdv A outer s H vs Q E hr h => ?_
  · obtain ⟨z, ⟨_, _, _, _, _, rfl, _⟩, _⟩ := h
    rfl
  obtain ⟨z, ⟨p, v, d, hd, ho, rfl, rfl⟩, hQ⟩ := h
  refine ⟨_, (pss_cons (ps_if (PW.pt (pw_or (pt_not (pt_val (pe_callB (kcall_isi (K := K) rfl) (by rfl) G.n_isinstance PyProof.Rows.boot_isinstance (pa_cons (pv 0) (pa_cons (pe_bltn (v := .ty "tuple") (by rfl) G.n_tuple PyProof.Rows.boot_tuple rfl) pa_nil))))) (pw_or1 (pt_not (pt_chain op_le op_le pe_int (pe_callB (kcall_len (K := K) rfl) (by rfl) G.n_len PySem.boot_len (pa_cons (pv 0) pa_nil)) pe_int))))) (pss_one (ps_ret pe_bl)) pss_nil)
  (pss_cons (ps_if (pt_cmpR (kop_neE (K := K) rfl (u0 hr)) (pe_lc (own := [("_law_line", 1)]) rfl nd (kpi_tup (K := K) rfl (pv 0)) (blkOk_by (own := [("_law_line", 1)]) (by rfl)) (fun _ _ _ _ _ => (pg_name (i := 1) nd rfl (Or.inl rfl))) (fun _ _ _ _ _ => pts_one (PW.pt (pw_or (pt_not (pt_val (pe_callB (kcall_isi (K := K) rfl) (by rfl) G.n_isinstance PyProof.Rows.boot_isinstance (pa_cons (pv 1) (pa_cons (pe_bltn (v := .ty "tuple") (by rfl) G.n_tuple PyProof.Rows.boot_tuple rfl) pa_nil))))) (pw_or1 (pt_cmpR op_ne (pe_callB (kcall_len (K := K) rfl) (by rfl) G.n_len PySem.boot_len (pa_cons (pv 1) pa_nil)) pe_int (nomark _)))))) (fun _ _ _ _ _ => (pv 1))) (pe_lst pa_nil) (nomark _)) (pss_one (ps_ret pe_bl)) pss_nil)
  (pss_cons (ps_if (pt_not (pt_val (C8.pe_c c__law_are_names hr (by decide) rfl (pa_cons (pe_lc (own := [("_law_line", 1)]) rfl nd (kpi_tup (K := K) rfl (pv 0)) (blkOk_by (own := [("_law_line", 1)]) (by rfl)) (fun _ _ _ _ _ => (pg_name (i := 1) nd rfl (Or.inl rfl))) (fun _ _ _ _ _ => pts_nil) (fun _ _ _ _ _ => (pe_ix (kix_tup (K := K) rfl) (pv 1) pe_int (fun _ _ => rfl)))) pa_nil)))) (pss_one (ps_ret pe_bl)) pss_nil)
  (pss_cons (ps_for PassesOwn.never rfl (kpi_tup (K := K) rfl (pv 0)) (pg_name (i := 1) nd rfl (Or.inl rfl)) (pss_cons (ps_set (i := 2) nd rfl (Or.inl rfl) (pe_lst (pa_cons pe_str (pa_cons pe_str (pa_cons pe_str (pa_cons pe_str (pa_cons pe_str pa_nil)))))))
  (pss_one (ps_if (PW.pt (pw_or (pt_not (pt_val (pe_callB (kcall_isi (K := K) rfl) (by rfl) G.n_isinstance PyProof.Rows.boot_isinstance (pa_cons (pe_ix (kix_tup (K := K) rfl) (pv 1) pe_int (fun _ _ => rfl)) (pa_cons (pe_bltn (v := .ty "str") (by rfl) G.n_str PyProof.Rows.boot_str rfl) pa_nil))))) (pw_or (pt_cmpR (kop_notIn (K := K) rfl) (pe_ix (kix_tup (K := K) rfl) (pv 1) pe_int (fun _ _ => rfl)) (pv 2) rfl) (pw_or1 (pt_not (pt_val (C8.pe_c c__law_is_what hr (by decide) rfl (pa_cons (pe_ix (kix_tup (K := K) rfl) (pv 1) pe_int (fun _ _ => rfl)) (pa_cons (pe_ix (kix_tup (K := K) rfl) (pv 1) pe_int (fun _ _ => rfl)) pa_nil))))))))) (pss_one (ps_ret pe_bl)) pss_nil))))
  (pss_cons (ps_set (i := 3) nd rfl (Or.inr rfl) (pe_lc (own := [("_law_line", 1)]) rfl nd (kpi_tup (K := K) rfl (pv 0)) (blkOk_by (own := [("_law_line", 1)]) (by rfl)) (fun _ _ _ _ _ => (pg_name (i := 1) nd rfl (Or.inl rfl))) (fun _ _ _ _ _ => pts_nil) (fun _ _ _ _ _ => (pe_ix (kix_tup (K := K) rfl) (pv 1) pe_int (fun _ _ => rfl)))))
  (pss_one (ps_ret (pe_cmpR (kop_eqE (K := K) rfl (u0 hr)) (pe_lc (own := [("_law_line", 1)]) rfl nd (kpi_tup (K := K) rfl (pv 0)) (blkOk_by (own := [("_law_line", 1)]) (by rfl)) (fun _ _ _ _ _ => (pg_name (i := 1) nd rfl (Or.inl rfl))) (fun _ _ _ _ _ => pts_one (pt_cmpR (kop_neE (K := K) rfl (u0 hr)) (pe_lc (own := [("_law_to", 4)]) rfl nd (kpi_list (K := K) rfl (C8.pe_c c__law_tos hr (by decide) rfl (pa_cons (pv 1) pa_nil))) (blkOk_by (own := [("_law_to", 4)]) (by rfl)) (fun _ _ _ _ _ => (pg_name (i := 4) nd rfl (Or.inl rfl))) (fun _ _ _ _ _ => pts_one (pt_cmpR (kop_notIn (K := K) rfl) (pv 4) (pv 3) rfl)) (fun _ _ _ _ _ => (pv 4))) (pe_lst pa_nil) (nomark _))) (fun _ _ _ _ _ => (pv 1))) (pe_lst pa_nil) (nomark _))))))))), ?_⟩
  have bad : ∀ H2, isRows d = false → Ex H H2 → Q (.bl false) H2 := fun H2 q e2 => by
    rw [q] at hQ
    exact hQ H2 e2
  cases ht : isaTup d with
  | false =>
    refine q_when (et_orT (et_notF (et_is (et_B (ev_isiV rfl hd (kit_tup d))) ht))) (fun hb H2 e2 => s_ret ev_c fun H3 e3 => bad H3 ?_ (e2.trans e3)) fun hb => by cases hb
    unfold isRows areTr
    rw [ht]
    rfl
  | true =>
  obtain ⟨ds, rfl⟩ := tup_of ht
  obtain ⟨a, xs, rfl, na, ha, hx⟩ := hd.tupE
  have hall := ho.tupE.2
  have hn := ho.tupE.1
  have eqr : isRows (.tuple ds) = ((lenB ds 24 && (ds.all isTrip && arePl (ds.map (itD 0)))) && (ds.all rowOk && ds.all fun r => (rowTos r).all fun to => memS to (ds.map rowName))) := rfl
  refine q_when (et_or (et_not (et_is (et_B (ev_isiV rfl hd (kit_tup _))) ht)) fun _ => et_not (et_test (chain_len (m := 24) rfl (st_of ha) hx.length))) (fun hb H2 e2 => s_ret ev_c fun H3 e3 => bad H3 ?_ (e2.trans e3)) fun hb H2 e2 => ?_
  · have : lenB ds 24 = false := by
      revert hb
      show (_ || !lenB ds 24) = true → _
      cases lenB ds 24 <;> simp
    rw [eqr, this]
    rfl
  have h8 : lenB ds 24 = true := by
    revert hb
    show (_ || !lenB ds 24) = false → _
    cases lenB ds 24 <;> simp
  have n8 := (lenB8 h8).2
  rw [h8, Bool.true_and] at eqr
  replace hx := hx.ex e2
  replace ha := e2 a _ ha
  obtain ⟨zs, ez, he⟩ := el_anyD (wi := iTup K (tVar 0)) (g := gName 1) (te := tVar 1) (vs := [1]) (σ := [some (.ref a), none, none, none, none]) hx (fun d => !isTrip d) (ei_tup (ev_var rfl) (st_of ha)) (by omega) fun x d H4 e4 hd hx => ⟨_, tg_name, rfl, et_notT2 (K := K) (n := 3) (i := 1) rfl hx, fun _ => ev_var rfl⟩
  rw [any_notD, Bool.not_not] at he
  refine q_when (et_emp ez he) (fun hb H3 e3 => s_ret ev_c fun H4 e4 => bad H4 ?_ ((e2.trans e3).trans e4)) fun hb H3 e3 => ?_
  · have : ds.all isTrip = false := by
      revert hb
      cases ds.all isTrip <;> simp
    rw [eqr, this]
    rfl
  have htr : ds.all isTrip = true := by
    revert hb
    cases ds.all isTrip <;> simp
  rw [htr, Bool.true_and] at eqr
  replace hx := hx.ex e3
  replace ha := e3 a _ ha
  obtain ⟨ys, hys, evy⟩ := el_projD (wi := iTup K (tVar 0)) (g := gName 1) (te := tOp (rIxT K) (tVar 1) (tC (.int 0))) (vs := [1]) (σ := [some (.ref a), none, none, none, none]) (itD 0) hx (ei_tup (ev_var rfl) (st_of ha)) (by omega) fun x d hd hx => by
    obtain ⟨b, c, e, rfl⟩ := trip_of (List.all_eq_true.mp htr d hd)
    obtain ⟨q, y, z, u, rfl, nq, hq, h1, h2, h3⟩ := trip_at hx
    exact ⟨y, h1, fun H3 e3 => ⟨_, tg_name, rfl, ev_op (ev_var rfl) ev_c (rv_ixT (st_of (e3 q _ hq)) at0)⟩⟩
  refine q_when (et_not (et_B (ev_prL (z := .bl (arePl (ds.map (itD 0)))) (EvL.m evy) fun q H5 e5 h5 => ⟨p, q, ys, _, rfl, sq_of h5, hys.ex e5, okd_it hall htr 0 (by omega), by rw [List.length_map]; omega, rfl⟩))) (fun hb H4 e4 => s_ret ev_c fun H5 e5 => bad H5 ?_ (((e2.trans e3).trans e4).trans e5)) fun hb H4 e4 => ?_
  · have : arePl (ds.map (itD 0)) = false := by
      revert hb
      cases arePl (ds.map (itD 0)) <;> simp
    rw [eqr, this]
    rfl
  have hpl : arePl (ds.map (itD 0)) = true := by
    revert hb
    cases arePl (ds.map (itD 0)) <;> simp
  rw [hpl, Bool.true_and] at eqr
  replace hx := hx.ex e4
  replace ha := e4 a _ ha
  have hlen := hx.length
  refine q_forI (ei_tup (ev_var rfl) (st_of ha)) (fun i σ' H' => ∃ c1 c2, σ' = [some (.ref a), c1, c2, none, none] ∧ ∀ d, d ∈ ds.take i → rowOk d = true) ?_ ?_ ?_
  · exact fun H5 e5 => ⟨none, none, rfl, fun d hd => by simp at hd⟩
  · rintro i x σ' H' e' hxi ⟨c1, c2, rfl, hp⟩
    obtain ⟨d, hdi, hdt⟩ := (hx.ex e').get hxi
    have hdm := List.mem_of_getElem? hdi
    obtain ⟨b, c, e, rfl⟩ := trip_of (List.all_eq_true.mp htr d hdm)
    obtain ⟨q, y, z, u, rfl, nq, hq, h1, h2, h3⟩ := trip_at hdt
    have o2 : Okd e := (hall _ hdm).tupE.2 _ (by simp)
    have badr : rowOk (.tuple [b, c, e]) = false → isRows (.tuple ds) = false := fun z => by
      have : ds.all rowOk = false := by
        cases h : ds.all rowOk with
        | false => rfl
        | true =>
          rw [List.all_eq_true.mp h _ hdm] at z
          cases z
      rw [eqr, this]
      rfl
    refine ⟨_, tg_name, ?_⟩
    refine q_asgL (xs := kindsL.map V.str) (el_lst (ea_cons ev_c (ea_cons ev_c (ea_cons ev_c (ea_cons ev_c (ea_cons ev_c ea_nil))))) (show 5 ≤ 100000 by decide)) fun l H5 nl e5 hl => ?_
    replace h2 := h2.ex e5
    replace h3 := h3.ex e5
    replace hq := e5 q _ hq
    cases hs : isaStr c with
    | false =>
      refine s_when (et_orT (et_notF (et_is (et_B (ev_isi (ev_op (ev_var rfl) ev_c (rv_ixT (st_of hq) at1)) h2 (kit_str c))) hs))) (fun hb H6 e6 => s_ret ev_c fun H7 e7 => bad H7 (badr ?_) ((((((e2.trans e3).trans e4).trans e').trans e5).trans e6).trans e7)) fun hb => by cases hb
      show (oneOf kindsL c && _) = false
      have : oneOf kindsL c = false := by cases c <;> first | rfl | cases hs
      rw [this]
      rfl
    | true =>
      have : ∃ s, c = .str s := by
        cases c <;> first | exact ⟨_, rfl⟩ | cases hs
      obtain ⟨s, rfl⟩ := this
      obtain rfl := h2.strE
      have ero : rowOk (.tuple [b, .str s, e]) = (memS s kindsL && isWhat s e) := rfl
      refine s_when (et_or (et_not (et_is (et_B (ev_isi (ev_op (ev_var rfl) ev_c (rv_ixT (st_of hq) at1)) h2 (kit_str _))) hs)) fun _ => et_or (et_test (ev_op (ev_op (ev_var rfl) ev_c (rv_ixT (st_of hq) at1)) (ev_var rfl) (rv_niL (sq_of hl) rfl (flat_strs _)))) fun _ =>
        et_not (et_B (ev_pr (z := .bl (isWhat s e)) (ea_cons (ev_op (ev_var rfl) ev_c (rv_ixT (st_of hq) at1)) (ea_cons (ev_op (ev_var rfl) ev_c (rv_ixT (st_of hq) at2)) ea_nil)) fun H6 e6 => ⟨p, u, s, e, rfl, h3.ex e6, o2, rfl⟩))) (fun hb H6 e6 => s_ret ev_c fun H7 e7 => bad H7 (badr ?_) ((((((e2.trans e3).trans e4).trans e').trans e5).trans e6).trans e7)) fun hb H6 e6 => ?_
      · rw [ero]
        revert hb
        show (_ || (!memS s kindsL || !isWhat s e)) = true → _
        cases memS s kindsL <;> cases isWhat s e <;> simp
      · refine ⟨e5.trans e6, _, _, rfl, fun r hr => ?_⟩
        rw [List.take_add_one, hdi] at hr
        rcases List.mem_append.mp hr with hr | hr
        · exact hp r hr
        · have : r = .tuple [b, .str s, e] := by simpa using hr
          subst this
          rw [ero]
          revert hb
          show (_ || (!memS s kindsL || !isWhat s e)) = false → _
          cases memS s kindsL <;> cases isWhat s e <;> simp
  · rintro σ' H5 e5 ⟨c1, c2, rfl, hp⟩
    rw [hlen, List.take_length] at hp
    have hg : ∀ d, d ∈ ds → rowG d = true := fun d hd => by
      unfold rowG
      rw [Bool.and_eq_true, Bool.and_eq_true]
      unfold arePl at hpl
      rw [Bool.and_eq_true] at hpl
      exact ⟨List.all_eq_true.mp htr d hd, hp d hd, List.all_eq_true.mp hpl.1 _ (List.mem_map.mpr ⟨d, hd, rfl⟩)⟩
    rw [List.all_eq_true.mpr hp, Bool.true_and] at eqr
    rw [eqr] at hQ
    replace hx := hx.ex e5
    replace ha := e5 a _ ha
    refine q_asgL (xs := (ds.map rowName).map V.str) ?_ fun l H6 nl e6 hl => ?_
    · rw [strs_map]
      refine el_mapD hx _ (ei_tup (ev_var rfl) (st_of ha)) (by omega) fun x d H2 e2 hd hx => ⟨_, tg_name, rfl, ?_⟩
      obtain ⟨q, z, rfl, nq, hq, hz⟩ := rowG_at hx (hg d hd)
      exact ev_op (ev_var rfl) ev_c (rv_ixT (st_of hq) at0)
    replace hx := hx.ex e6
    replace ha := e6 a _ ha
    obtain ⟨ws, ew, hw⟩ := el_anyD (wi := iTup K (tVar 0)) (g := gName 1) (te := tVar 1) (vs := [1]) (σ := [some (.ref a), c1, c2, some (.ref l), none]) (tt := tTest (tOp (rNeE K) (tLc (iList K (tCall (PrM preTos2) [] C8.E0 (tCons (tVar 1) tNil))) (gName 4) (tTest (tOp (rIn K true) (tVar 4) (tVar 3))) (tVar 4) [4]) (tLst tNil))) hx (fun d => !(rowTos d).all fun to => memS to (ds.map rowName)) (ei_tup (ev_var rfl) (st_of ha)) (by omega) fun x d H7 e7 hd hx => by
      refine ⟨_, tg_name, rfl, et_emp (el_filA (as := rowTos d) (val := V.str) (fun to => !memS to (ds.map rowName)) V.str (ei_newL (em_pr (ea_cons (ev_var rfl) ea_nil) fun H8 e8 => ⟨p, x, d, rfl, hx.ex e8, hg d hd, rfl⟩)) (by have := tos_len (hg d hd); omega) fun to H8 e8 hto => ⟨_, tg_name, rfl, ?_, fun _ => ev_var rfl⟩) fil_emp, fun _ => ev_var rfl⟩
      exact et_test (ev_op (ev_var rfl) (ev_var rfl) (rv_niL (sq_of (e8 l _ (e7 l _ hl))) rfl (flat_strs _)))
    rw [any_notD, Bool.not_not] at hw
    refine s_ret (ev_eqE ew) fun H7 e7 => ?_
    rw [hw]
    exact hQ H7 (((((e2.trans e3).trans e4).trans e5).trans e6).trans e7)
/-! ### trap -/
theorem sc__law_trap : FnScope ["_law_table", "_law_lot", "_law_turn", "_law_kept", "_law_strand", "_law_told_here", "_law_stays", "_law_to"] ["_law_table"] (defScope (topS 53)) :=
  ⟨rfl, rfl, rfl, by decide +kernel, rfl, by decide +kernel, by decide +kernel⟩
theorem c__law_trap (F : FnP K "_law_trap" (topS 53) f fd) (hm : mg "_law_trap" = some (.ref f)) (G : Nm K mg)
    (c__law_tos : C8.Cal P w K mg base 1 "_law_tos" (PrM preTos2) []) : C8.Cal P w K mg base 2 "_law_trap" (PrW (preRowsW trapD)) [] := by
  have nd := sc__law_trap.nd
  refine cal_of F hm sc__law_trap (fun _ _ _ _ _ _ us hl => match us, hl with | [_], _ => rfl) (fun vs H Q E h => ?_) fun cdv A outer s H vs Q E hr h => ?_
  · obtain ⟨z, ⟨_, _, _, rfl, _⟩, _⟩ := h
    rfl
  obtain ⟨z, ⟨p, v, ds, rfl, hR, rfl⟩, hQ⟩ := h
  obtain ⟨hd, h24, hg⟩ := hR
  obtain ⟨a, xs, rfl, na, ha, hx⟩ := hd.tupE
  refine ⟨_, (pss_cons (ps_set (i := 1) nd rfl (Or.inr rfl) (pe_lc (own := [("_law_strand", 4)]) rfl nd (kpi_tup (K := K) rfl (pv 0)) (blkOk_by (own := [("_law_strand", 4)]) (by rfl)) (fun _ _ _ _ _ => (pg_name (i := 4) nd rfl (Or.inl rfl))) (fun _ _ _ _ _ => pts_one (pt_cmpR op_ne (pe_ix (kix_tup (K := K) rfl) (pv 4) pe_int (fun _ _ => rfl)) pe_str (nomark _))) (fun _ _ _ _ _ => (pe_ix (kix_tup (K := K) rfl) (pv 4) pe_int (fun _ _ => rfl)))))
  (pss_cons (ps_for PassesOwn.never rfl (kpi_tup (K := K) rfl (pv 0)) (pg_name (i := 2) nd rfl (Or.inl rfl)) (pss_cons (ps_set (i := 3) nd rfl (Or.inl rfl) (pe_lst pa_nil))
  (pss_cons (ps_for PassesOwn.never rfl (kpi_tup (K := K) rfl (pv 0)) (pg_name (i := 4) nd rfl (Or.inl rfl)) (pss_cons (ps_setLc (i := 5) (own := [("_law_to", 7)]) rfl nd rfl rfl (sw_true rfl rfl rfl (by decide +kernel)) (kpi_list (K := K) rfl (C8.pe_c c__law_tos hr (by decide) rfl (pa_cons (pv 4) pa_nil))) (blkOk_by (own := [("_law_to", 7)]) (by rfl)) (fun _ _ _ _ _ => (pg_name (i := 7) nd rfl (Or.inl rfl))) (fun _ _ _ _ _ => pts_nil) (fun _ _ _ _ _ => (pe_cmpR (kop_in (K := K) rfl) (pv 7) (pv 1) rfl)))
  (pss_cons (ps_set (i := 6) nd rfl (Or.inl rfl) (pe_ifExp (pt_cmpR op_eq (pe_ix (kix_tup (K := K) rfl) (pv 4) pe_int (fun _ _ => rfl)) pe_str (nomark _)) (pe_cmpR (kop_notIn (K := K) rfl) pe_bl (pv 5) rfl) (pe_cmpR (kop_in (K := K) rfl) pe_bl (pv 5) rfl)))
  (pss_one (ps_set (i := 3) nd rfl (Or.inl rfl) (pe_op op_cat (pv 3) (pe_ifExp (PW.pt (pw_and (pt_cmpR (kop_in (K := K) rfl) (pe_ix (kix_tup (K := K) rfl) (pv 4) pe_int (fun _ _ => rfl)) (pv 1) rfl) (pw_and1 (pt_val (pv 6))))) (pe_lst (pa_cons (pe_ix (kix_tup (K := K) rfl) (pv 4) pe_int (fun _ _ => rfl)) pa_nil)) (pe_lst pa_nil))))))))
  (pss_one (ps_set (i := 1) nd rfl (Or.inr rfl) (pv 3))))))
  (pss_one (ps_ret (pe_callTy (kcall_tuple (K := K) rfl) (by rfl) G.n_tuple PyProof.Rows.boot_tuple (pa_cons (pv 1) pa_nil)))))), ?_⟩
  refine q_asgL (xs := (it ds 0).map V.str) ?_ fun l0 H1 nl0 e1 hl0 => ?_
  · show EvL _ _ _ (((ds.filter notEnd).map rowName).map V.str)
    rw [strs_map]
    refine el_filD hx notEnd _ (ei_tup (ev_var rfl) (st_of ha)) (by omega) fun x d H1 e1 hd hx => ?_
    obtain ⟨q, z, rfl, nq, hq, hz⟩ := rowG_at hx (hg d hd)
    exact ⟨_, tg_name, rfl, et_neS (ev_op (ev_var rfl) ev_c (rv_ixT (st_of hq) at1)), fun _ => ev_op (ev_var rfl) ev_c (rv_ixT (st_of hq) at0)⟩
  replace hx := hx.ex e1
  replace ha := e1 a _ ha
  have hlen := hx.length
  refine q_forI (ei_tup (ev_var rfl) (st_of ha)) (fun i σ' H' => ∃ l c2 c3 c4 c5 c6, σ' = [some (.ref a), some (.ref l), c2, c3, c4, c5, c6, none] ∧ H' l = some (.lst ((it ds i).map V.str))) ?_ ?_ ?_
  · exact fun H2 e2 => ⟨l0, none, none, none, none, none, rfl, e2 l0 _ hl0⟩
  · rintro i x σ' H' e' hxi ⟨l, c2, c3, c4, c5, c6, rfl, hl⟩
    refine ⟨_, tg_name, ?_⟩
    replace hx := hx.ex e'
    replace ha := e' a _ ha
    refine q_asgL (el_lst ea_nil (by simp)) fun k0 H2 nk e2 hk0 => ?_
    replace hl := e2 l _ hl
    replace hx := hx.ex e2
    replace ha := e2 a _ ha
    refine q_forI (ei_tup (ev_var rfl) (st_of ha)) (fun j σ' H' => ∃ k c4 c5 c6, σ' = [some (.ref a), some (.ref l), some x, some (.ref k), c4, c5, c6, none] ∧ H' k = some (.lst (((ds.take j).filter (stay (it ds i))).map fun r => V.str (rowName r)))) ?_ ?_ ?_
    · exact fun H3 e3 => ⟨k0, c4, c5, c6, rfl, e3 k0 _ hk0⟩
    · rintro j y σ' H3 e3 hyj ⟨k, c4, c5, c6, rfl, hk⟩
      refine ⟨_, tg_name, ?_⟩
      obtain ⟨d, hdj, hdt⟩ := (hx.ex e3).get hyj
      have hdm := List.mem_of_getElem? hdj
      obtain ⟨q, z, rfl, nq, hq, hz⟩ := rowG_at hdt (hg d hdm)
      have tk := take_filter hdj (stay (it ds i)) fun r => V.str (rowName r)
      have hl3 := e3 l _ hl
      have est : stay (it ds i) d = (memS (rowName d) (it ds i) && (if rowKind d = "chance" then ((rowTos d).map fun to => memS to (it ds i)).all id else ((rowTos d).map fun to => memS to (it ds i)).any id)) := by
        unfold stay
        rw [List.all_map, List.any_map]
        rfl
      refine q_asgL (xs := ((rowTos d).map fun to => memS to (it ds i)).map V.bl) ?_ fun u H4 nu e4 hu => ?_
      · rw [List.map_map]
        exact el_mapA (val := V.str) _ (ei_newL (em_pr (ea_cons (ev_var rfl) ea_nil) fun H8 e8 => ⟨p, _, d, rfl, hdt.ex e8, hg d hdm, rfl⟩)) (by have := tos_len (hg d hdm); omega) fun to H7 e7 hto =>
          ⟨_, tg_name, rfl, ev_op (ev_var rfl) (ev_var rfl) (rv_isL (sq_of (e7 l _ hl3)) rfl (flat_strs _))⟩
      replace hq := e4 q _ hq
      replace hk := e4 k _ hk
      have hl4 := e4 l _ hl3
      generalize hB : (if rowKind d = "chance" then ((rowTos d).map fun to => memS to (it ds i)).all id else ((rowTos d).map fun to => memS to (it ds i)).any id) = B at est
      refine q_asg (v := .bl B) (ev_if (et_eqSE (ev_op (ev_var rfl) ev_c (rv_ixT (st_of hq) at1))) (fun hb => ?_) fun hb => ?_) fun H5 e5 => ?_
      · rw [if_pos (of_decide_eq_true hb)] at hB
        rw [← hB, ← inV_false]
        exact ev_op ev_c (ev_var rfl) (rv_niL (sq_of hu) rfl (flat_bls _))
      · rw [if_neg (of_decide_eq_false hb)] at hB
        rw [← hB, ← inV_true]
        exact ev_op ev_c (ev_var rfl) (rv_isL (sq_of hu) rfl (flat_bls _))
      replace hq := e5 q _ hq
      replace hk := e5 k _ hk
      have hl5 := e5 l _ hl4
      refine s_asgL (xs := ((ds.take (j + 1)).filter (stay (it ds i))).map fun r => V.str (rowName r)) ?_ fun k2 H6 nk2 e6 hk2 => ⟨(e4.trans e5).trans e6, k2, _, _, _, rfl, hk2⟩
      rw [tk]
      have sz : (((ds.take j).filter (stay (it ds i))).map fun r => V.str (rowName r)).length ≤ 24 := by
        rw [List.length_map]
        have h1 := List.length_filter_le (stay (it ds i)) (ds.take j)
        have h3 := List.length_take_le' j ds
        omega
      cases hs : stay (it ds i) d with
      | true =>
        rw [if_pos rfl]
        refine el_cat (ev_var rfl) hk (el_if (b := true) ?_ (fun _ => el_lst (ea_cons (ev_op (ev_var rfl) ev_c (rv_ixT (st_of hq) at0)) ea_nil) (by simp)) fun h => by cases h) (by simp only [List.length_cons, List.length_nil]; omega)
        exact et_is (et_and (et_test (ev_op (ev_op (ev_var rfl) ev_c (rv_ixT (st_of hq) at0)) (ev_var rfl) (rv_isL (sq_of hl5) rfl (flat_strs _)))) fun _ => et_B (ev_var rfl)) (est.symm.trans hs)
      | false =>
        rw [if_neg (by decide), ← List.append_nil (List.map _ _)]
        refine el_cat (ev_var rfl) hk (el_if (b := false) ?_ (fun h => by cases h) fun _ => el_lst ea_nil (by simp)) (by simp only [List.length_cons, List.length_nil]; omega)
        exact et_is (et_and (et_test (ev_op (ev_op (ev_var rfl) ev_c (rv_ixT (st_of hq) at0)) (ev_var rfl) (rv_isL (sq_of hl5) rfl (flat_strs _)))) fun _ => et_B (ev_var rfl)) (est.symm.trans hs)
    · rintro σ' H3 e3 ⟨k, c4, c5, c6, rfl, hk⟩
      rw [hlen, List.take_length] at hk
      refine s_asg (ev_var rfl) fun H4 e4 => ⟨(e2.trans e3).trans e4, k, _, _, _, _, _, rfl, ?_⟩
      show H4 k = some (HO.lst (((ds.filter (stay (it ds i))).map rowName).map V.str))
      rw [strs_map]
      exact e4 k _ hk
  · rintro σ' H' e' ⟨l, c2, c3, c4, c5, c6, rfl, hl⟩
    rw [hlen] at hl
    exact s_retW (ew_tuple1 rfl hl) fun q H4 e4 h4 => hQ q H4 ((e1.trans e').trans e4) h4
/-! ### led, coins -/
theorem sc__law_led : FnScope ["_law_table", "_law_found", "_law_turn", "_law_later", "_law_strand", "_law_to"] ["_law_table"] (defScope (topS 54)) :=
  ⟨rfl, rfl, rfl, by decide +kernel, rfl, by decide +kernel, by decide +kernel⟩
def preRowsM (q : List PyData → List Str) : List V → Hp → List V → Prop := preRowsW q
theorem c__law_led (F : FnP K "_law_led" (topS 54) f fd) (hm : mg "_law_led" = some (.ref f)) (G : Nm K mg)
    (c__law_tos : C8.Cal P w K mg base 1 "_law_tos" (PrM preTos2) []) : C8.Cal P w K mg base 2 "_law_led" (PrM (preRowsW fun ds => cit ds ds.length)) [] := by
  have nd := sc__law_led.nd
  refine cal_of F hm sc__law_led (fun _ _ _ _ _ _ us hl => match us, hl with | [_], _ => rfl) (fun vs H Q E h => ?_) fun cdv A outer s H vs Q E hr h => ?_
  · obtain ⟨z, ⟨_, _, _, rfl, _⟩, _⟩ := h
    rfl
  obtain ⟨z, ⟨p, v, ds, rfl, hR, rfl⟩, hQ⟩ := h
  obtain ⟨hd, h24, hg⟩ := hR
  obtain ⟨a, xs, rfl, na, ha, hx⟩ := hd.tupE
  refine ⟨_, (pss_cons (ps_set (i := 1) nd rfl (Or.inr rfl) (pe_lc (own := [("_law_strand", 4)]) rfl nd (kpi_tup (K := K) rfl (pv 0)) (blkOk_by (own := [("_law_strand", 4)]) (by rfl)) (fun _ _ _ _ _ => (pg_name (i := 4) nd rfl (Or.inl rfl))) (fun _ _ _ _ _ => pts_one (pt_cmpR op_eq (pe_ix (kix_tup (K := K) rfl) (pv 4) pe_int (fun _ _ => rfl)) pe_str (nomark _))) (fun _ _ _ _ _ => (pe_ix (kix_tup (K := K) rfl) (pv 4) pe_int (fun _ _ => rfl)))))
  (pss_cons (ps_for PassesOwn.never rfl (kpi_tup (K := K) rfl (pv 0)) (pg_name (i := 2) nd rfl (Or.inl rfl)) (pss_cons (ps_set (i := 3) nd rfl (Or.inl rfl) (pe_lst pa_nil))
  (pss_cons (ps_for PassesOwn.never rfl (kpi_tup (K := K) rfl (pv 0)) (pg_name (i := 4) nd rfl (Or.inl rfl)) (pss_one (ps_if (PW.pt (pw_or (pt_cmpR (kop_in (K := K) rfl) (pe_ix (kix_tup (K := K) rfl) (pv 4) pe_int (fun _ _ => rfl)) (pv 1) rfl) (pw_or1 (pt_cmpR (kop_neE (K := K) rfl (u0 hr)) (pe_lc (own := [("_law_to", 5)]) rfl nd (kpi_list (K := K) rfl (C8.pe_c c__law_tos hr (by decide) rfl (pa_cons (pv 4) pa_nil))) (blkOk_by (own := [("_law_to", 5)]) (by rfl)) (fun _ _ _ _ _ => (pg_name (i := 5) nd rfl (Or.inl rfl))) (fun _ _ _ _ _ => pts_one (pt_cmpR (kop_in (K := K) rfl) (pv 5) (pv 1) rfl)) (fun _ _ _ _ _ => (pv 5))) (pe_lst pa_nil) (nomark _))))) (pss_one (ps_expr (pe_bm PySem.F.plainAttrs_list PySem.F.slot_list_append PySem.F.type_list_append mt_append (pv 3) (pa_cons (pe_ix (kix_tup (K := K) rfl) (pv 4) pe_int (fun _ _ => rfl)) pa_nil)))) pss_nil)))
  (pss_one (ps_set (i := 1) nd rfl (Or.inr rfl) (pv 3))))))
  (pss_one (ps_ret (pv 1))))), ?_⟩
  refine q_asgL (xs := (cit ds 0).map V.str) ?_ fun l0 H1 nl0 e1 hl0 => ?_
  · show EvL _ _ _ (((ds.filter isEnd).map rowName).map V.str)
    rw [strs_map]
    refine el_filD hx isEnd _ (ei_tup (ev_var rfl) (st_of ha)) (by omega) fun x d H1 e1 hd hx => ?_
    obtain ⟨q, z, rfl, nq, hq, hz⟩ := rowG_at hx (hg d hd)
    exact ⟨_, tg_name, rfl, et_eqSE (ev_op (ev_var rfl) ev_c (rv_ixT (st_of hq) at1)), fun _ => ev_op (ev_var rfl) ev_c (rv_ixT (st_of hq) at0)⟩
  replace hx := hx.ex e1
  replace ha := e1 a _ ha
  have hlen := hx.length
  refine q_forI (ei_tup (ev_var rfl) (st_of ha)) (fun i σ' H' => ∃ l c2 c3 c4, σ' = [some (.ref a), some (.ref l), c2, c3, c4, none] ∧ H' l = some (.lst ((cit ds i).map V.str))) ?_ ?_ ?_
  · exact fun H2 e2 => ⟨l0, none, none, none, rfl, e2 l0 _ hl0⟩
  · rintro i x σ' H' e' hxi ⟨l, c2, c3, c4, rfl, hl⟩
    refine ⟨_, tg_name, ?_⟩
    replace hx := hx.ex e'
    replace ha := e' a _ ha
    refine q_asgL (el_lst ea_nil (by simp)) fun k H2 nk e2 hk0 => ?_
    refine q_forT (ev_var rfl) (st_of (e2 a _ ha)) (fun j σ' H3 => ∃ c4, σ' = [some (.ref a), some (.ref l), some x, some (.ref k), c4, none] ∧ Ex H' H3 ∧ H3 k = some (.lst (((ds.take j).filter (cst (cit ds i))).map fun r => V.str (rowName r)))) ?_ ?_ ?_ ?_
    · exact fun H3 e3 => ⟨c4, rfl, e2.trans e3, e3 k _ hk0⟩
    · rintro j σ' H3 hj ⟨_, _, e3, _⟩
      exact st_of (e3 a _ ha)
    · rintro j y σ' H3 hyj ⟨c4, rfl, e3, hk⟩
      obtain ⟨d, hdj, hdt⟩ := (hx.ex e3).get hyj
      have hdm := List.mem_of_getElem? hdj
      obtain ⟨q, z, rfl, nq, hq, hz⟩ := rowG_at hdt (hg d hdm)
      have tk := take_filter hdj (cst (cit ds i)) fun r => V.str (rowName r)
      have hl3 := e3 l _ hl
      have sz : (((ds.take j).filter (cst (cit ds i))).map fun r => V.str (rowName r)).length ≤ 24 := by
        rw [List.length_map]
        have h1 := List.length_filter_le (cst (cit ds i)) (ds.take j)
        have h3 := List.length_take_le' j ds
        omega
      refine s_when (b := cst (cit ds i) d) ?_ (fun hb H4 e4 => ?_) fun hb H4 e4 => ?_
      · refine et_or (et_test (ev_op (ev_op (ev_var rfl) ev_c (rv_ixT (st_of hq) at0)) (ev_var rfl) (rv_isL (sq_of hl3) rfl (flat_strs _)))) fun _ => ?_
        have : (rowTos d).any (memS · (cit ds i)) = !(((rowTos d).filter fun to => !!memS to (cit ds i)).map V.str).isEmpty := by
          rw [fil_emp]
          exact List.any_eq_not_all_not
        rw [this]
        refine et_emp (el_filA (as := rowTos d) (val := V.str) (fun to => !!memS to (cit ds i)) V.str (ei_newL (em_pr (ea_cons (ev_var rfl) ea_nil) fun H8 e8 => ⟨p, _, d, rfl, hdt.ex e8, hg d hdm, rfl⟩)) (by have := tos_len (hg d hdm); omega) fun to H8 e8 hto => ⟨_, tg_name, rfl, ?_, fun _ => ev_var rfl⟩) rfl
        rw [Bool.not_not]
        exact et_test (ev_op (ev_var rfl) (ev_var rfl) (rv_isL (sq_of (e8 l _ hl3)) rfl (flat_strs _)))
      · refine s_app (e4 k _ hk) (ev_var rfl) (ev_op (ev_var rfl) ev_c (rv_ixT (st_of (e4 q _ hq)) at0)) (by omega) fun H9 e9 => ?_
        refine ⟨_, rfl, Ex.mut ((e3.trans e4).trans e9) nk, ?_⟩
        rw [upd_same, tk, if_pos hb]
      · refine ⟨_, rfl, e3.trans e4, ?_⟩
        rw [tk, if_neg (by rw [hb]; decide)]
        exact e4 k _ hk
    · rintro σ' H3 ⟨c4, rfl, e3, hk⟩
      rw [hx.length, List.take_length] at hk
      refine s_asg (ev_var rfl) fun H4 e4 => ⟨e3.trans e4, k, _, _, _, rfl, ?_⟩
      show H4 k = some (HO.lst (((ds.filter (cst (cit ds i))).map rowName).map V.str))
      rw [strs_map]
      exact e4 k _ hk
  · rintro σ' H' e' ⟨l, c2, c3, c4, rfl, hl⟩
    rw [hlen] at hl
    exact s_ret (ev_var rfl) fun H3 e3 => hQ l H3 ((e1.trans e').trans e3) (e3 l _ hl)
theorem sc__law_are_coins : FnScope ["_law_table", "_law_line"] ["_law_table"] (defScope (topS 60)) :=
  ⟨rfl, rfl, rfl, by decide +kernel, rfl, by decide +kernel, by decide +kernel⟩
theorem ev_niL2 {σ : L2.St} {H : Hp} {ta tb : TE} {x : V} {xs : List V} (ha : Ev ta σ H x) (hb : EvL tb σ H xs) (hx : flatV x = true) (hf : xs.all flatV = true) : Ev (tOp (rIn K true) ta tb) σ H (.bl (!inV x xs)) := ev_opL ha hb fun _ _ h _ => rv_niL (sq_of h) hx hf
theorem ev_lenM {σ : L2.St} {H : Hp} {te : TE} {xs : List V} (h : EvM te σ H xs) :
    Ev (tCB (fun xs H Q => ∃ p ys, xs = [.ref p] ∧ (SqL K H p ys ∨ SqT K H p ys) ∧ Q (.int ys.length) H) (tCons te tNil)) σ H (.int (xs.length : Int)) :=
  fun H1 e Q q => h H1 e _ fun p H2 e2 h2 => ⟨p, xs, rfl, .inl (sq_of h2), q H2 e2⟩
theorem c__law_are_coins (F : FnP K "_law_are_coins" (topS 60) f fd) (hm : mg "_law_are_coins" = some (.ref f)) (G : Nm K mg)
    (c__law_led : C8.Cal P w K mg base 2 "_law_led" (PrM (preRowsW fun ds => cit ds ds.length)) []) : C8.Cal P w K mg base 3 "_law_are_coins" (PrV (preRowsB coinsD)) [] := by
  have nd := sc__law_are_coins.nd
  refine cal_of F hm sc__law_are_coins (fun _ _ _ _ _ _ us hl => match us, hl with | [_], _ => rfl) (fun vs H Q E h => ?_) fun cdv A outer s H vs Q E hr h => ?_
  · obtain ⟨z, ⟨_, _, _, rfl, _⟩, _⟩ := h
    rfl
  obtain ⟨z, ⟨p, v, ds, rfl, hR, rfl⟩, hQ⟩ := h
  have hR0 := hR
  obtain ⟨hd, h24, hg⟩ := hR
  obtain ⟨a, xs, rfl, na, ha, hx⟩ := hd.tupE
  refine ⟨_, (pss_one (ps_ret (pe_and (pe_cmpR (kop_eqE (K := K) rfl (u0 hr)) (pe_lc (own := [("_law_line", 1)]) rfl nd (kpi_tup (K := K) rfl (pv 0)) (blkOk_by (own := [("_law_line", 1)]) (by rfl)) (fun _ _ _ _ _ => (pg_name (i := 1) nd rfl (Or.inl rfl))) (fun _ _ _ _ _ => pts_one (pt_cmpR (kop_notIn (K := K) rfl) (pe_ix (kix_tup (K := K) rfl) (pv 1) pe_int (fun _ _ => rfl)) (pe_lst (pa_cons pe_str (pa_cons pe_str pa_nil))) rfl)) (fun _ _ _ _ _ => (pv 1))) (pe_lst pa_nil) (nomark _)) (pe_one (pe_cmpR op_eq (pe_callB (kcall_len (K := K) rfl) (by rfl) G.n_len PySem.boot_len (pa_cons (C8.pe_c c__law_led hr (by decide) rfl (pa_cons (pv 0) pa_nil)) pa_nil)) (pe_callB (kcall_len (K := K) rfl) (by rfl) G.n_len PySem.boot_len (pa_cons (pv 0) pa_nil)) (nomark _)))))), ?_⟩
  obtain ⟨zs, ez, hz⟩ := el_anyD (wi := iTup K (tVar 0)) (g := gName 1) (te := tVar 1) (vs := [1]) (σ := [some (.ref a), none]) (tt := tTest (tOp (rIn K true) (tOp (rIxT K) (tVar 1) (tC (.int 1))) (tLst (tCons (tC (.str "end")) (tCons (tC (.str "coin")) tNil))))) hx (fun d => !coinK d) (ei_tup (ev_var rfl) (st_of ha)) (by omega) fun x d H7 e7 hd hx => by
    obtain ⟨q, z, rfl, nq, hq, hz⟩ := rowG_at hx (hg d hd)
    exact ⟨_, tg_name, rfl, et_test (ev_niL2 (ev_op (ev_var rfl) ev_c (rv_ixT (st_of hq) at1)) (el_lst (ea_cons ev_c (ea_cons ev_c ea_nil)) (by simp)) rfl rfl), fun _ => ev_var rfl⟩
  rw [any_notD, Bool.not_not] at hz
  refine s_ret (v := .bl (coinsD ds)) (ev_andV (ev_is (ev_eqE ez) (by rw [hz])) fun _ => ?_) fun H1 e1 => hQ H1 e1
  refine ev_is (ev_op (ev_lenM (em_pr (ea_cons (ev_var rfl) ea_nil) fun H1 e1 => ⟨p, _, ds, rfl, hR0.ex e1, rfl⟩)) (ev_lenT (ev_var rfl) (st_of ha)) (rv_eq rfl)) ?_
  rw [List.length_map, hx.length, dec_int]
  congr 1
  rw [Bool.eq_iff_iff]
  simp
  omega
end
end K35
set_option maxHeartbeats 4000000
/-! P12: how long data is told; repr -/
namespace K35
open PySem PySem.Spec PyProof.Rows L2 Evl

inductive Lf : PyData → Prop
  | non : Lf .none
  | bl (b : Bool) : Lf (.bool b)
  | int (i : Int) : i.natAbs ≤ 16 → Lf (.int i)
  | str (z : Str) : z.length ≤ 30 → (z.cps.toList.all fun c => decide (c < 16 ^ 8)) = true → Lf (.str z)
  | lst {ds : List PyData} : (∀ d, d ∈ ds → Lf d) → Lf (.list ds)
  | tup {ds : List PyData} : (∀ d, d ∈ ds → Lf d) → Lf (.tuple ds)
  | dic : Lf (.dict [])
mutual
def szD : PyData → Nat
  | .none => 10
  | .bool _ => 10
  | .int _ => 10
  | .str z => 10 * z.length + 10
  | .list ds => szs ds + 10
  | .tuple ds => szs ds + 10
  | .dict _ => 10
def szs : List PyData → Nat
  | [] => 0
  | d :: ds => szD d + 2 + szs ds
end
theorem szs_app : ∀ ds es : List PyData, szs (ds ++ es) = szs ds + szs es
  | [], es => by simp [szs]
  | d :: ds, es => by
    rw [List.cons_append, szs, szs, szs_app ds es]
    omega
theorem szD_ge : ∀ d : PyData, 10 ≤ szD d
  | .none => Nat.le_refl _
  | .bool _ => Nat.le_refl _
  | .int _ => Nat.le_refl _
  | .str _ => by rw [szD]; omega
  | .list _ => by rw [szD]; omega
  | .tuple _ => by rw [szD]; omega
  | .dict _ => by rw [szD]; omega
theorem szs_len : ∀ ds : List PyData, 12 * ds.length ≤ szs ds
  | [] => Nat.le_refl _
  | d :: ds => by
    rw [szs, List.length_cons]
    have := szs_len ds
    have := szD_ge d
    omega
theorem szs_mem {d : PyData} : ∀ {ds : List PyData}, d ∈ ds → szD d ≤ szs ds
  | e :: ds, h => by
    rw [szs]
    rcases List.mem_cons.mp h with rfl | h
    · omega
    · have := szs_mem h
      omega
theorem Lf.okd {n : Nat} (hn : n ≤ 200000) : ∀ {d : PyData}, Lf d → szD d ≤ n → Okd d := by
  intro d h
  induction h with
  | non => exact fun _ => .non
  | bl b => exact fun _ => .bl b
  | int i hi => exact fun _ => .int i hi
  | str z h1 _ => exact fun _ => .str z (by omega)
  | @lst ds _ ih =>
    intro hs
    rw [szD] at hs
    have := szs_len ds
    exact .lst (by omega) fun d hd => ih d hd (by have := szs_mem hd; omega)
  | @tup ds _ ih =>
    intro hs
    rw [szD] at hs
    have := szs_len ds
    exact .tup (by omega) fun d hd => ih d hd (by have := szs_mem hd; omega)
  | dic => exact fun _ => .dic
theorem int_short {i : Int} (h : i.natAbs ≤ 16) : (toString i : Str).length ≤ 10 ∧ i.natAbs.log2 < 1920 := by
  have : i = -16 ∨ i = -15 ∨ i = -14 ∨ i = -13 ∨ i = -12 ∨ i = -11 ∨ i = -10 ∨ i = -9 ∨ i = -8 ∨ i = -7 ∨ i = -6 ∨ i = -5 ∨ i = -4 ∨ i = -3 ∨ i = -2 ∨ i = -1 ∨ i = 0 ∨ i = 1 ∨ i = 2 ∨ i = 3 ∨ i = 4 ∨ i = 5 ∨ i = 6 ∨ i = 7 ∨ i = 8 ∨ i = 9 ∨ i = 10 ∨ i = 11 ∨ i = 12 ∨ i = 13 ∨ i = 14 ∨ i = 15 ∨ i = 16 := by omega
  rcases this with h | h | h | h | h | h | h | h | h | h | h | h | h | h | h | h | h | h | h | h | h | h | h | h | h | h | h | h | h | h | h | h | h <;> subst h <;> exact ⟨by decide +kernel, by decide +kernel⟩
theorem textFrom_le : ∀ (ts : List Str) (k : Nat) (acc : Str), (textFrom k acc ts).length ≤ acc.length + piled ts
  | [], k, acc => Nat.le_add_right _ _
  | t :: r, k, acc => by
    have h := textFrom_le r (k + 1) (acc ++ (if k > 0 then ", " else "" : String) ++ t)
    have e : (acc ++ (if k > 0 then ", " else "" : String) ++ t).length ≤ acc.length + 2 + t.length := by
      rw [PySem.strLen_append, PySem.strLen_append]
      split
      · exact Nat.le_refl _
      · show acc.length + 0 + t.length ≤ _
        omega
    rw [piled_cons]
    show (textFrom (k + 1) _ r).length ≤ _
    omega
theorem listText_le (ts : List Str) : (listText ts).length ≤ piled ts + 10 := by
  have := textFrom_le ts 0 "["
  unfold listText
  rw [PySem.strLen_append]
  show _ + 1 ≤ _
  have e : (("[" : String) : Str).length = 1 := rfl
  omega
theorem tupleText_le (ts : List Str) : (tupleText ts).length ≤ piled ts + 10 := by
  have h2 : (((if ts.length == 1 then ",)" else ")" : String) : Str)).length ≤ 2 := by split <;> decide
  unfold tupleText
  rw [PySem.strLen_append, PySem.strLen_append]
  have e : (("(" : String) : Str).length = 1 := rfl
  by_cases h : ts = []
  · subst h
    have : (Str.join ", " ([] : List Str)).length = 0 := rfl
    omega
  · have := join_length_add ts h
    omega
mutual
theorem shown_le : ∀ d : PyData, Lf d → d.shown.length ≤ szD d ∧ d.showable = true
  | .none, _ => ⟨by show 4 ≤ 10; decide, rfl⟩
  | .bool b, _ => ⟨by cases b <;> (show _ ≤ 10) <;> decide, rfl⟩
  | .int i, h => by
    cases h with
    | int _ hi =>
      have := int_short hi
      refine ⟨this.1, ?_⟩
      simp [PyData.showable, this.2]
  | .str z, h => by
    cases h with
    | str _ h1 h2 =>
      refine ⟨?_, by simp [PyData.showable]⟩
      have := StrLaws.reprText_len z fun c hc => of_decide_eq_true (List.all_eq_true.mp h2 c hc)
      simp only [PyData.shown, szD]
      omega
  | .list ds, h => by
    cases h with
    | lst ha =>
      obtain ⟨a, b⟩ := shown_all ds ha
      refine ⟨?_, by simp only [PyData.showable]; exact b⟩
      have := listText_le (PyData.shownAll ds)
      simp only [PyData.shown, szD]
      omega
  | .tuple ds, h => by
    cases h with
    | tup ha =>
      obtain ⟨a, b⟩ := shown_all ds ha
      refine ⟨?_, by simp only [PyData.showable]; exact b⟩
      have := tupleText_le (PyData.shownAll ds)
      simp only [PyData.shown, szD]
      omega
  | .dict kvs, h => by
    cases h
    refine ⟨?_, by simp [PyData.showable, PyData.showableKv]⟩
    show 2 ≤ 10
    decide
theorem shown_all : ∀ ds : List PyData, (∀ d, d ∈ ds → Lf d) → piled (PyData.shownAll ds) ≤ szs ds ∧ PyData.showableAll ds = true
  | [], _ => ⟨Nat.le_refl _, rfl⟩
  | d :: ds, h => by
    obtain ⟨a, b⟩ := shown_le d (h d List.mem_cons_self)
    obtain ⟨a', b'⟩ := shown_all ds fun e he => h e (List.mem_cons_of_mem _ he)
    refine ⟨?_, by simp only [PyData.showableAll, b, b', Bool.and_self]⟩
    rw [PyData.shownAll, piled_cons, szs]
    omega
end
/-! ### in the heap -/
section
variable {X : Cx} {pins : List (Addr × Obj)} {σ : L2.St} {H : Hp} {s : Shared} {p : Addr}
mutual
theorem DT.reads (I : Inv X pins σ H s) : ∀ (d : PyData) (v : V) (u : Value), DT p H v d → RelV v u → ∃ as, Reads s.heap u d as ∧ sysModules ∉ as
  | .none, _, _, h, r => by
    cases h
    cases r
    exact ⟨_, Reads.none, by simp⟩
  | .bool b, _, _, h, r => by
    cases h
    cases r
    exact ⟨_, Reads.bool b, by simp⟩
  | .int i, _, _, h, r => by
    cases h
    obtain ⟨t, rfl⟩ := r
    exact ⟨_, Reads.int i t, by simp⟩
  | .str x, _, _, h, r => by
    cases h
    obtain ⟨t, rfl⟩ := r
    exact ⟨_, Reads.str x t, by simp⟩
  | .list ds, _, _, h, r => by
    cases h with
    | lst n hs ha =>
      cases r
      obtain ⟨its, rv, ⟨o, n', ho, hc, _, hd⟩, _⟩ := I.list (sq_of hs)
      obtain ⟨as, hr, hk⟩ := DTs.reads I ds _ its ha rv
      exact ⟨_, Reads.list ho hc hd hr, fun hm => (List.mem_cons.mp hm).elim (fun e => n.2 e.symm) hk⟩
  | .tuple ds, _, _, h, r => by
    cases h with
    | tup n hs ha =>
      cases r
      obtain ⟨its, rv, ⟨o, ho, hc, n', hd⟩, _⟩ := I.tuple (st_of hs)
      obtain ⟨as, hr, hk⟩ := DTs.reads I ds _ its ha rv
      exact ⟨_, Reads.tuple ho hc hd hr, hk⟩
  | .dict kvs, _, _, h, r => by
    cases h with
    | dic n hs =>
      cases r
      obtain ⟨_, ne, vs, kv, o, es, ep, ho, ⟨hc, _, _⟩, hd, _, hp, _⟩ := (show ObjOk X.prog X.w H s.heap _ (.dK []) from I.hok _ _ hs)
      cases kv
      generalize hl : es.toList = l at hp
      cases hp
      have q1 : ReadsAll s.heap (es.toList.map (·.key)) (([] : List (PyData × PyData)).map (·.1)) [] := by
        rw [hl]
        exact .nil
      have q2 : ReadsAll s.heap (es.toList.map (·.val)) (([] : List (PyData × PyData)).map (·.2)) [] := by
        rw [hl]
        exact .nil
      refine ⟨_, Reads.dict ho hc hd q1 q2, fun hm => ?_⟩
      have := List.mem_cons.mp hm
      rcases this with e | e
      · rw [← e] at ne
        simp at ne
      · simp at e
theorem DTs.reads (I : Inv X pins σ H s) : ∀ (ds : List PyData) (vs : List V) (us : List Value), DTs p H vs ds → Vals vs us → ∃ as, ReadsAll s.heap us ds as ∧ sysModules ∉ as
  | [], _, _, h, r => by
    cases h
    cases r
    exact ⟨_, ReadsAll.nil, by simp⟩
  | d :: ds, _, _, h, r => by
    cases h with
    | cons h1 h2 =>
      cases r with
      | cons r1 r2 =>
        obtain ⟨as, q1, k1⟩ := DT.reads I d _ _ h1 r1
        obtain ⟨bs, q2, k2⟩ := DTs.reads I ds _ _ h2 r2
        exact ⟨_, ReadsAll.cons q1 q2, fun hm => (List.mem_append.mp hm).elim k1 k2⟩
end
end
/-- repr of data -/
def rReprD : List V → Hp → VK → Prop := fun xs H Q => ∃ p v d, xs = [v] ∧ DT p H v d ∧ Lf d ∧ szD d ≤ 200000 ∧ d.depth ≤ 40 ∧ Q (.str d.shown) H
theorem call_reprD {X : Cx} (hg : X.A.guards = some []) (hu : X.A.units + 100 < cLine) : CallR X (.builtin "repr") rReprD := by
  intro pins s σ H xs us Q I r h
  obtain ⟨p, v, d, rfl, hd, hl, hs, hp, q⟩ := h
  obtain ⟨u, rfl, ru⟩ := r.one
  obtain ⟨a, b⟩ := shown_le d hl
  have sz : d.shown.length ≤ sizeLine := by
    refine Nat.le_trans (Nat.le_trans a hs) ?_
    decide
  obtain ⟨as, rd, hm⟩ := DT.reads I d v u hd ru
  have fin : ∀ (u' : Value) (h' : Heap) (tk : Nat), (∀ b o, s.heap.get? b = some o → h'.get? b = some o) → (∃ t, u' = Value.str d.shown t) → EP X pins σ Q u' { s with heap := h', toks := tk } := fun u' h' tk hk ⟨t, e⟩ =>
    ⟨.str d.shown, H, I.kept hk, ⟨t, e⟩, q⟩
  have refc : ∀ a, u = .ref a → wpAny (model X.prog X.w) X.A (call (.builtin "repr") [u]) (EP X pins σ Q) X.xe s := fun a e => by
    subst e
    exact repr_of_reads' rd b (fun _ => hm) hg (by omega) (fun _ _ e => e) (fun h' t tk hk => fin _ h' tk hk ⟨t, rfl⟩) sz
  cases hd with
  | non =>
    cases ru
    exact P.repr_of_none (fin _ s.heap _ (fun _ _ e => e) ⟨_, rfl⟩)
  | bl c =>
    cases ru
    exact P.repr_of_bool (fin _ s.heap _ (fun _ _ e => e) ⟨_, rfl⟩)
  | int i =>
    obtain ⟨t, rfl⟩ := ru
    cases hl with
    | int _ hi => exact P.repr_of_int (int_short hi).2 (fin _ s.heap _ (fun _ _ e => e) ⟨_, rfl⟩)
  | str z =>
    obtain ⟨t, rfl⟩ := ru
    exact P.repr_of_str (fin _ s.heap _ (fun _ _ e => e) ⟨_, rfl⟩) sz
  | lst _ _ _ => exact refc _ (show u = Value.ref _ from ru)
  | tup _ _ _ => exact refc _ (show u = Value.ref _ from ru)
  | dic _ _ => exact refc _ (show u = Value.ref _ from ru)
end K35
set_option maxHeartbeats 4000000
/-! P13: t[::-1] of a tuple -/
namespace K35
open PySem PySem.Spec PyProof.Rows L2 Evl HT
theorem rev_adjust (n : Nat) : Builtin.Slice.sliceAdjust none none (-1) (n : Int) = ((n : Int) - 1, -1) := by
  unfold Builtin.Slice.sliceAdjust
  simp
theorem rev_places (n : Nat) : Builtin.Slice.slicePlaces ((n : Int) - 1) (-1) (-1) = n := by
  unfold Builtin.Slice.slicePlaces
  simp
  split <;> omega
theorem fm_congr {α β : Type} {f g : α → Option β} : ∀ {l : List α}, (∀ a, a ∈ l → f a = g a) → l.filterMap f = l.filterMap g
  | [], _ => rfl
  | a :: l, h => by
    rw [List.filterMap_cons, List.filterMap_cons, h a List.mem_cons_self, fm_congr fun b hb => h b (List.mem_cons_of_mem _ hb)]
theorem rev_pick (xs : Array Value) : ((List.range xs.size).filterMap fun (k : Nat) => xs[(((xs.size : Int) - 1) + (k : Int) * (-1)).toNat]?).toArray = xs.toList.reverse.toArray := by
  have e : ((List.range xs.size).filterMap fun (k : Nat) => xs[(((xs.size : Int) - 1) + (k : Int) * (-1)).toNat]?) = ((List.range xs.size).map fun k => xs.size - 1 - k).filterMap (xs[·]?) := by
    rw [List.filterMap_map]
    refine fm_congr fun k hk => ?_
    have hk := List.mem_range.mp hk
    have : (((xs.size : Int) - 1) + (k : Int) * (-1)).toNat = xs.size - 1 - k := by omega
    rw [this]
    rfl
  rw [e, PySem.W.krv_range, List.filterMap_reverse, PySem.W.krv_all]
section
variable {s : Shared} {prog : Program} {w : World} {A : Around} {E : Value → Shared → Prop}
theorem sliceApplied_rev {sl : Addr} {u : Tok} {n : Nat} {Q : Int × Int × Nat → Shared → Prop} (hs : s.heap.IsSliceOf sl .none .none (.int (-1) u))
    (h : Q ((n : Int) - 1, -1, n) s) : wpAny (model prog w) A (Builtin.Slice.sliceApplied (.ref sl) (pure (n : Int))) Q E s := by
  obtain ⟨oS, sl1, sl2, sl3⟩ := id hs
  unfold Builtin.Slice.sliceApplied Builtin.Slice.sliceFields
  refine wpAny_bind (wpAny_bind (wpAny_field sl1 sl3 (x := .none) rfl (wpAny_bind (wpAny_field sl1 sl3 (x := .none) rfl (wpAny_bind (wpAny_field sl1 sl3 (x := .int (-1) u) rfl (wpAny_pure ?_)))))))
  refine wpAny_bind (slicePart_ (.int (-1) u) ?_)
  show wpAny _ _ (if ((-1 : Int) == 0) = true then _ else _) _ _ s
  rw [if_neg (by decide)]
  refine wpAny_bind (slicePart_ .none (wpAny_bind (slicePart_ .none (wpAny_bind (wpAny_pure ?_)))))
  show wpAny _ _ (match Builtin.Slice.sliceAdjust none none (-1) (n : Int) with | (lo, hi) => pure (lo, (-1 : Int), Builtin.Slice.slicePlaces lo hi (-1))) _ _ s
  rw [rev_adjust]
  show wpAny _ _ (pure ((n : Int) - 1, (-1 : Int), Builtin.Slice.slicePlaces ((n : Int) - 1) (-1) (-1))) _ _ s
  rw [rev_places]
  exact wpAny_pure h
theorem getItem_tuple_rev {t sl : Addr} {items : Array Value} {u : Tok} {Q : Value → Shared → Prop} (ht : IsTup s.heap t items) (hs : s.heap.IsSliceOf sl .none .none (.int (-1) u))
    (h : Q (.ref s.heap.objs.size) { s with heap := s.heap.push { cls := .type "tuple", data := .seq items.toList.reverse.toArray } }) (hsz : items.size ≤ sizeLine) : wpAny (model prog w) A (getItem (.ref t) (.ref sl)) Q E s := by
  have hz : sizeOk (.seq items.toList.reverse.toArray) := by
    show items.toList.reverse.toArray.size ≤ sizeLine
    rw [List.size_toArray, List.length_reverse, Array.length_toList]
    exact hsz
  obtain ⟨oS, sl1, sl2, sl3⟩ := id hs
  have isSl : s.TypeIs (.ref sl) "slice" := ⟨oS, sl1, sl2⟩
  unfold getItem
  try (with_reducible refine wpAny_holding ?_)
  try refine wpAny_bind (wpAny_pure ?_)
  refine wpAny_bind (wpAny_sequenceKey (ht.typeIs) (by decide) ?_)
  refine wpAny_bind (wpAny_callSpecial?_slot (name := Str.ofString "__getitem__") ht.typeIs PyProof.Rows.slot_tuple_getitem (wpAny_call_entry PyProof.Rows.slot_tuple_getitem ht.typeIs entry_tuple_getitem ?_ (args_tuple_getitem (.ref t) (.ref sl))))
  show wpAny _ _ (Builtin.Tuple.tupleItemsOf (Value.ref t) >>= _) _ _ s
  refine wpAny_bind (tupleItemsOf_ (items := items) ht ?_)
  refine wpAny_bind (wpAny_typeOf isSl ?_)
  rw [if_pos (by decide)]
  refine wpAny_bind (sliceApplied_rev hs ?_)
  have hno : ¬ (((items.size : Int) - 1 == 0 && (-1 : Int) == 1 && items.size == items.size) = true) := by
    intro q
    rw [Bool.and_eq_true, Bool.and_eq_true] at q
    exact absurd q.1.2 (by decide)
  show wpAny _ _ (if ((items.size : Int) - 1 == 0 && (-1 : Int) == 1 && items.size == items.size) = true then _ else _) _ _ s
  rw [if_neg hno, rev_pick]
  first
    | exact wpAny_bind (m := Builtin.Tuple.tupleExact _) (wpAny_newObj_type (wpAny_pure ⟨_, rfl, wpAny_pure h⟩) hz)
    | exact wpAny_bind (m := Builtin.Tuple.tupleExact _) (wpAny_newObj_type (wpAny_bind (wpAny_pure (wpAny_pure ⟨_, rfl, wpAny_pure h⟩))) hz)
    | exact wpAny_bind (wpAny_bind (m := Builtin.Tuple.tupleExact _) (wpAny_newObj_type (wpAny_pure (wpAny_pure ⟨_, rfl, wpAny_pure h⟩)) hz))
    | exact wpAny_bind (wpAny_bind (m := Builtin.Tuple.tupleExact _) (wpAny_newObj_type (wpAny_pure ⟨_, rfl, wpAny_pure h⟩) hz))
end
def tRevT (K : PySem.W.Frag) (te : TE) : TE := fun σ H Q => te σ H fun x H1 => ∃ a xs, x = .ref a ∧ SqT K H1 a xs ∧ ∀ p, H1 p = none → Q (.ref p) (upd H1 p (.tup xs.reverse))
theorem pe_revT {X : Cx} {e : Expr} {te : TE} {k : Nat} {p1 p2 p3 pos : Pos} (he : PE X e te) : PE X (.Subscript e (.Slice none none (some (.UnaryOp .USub (.Constant (.int 1) k p1) p2)) p3) pos) (tRevT X.K te) := by
  refine ⟨fun pins s σ H Q I h => ?_⟩
  refine Subscript_ (thn (he.run pins s σ H _ I h) fun vt s1 ⟨x, H1, I1, r1, q1⟩ => ?_)
  obtain ⟨a, xs, ex, hx, q⟩ := q1
  subst ex
  cases r1
  have stp : PO X (some (.UnaryOp .USub (.Constant (.int 1) k p1) p2)) (tPart (tUn (rU fun i => .int (-i)) (tC (.int 1)))) := po_some (pe_un un_neg pe_int)
  refine wpAny_Slice (thn (po_none.run pins s1 σ H1 (fun part G => part = none ∧ G = H1) I1 ⟨rfl, rfl⟩) fun vl s2 ⟨l, H2, I2, pl, el, e2⟩ => ?_)
  subst el e2
  refine thn (po_none.run pins s2 σ H2 (fun part G => part = none ∧ G = H2) I2 ⟨rfl, rfl⟩) fun vu s3 ⟨u, H3, I3, pu, eu, e3⟩ => ?_
  subst eu e3
  refine thn (stp.run pins s3 σ H3 (fun part G => part = some (-1) ∧ G = H3) I3 ⟨1, rfl, -1, rfl, rfl, rfl⟩) fun vs s4 ⟨o, H4, I4, ps, eo, e4⟩ => ?_
  subst eo e4
  cases pl
  cases pu
  cases ps with
  | int _ tk =>
  have I5 : Inv X pins σ H4 { s4 with heap := s4.heap.push { cls := .type "slice", data := .fields #[.none, .none, .int (-1) tk] } } := I4.kept (t' := s4.toks) fun b ob q => Heap.get?_push_of_some _ q
  obtain ⟨its, r, ht, hz⟩ := I5.tuple hx
  have hlen := r.length
  show wpAny (model X.prog X.w) X.A (subscriptTail e (.Slice none none (some (.UnaryOp .USub (.Constant (.int 1) k p1) p2)) p3) (.ref a) (.ref s4.heap.objs.size)) (EP X pins σ Q) X.xe { s4 with heap := s4.heap.push { cls := .type "slice", data := .fields #[.none, .none, .int (-1) tk] } }
  refine tail_any (ops := [.ref a, .ref s4.heap.objs.size]) ht.typeIs PyProof.Rows.slot_tuple_getitem.lookup ?_ (by with_unfolding_all rfl)
  refine getItem_tuple_rev ht (Heap.IsSliceOf.new _ .none .none (.int (-1) tk)) ?_ (by rw [List.size_toArray]; omega)
  refine ⟨.ref _, _, I5.laid (t' := s4.toks) (o := .tup xs.reverse) (fun b ob q => Heap.get?_push_of_some _ q) (Nat.le_refl _) ?_, rfl, q _ (I5.hok.fresh (Nat.le_refl _))⟩
  exact ⟨by rw [List.length_reverse]; exact hz, its.reverse, r.reverse, _, Heap.get?_push_size _ rfl, rfl, 0, rfl⟩
/-- a list display, whose place is not sys.modules' -/
def tLstS (t : TA) : TE := fun σ H Q => t σ H fun xs H1 => xs.length ≤ sizeLine ∧ ∀ p, H1 p = none → p ≠ sysModules → Q (.ref p) (upd H1 p (.lst xs))
theorem pe_lstS {X : Cx} {es : List Expr} {pos : Pos} {t : TA} (h : PA X es t) : PE X (.List es pos) (tLstS t) := by
  refine ⟨fun pins s σ H Q I hq => ?_⟩
  refine wpAny_List_spliced (thn (h.run pos pins s σ H _ I hq) fun us s1 hh => ?_)
  obtain ⟨xs, H1, I1, r, z, q⟩ := hh
  refine ⟨r.length ▸ z, ?_⟩
  have hf : H1 _ = none := I1.hok.fresh (Nat.le_refl s1.heap.objs.size)
  have hne : s1.heap.objs.size ≠ sysModules := Nat.ne_of_gt I1.big
  exact ⟨.ref s1.heap.objs.size, upd H1 s1.heap.objs.size (.lst xs), I1.laid (o := .lst xs) (t' := s1.toks) (fun b u e => Heap.get?_push_of_some _ e) (Nat.le_refl _) ⟨z, us, 0, r, Heap.get?_push_size _ rfl⟩, rfl, q _ hf hne⟩
theorem kcr_sum {X : Cx} {K : PySem.W.Frag} (h : X.K = K) (hc : X.calm = true) : CallR X (.builtin "sum") (rSum K) := by rw [← h]; exact cr_sum hc
theorem kcr_sortedS {X : Cx} {K : PySem.W.Frag} (h : X.K = K) : CallR X (.builtin "sorted") (rSortedS K) := by rw [← h]; exact cr_sortedS
theorem ksl_tup {X : Cx} {K : PySem.W.Frag} (h : X.K = K) : SlR X (rSlA K) := by rw [← h]; exact sl_tupA
theorem ksl_list {X : Cx} {K : PySem.W.Frag} (h : X.K = K) : SlR X (rSlL K) := by rw [← h]; exact sl_list
theorem kop_catA {X : Cx} {K : PySem.W.Frag} (h : X.K = K) : OpR X (binaryOp .Add) (rCatA K) := by rw [← h]; exact op_catA
end K35
set_option maxHeartbeats 4000000
/-! P14: draws -/
namespace K35
open PySem PySem.Spec PyProof.Rows L2 Evl

def bowlAt (p : Addr) (H : Hp) : Prop := ∃ a b c : Int, H p = some (.lst [.int a, .int b, .int c])
theorem bowlAt.ex {p : Addr} {H H' : Hp} (h : bowlAt p H) (e : Ex H H') : bowlAt p H' := by
  obtain ⟨a, b, c, h⟩ := h
  exact ⟨a, b, c, e p _ h⟩
theorem Exb.mut {p l : Addr} {H H' : Hp} {o : HO} (e : Exb p H H') (h : H l = none) : Exb p H (upd H' l o) := fun a u n ha => by
  rw [upd_ne (ne_of_none ha h)]
  exact e a u n ha
theorem Exb.set {p : Addr} {H H' : Hp} {o : HO} (e : Exb p H H') : Exb p H (upd H' p o) := fun a u n ha => by
  rw [upd_ne n]
  exact e a u n ha
theorem Exb.ex {p : Addr} {H H1 H2 : Hp} (a : Exb p H H1) (b : Ex H1 H2) : Exb p H H2 := a.trans (.of b)
/-- tuples stay -/
def ExT (H H' : Hp) : Prop := ∀ a xs, H a = some (.tup xs) → H' a = some (.tup xs)
theorem ExT.refl (H : Hp) : ExT H H := fun _ _ h => h
theorem ExT.trans {H H1 H2 : Hp} (a : ExT H H1) (b : ExT H1 H2) : ExT H H2 := fun x xs h => b x xs (a x xs h)
theorem ExT.of {H H' : Hp} (e : Ex H H') : ExT H H' := fun a xs h => e a _ h
theorem ExT.b {p : Addr} {H H' : Hp} (e : Exb p H H') (hb : bowlAt p H) : ExT H H' := fun a xs h => e a _ (fun z => by
  obtain ⟨_, _, _, q⟩ := hb
  rw [z, q] at h
  cases h) h
theorem ExT.upd {H : Hp} {l : Addr} {ys zs : List V} (h : H l = some (.lst ys)) : ExT H (upd H l (.lst zs)) := fun a xs ha => by
  rw [upd_ne (fun z => by rw [z, h] at ha; cases ha)]
  exact ha
/-- data of scalars and tuples alone -/
inductive DU (H : Hp) : V → PyData → Prop
  | non : DU H .non .none
  | bl (b : Bool) : DU H (.bl b) (.bool b)
  | int (i : Int) : DU H (.int i) (.int i)
  | str (x : Str) : DU H (.str x) (.str x)
  | tup {a : Addr} {xs : List V} {ds : List PyData} : H a = some (.tup xs) → xs.length = ds.length → (∀ (i : Nat) v d, xs[i]? = some v → ds[i]? = some d → DU H v d) → DU H (.ref a) (.tuple ds)
theorem DU.mono {H H' : Hp} (e : ExT H H') {v : V} {d : PyData} (h : DU H v d) : DU H' v d := by
  induction h with
  | non => exact .non
  | bl b => exact .bl b
  | int i => exact .int i
  | str x => exact .str x
  | tup h l _ ih => exact .tup (e _ _ h) l fun i v d h1 h2 => ih i v d h1 h2
theorem dts_of {p : Addr} {H : Hp} : ∀ {xs : List V} {ds : List PyData}, xs.length = ds.length → (∀ (i : Nat) v d, xs[i]? = some v → ds[i]? = some d → DT p H v d) → DTs p H xs ds
  | [], [], _, _ => .nil
  | x :: xs, d :: ds, l, h => .cons (h 0 x d rfl rfl) (dts_of (by simpa using l) fun i v e h1 h2 => h (i + 1) v e (by simpa using h1) (by simpa using h2))
  | [], _ :: _, l, _ => by simp at l
  | _ :: _, [], l, _ => by simp at l
theorem tup_ne {p a : Addr} {H : Hp} {xs : List V} (hb : bowlAt p H) (h : H a = some (.tup xs)) : a ≠ p := fun z => by
  obtain ⟨_, _, _, q⟩ := hb
  rw [z, q] at h
  cases h
theorem DU.dt {p : Addr} {H : Hp} (hb : bowlAt p H) {v : V} {d : PyData} (h : DU H v d) : DT p H v d := by
  induction h with
  | non => exact .non
  | bl b => exact .bl b
  | int i => exact .int i
  | str x => exact .str x
  | tup h l _ ih => exact .tup (tup_ne hb h) h (dts_of l fun i v d h1 h2 => ih i v d h1 h2)
/-- small data -/
def Dzu (n k : Nat) (H : Hp) (v : V) : Prop := ∃ d, DU H v d ∧ Lf d ∧ szD d ≤ n ∧ d.depth ≤ k
theorem Dzu.mono {n k : Nat} {H H' : Hp} {v : V} (e : ExT H H') (h : Dzu n k H v) : Dzu n k H' v := by
  obtain ⟨d, h1, h2⟩ := h
  exact ⟨d, h1.mono e, h2⟩
def Dz (n k : Nat) (p : Addr) (H : Hp) (v : V) : Prop := ∃ d, DT p H v d ∧ Lf d ∧ szD d ≤ n ∧ d.depth ≤ k
theorem Dzu.z {n k : Nat} {p : Addr} {H : Hp} {v : V} (hb : bowlAt p H) (h : Dzu n k H v) : Dz n k p H v := by
  obtain ⟨d, h1, h2⟩ := h
  exact ⟨d, h1.dt hb, h2⟩
theorem Dz.mono {n k : Nat} {p : Addr} {H H' : Hp} {v : V} (e : Exb p H H') (h : Dz n k p H v) : Dz n k p H' v := by
  obtain ⟨d, h1, h2⟩ := h
  exact ⟨d, h1.keep e, h2⟩
theorem Dzu.le {n k n' k' : Nat} {H : Hp} {v : V} (h : Dzu n k H v) (a : n ≤ n') (b : k ≤ k') : Dzu n' k' H v := by
  obtain ⟨d, h1, h2, h3, h4⟩ := h
  exact ⟨d, h1, h2, by omega, by omega⟩
theorem Dz.le {n k n' k' : Nat} {p : Addr} {H : Hp} {v : V} (h : Dz n k p H v) (a : n ≤ n') (b : k ≤ k') : Dz n' k' p H v := by
  obtain ⟨d, h1, h2, h3, h4⟩ := h
  exact ⟨d, h1, h2, by omega, by omega⟩
theorem depth_all {ds : List PyData} {k : Nat} (h : ∀ d, d ∈ ds → d.depth ≤ k) : PyData.depthAll ds ≤ k := by
  induction ds with
  | nil => exact Nat.zero_le _
  | cons d r ih =>
    rw [PyData.depthAll]
    exact Nat.max_le.mpr ⟨h d List.mem_cons_self, ih fun e he => h e (List.mem_cons_of_mem _ he)⟩
theorem szs_all {ds : List PyData} {n : Nat} (h : ∀ d, d ∈ ds → szD d ≤ n) : szs ds ≤ (n + 2) * ds.length := by
  induction ds with
  | nil => exact Nat.zero_le _
  | cons d r ih =>
    rw [szs, List.length_cons, Nat.mul_succ]
    have a := h d List.mem_cons_self
    have b := ih fun e he => h e (List.mem_cons_of_mem _ he)
    omega
/-- a tuple of small data -/
theorem dzu_tup {n k : Nat} {H : Hp} {a : Addr} {xs : List V} (h : H a = some (.tup xs)) (hx : ∀ v, v ∈ xs → Dzu n k H v) : Dzu ((n + 2) * xs.length + 10) (k + 1) H (.ref a) := by
  have : ∃ ds : List PyData, xs.length = ds.length ∧ (∀ (i : Nat) v d, xs[i]? = some v → ds[i]? = some d → DU H v d) ∧ ∀ d, d ∈ ds → Lf d ∧ szD d ≤ n ∧ d.depth ≤ k := by
    clear h
    induction xs with
    | nil => exact ⟨[], rfl, fun i v d h => by simp at h, fun d hd => by simp at hd⟩
    | cons x xs ih =>
      obtain ⟨ds, h1, h2, h3⟩ := ih fun v hv => hx v (List.mem_cons_of_mem _ hv)
      obtain ⟨d, k1, k2⟩ := hx x List.mem_cons_self
      refine ⟨d :: ds, by simp [h1], fun i v e hv he => ?_, fun e he => ?_⟩
      · cases i with
        | zero =>
          simp at hv he
          subst hv he
          exact k1
        | succ i => exact h2 i v e (by simpa using hv) (by simpa using he)
      · rcases List.mem_cons.mp he with rfl | he
        · exact k2
        · exact h3 e he
  obtain ⟨ds, h1, h2, h3⟩ := this
  refine ⟨.tuple ds, .tup h h1 h2, .tup fun d hd => (h3 d hd).1, ?_, ?_⟩
  · rw [szD, h1]
    have := szs_all fun d hd => (h3 d hd).2.1
    omega
  · rw [PyData.depth]
    have := depth_all fun d hd => (h3 d hd).2.2
    omega
def StrOk (z : Str) : Prop := z.length ≤ 6 ∧ (z.cps.toList.all fun c => decide (c < 16 ^ 8)) = true
theorem dzu_str {H : Hp} {z : Str} (h : StrOk z) : Dzu 70 0 H (.str z) := ⟨.str z, .str z, .str z (by have := h.1; omega) h.2, by rw [szD]; have := h.1; omega, Nat.le_refl _⟩
theorem dzu_int {H : Hp} {i : Int} (h : i.natAbs ≤ 16) : Dzu 10 0 H (.int i) := ⟨.int i, .int i, .int i h, Nat.le_refl _, Nat.le_refl _⟩
theorem dzu_pr {H : Hp} {a : Addr} {x : Int × Int} (h : H a = some (.tup (prV x))) (h1 : x.1.natAbs ≤ 16) (h2 : x.2.natAbs ≤ 16) : Dzu 34 1 H (.ref a) := by
  have := dzu_tup (n := 10) (k := 0) h fun v hv => by
    rcases List.mem_cons.mp hv with rfl | hv
    · exact dzu_int h1
    · rcases List.mem_cons.mp hv with rfl | hv
      · exact dzu_int h2
      · simp at hv
  exact this
theorem low_small {a b : Int} (h : 0 < b) (ha : a.natAbs ≤ 16) (hb : b ≤ 16) : (lowF a b).1.natAbs ≤ 16 ∧ (lowF a b).2.natAbs ≤ 16 := by
  have := low_pos (a := a) h
  refine ⟨?_, by omega⟩
  obtain ⟨e1, _⟩ := low_eq (a := a) h
  have g := gcd_pos (a := a) h
  have : (lowF a b).1.natAbs * Int.gcd a b = a.natAbs := by
    have q := congrArg Int.natAbs e1
    rw [Int.natAbs_mul] at q
    simpa using q
  have : (lowF a b).1.natAbs ≤ (lowF a b).1.natAbs * Int.gcd a b := Nat.le_mul_of_pos_right _ g
  omega

/-! ### readings with the bowl -/
def Go (p : Addr) (te : TE) (σ : L2.St) (H : Hp) (C : V → Hp → Prop) : Prop := bowlAt p H → ∀ Q : VK, (∀ v H2, Exb p H H2 → bowlAt p H2 → C v H2 → Q v H2) → te σ H Q
def spPull : Sp := fun vs H Q _ => ∃ p top, vs = [.ref p, .int top] ∧ 0 < top ∧ top ≤ 1000000 ∧ bowlAt p H ∧ ∀ (r : Int) H2, 0 ≤ r → r < top → Exb p H H2 → bowlAt p H2 → Q (.int r) H2
def spOne : Sp := fun vs H Q _ => ∃ p l xs, vs = [.ref p, .ref l] ∧ l ≠ p ∧ H l = some (.lst xs) ∧ 0 < xs.length ∧ xs.length ≤ 1000000 ∧ bowlAt p H ∧ ∀ v H2, v ∈ xs → Exb p H H2 → bowlAt p H2 → Q v H2
section
variable {p : Addr} {σ : L2.St} {H : Hp} {ta tb te : TE} {C : V → Hp → Prop}
theorem go_pull {top : Int} {E : XK} (ha : Ev ta σ H (.ref p)) (hb : Ev tb σ H (.int top)) (h0 : 0 < top) (h1 : top ≤ 1000000) :
    Go p (tCall spPull [] E (tCons ta (tCons tb tNil))) σ H (fun v _ => ∃ r : Int, v = .int r ∧ 0 ≤ r ∧ r < top) := fun hB Q q =>
  ha H (Ex.refl H) _ fun H1 e1 => hb H1 e1 _ fun H2 e2 => ⟨p, top, rfl, h0, h1, hB.ex (e1.trans e2), fun r H3 r0 r1 e3 b3 => q _ H3 ((Exb.of (e1.trans e2)).trans e3) b3 ⟨r, rfl, r0, r1⟩⟩
theorem go_one {l : Addr} {xs : List V} {E : XK} (ha : Ev ta σ H (.ref p)) (hb : Ev tb σ H (.ref l)) (hl : H l = some (.lst xs)) (n : l ≠ p) (h0 : 0 < xs.length) (h1 : xs.length ≤ 1000000) :
    Go p (tCall spOne [] E (tCons ta (tCons tb tNil))) σ H (fun v _ => v ∈ xs) := fun hB Q q =>
  ha H (Ex.refl H) _ fun H1 e1 => hb H1 e1 _ fun H2 e2 => ⟨p, l, xs, rfl, n, (e1.trans e2) l _ hl, h0, h1, hB.ex (e1.trans e2), fun v H3 hv e3 b3 => q _ H3 ((Exb.of (e1.trans e2)).trans e3) b3 hv⟩
theorem bowl_new {l : Addr} (hB : bowlAt p H) (h : H l = none) : l ≠ p := fun z => by
  obtain ⟨_, _, _, q⟩ := hB
  rw [z, q] at h
  cases h
theorem go_oneL {xs : List V} {E : XK} (ha : Ev ta σ H (.ref p)) (hb : EvL tb σ H xs) (h0 : 0 < xs.length) (h1 : xs.length ≤ 1000000) :
    Go p (tCall spOne [] E (tCons ta (tCons tb tNil))) σ H (fun v _ => v ∈ xs) := fun hB Q q =>
  ha H (Ex.refl H) _ fun H1 e1 => hb H1 e1 _ fun l H2 nl e2 hl => ⟨p, l, xs, rfl, bowl_new (hB.ex e1) nl, hl, h0, h1, hB.ex (e1.trans e2), fun v H3 hv e3 b3 => q _ H3 ((Exb.of (e1.trans e2)).trans e3) b3 hv⟩
theorem go_ev {v : V} (h : Ev te σ H v) : Go p te σ H (fun x H2 => x = v ∧ Ex H H2) := fun hB Q q => h H (Ex.refl H) _ fun H2 e2 => q v H2 (.of e2) (hB.ex e2) ⟨rfl, e2⟩
theorem go_op {r : R2} {Ca : V → Hp → Prop} (ha : Go p ta σ H Ca) (hb : ∀ x H1, Exb p H H1 → bowlAt p H1 → Ca x H1 → Go p tb σ H1 fun y H2 => ∀ Q : VK, (∀ z H3, Exb p H2 H3 → bowlAt p H3 → C z H3 → Q z H3) → r x y H2 Q) :
    Go p (tOp r ta tb) σ H C := fun hB Q q => ha hB _ fun x H1 e1 b1 c1 => hb x H1 e1 b1 c1 b1 _ fun y H2 e2 b2 c2 => c2 Q fun z H3 e3 b3 c3 => q z H3 ((e1.trans e2).trans e3) b3 c3
theorem go_imp {C' : V → Hp → Prop} (h : Go p te σ H C) (i : ∀ v H1, Exb p H H1 → bowlAt p H1 → C v H1 → C' v H1) : Go p te σ H C' := fun hB Q q => h hB Q fun v H2 e b c => q v H2 e b (i v H2 e b c)
/-- ints: a drawn one, an operation with a constant -/
theorem go_opI {f : Int → Int → V} {c : Int} {A : Int → Prop} (ha : Go p ta σ H fun v _ => ∃ r : Int, v = .int r ∧ A r) : Go p (tOp (rI0 f) ta (tC (.int c))) σ H fun v _ => ∃ r : Int, v = f r c ∧ A r :=
  fun hB Q q => ha hB _ fun v H1 e1 b1 ⟨r, er, ar⟩ => by
    subst er
    exact ⟨r, c, rfl, rfl, q _ H1 e1 b1 ⟨r, rfl, ar⟩⟩
theorem go_Iop {f : Int → Int → V} {c : Int} {A : Int → Prop} (hb : Go p tb σ H fun v _ => ∃ r : Int, v = .int r ∧ A r) : Go p (tOp (rI0 f) (tC (.int c)) tb) σ H fun v _ => ∃ r : Int, v = f c r ∧ A r := fun hB Q q =>
  hb hB _ fun v H1 e1 b1 ⟨r, er, ar⟩ => by
    subst er
    exact ⟨c, r, rfl, rfl, q _ H1 e1 b1 ⟨r, rfl, ar⟩⟩
/-- statements -/
theorem g_asg {D : Ends} {i : Nat} {tz : TS} (hB : bowlAt p H) (h : Go p te σ H C) (k : ∀ v H1, Exb p H H1 → bowlAt p H1 → C v H1 → tz D (σ.set i (some v)) H1) : tSeq (tAsg te (gName i)) tz D σ H := h hB _ k
theorem g_ret {D : Ends} (hB : bowlAt p H) (h : Go p te σ H C) (k : ∀ v H1, Exb p H H1 → bowlAt p H1 → C v H1 → D.rt v H1) : tRet te D σ H := h hB _ k
/-- an iterator's source, the bowl aside -/
structure SrcB (p : Addr) (J : It) (H : Hp) (xs : List V) : Prop where
  go : ∀ H1, Exb p H H1 → ∀ i, i < xs.length → J.go i H1
  yld : ∀ H1, Exb p H H1 → ∀ i x H2, i < xs.length → J.yld i H1 x H2 → H2 = H1 ∧ xs[i]? = some x
  stop : ∀ H1, Exb p H H1 → J.stop xs.length H1
def GoI (p : Addr) (wi : TI) (σ : L2.St) (H : Hp) (xs : List V) : Prop := bowlAt p H → ∀ R : It → Hp → Prop, (∀ J H2, Exb p H H2 → bowlAt p H2 → SrcB p J H2 xs → R J H2) → wi σ H R
theorem gi_list {K : PySem.W.Frag} {tl : TE} {a : Addr} {xs : List V} (h : Ev tl σ H (.ref a)) (ha : H a = some (.lst xs)) (n : a ≠ p) : GoI p (iList K tl) σ H xs := fun hB R q =>
  h H (Ex.refl H) _ fun H1 e1 => ⟨a, rfl, ⟨xs, sq_of (e1 a _ ha)⟩, q _ H1 (.of e1) (hB.ex e1)
    ⟨fun H2 e2 i hi => ⟨xs, xs[i], sq_of (e2 a _ n (e1 a _ ha)), by simp [hi]⟩, fun H2 e2 i x H3 _ ⟨e, r⟩ => ⟨e, r xs (sq_of (e2 a _ n (e1 a _ ha)))⟩, fun H2 e2 => ⟨xs, sq_of (e2 a _ n (e1 a _ ha)), Nat.le_refl _⟩⟩⟩
theorem gi_rng {n : Int} (h : Ev te σ H (.int n)) (h1 : -1000 ≤ n) (h2 : n ≤ 100000) : GoI p (iRng1 (tCons te tNil)) σ H (rngV n.toNat) := fun hB R q =>
  h H (Ex.refl H) _ fun H1 e1 => ⟨n, rfl, by omega, by omega, q _ H1 (.of e1) (hB.ex e1) (by
    have S := src_rng (H := H1) n.toNat
    have l : (rngV n.toNat).length = n.toNat := by simp [rngV]
    refine ⟨fun H2 e2 i hi => by rw [l] at hi; exact hi, fun H2 e2 i x H3 hi ⟨q, r⟩ => ⟨q, ?_⟩, fun H2 e2 => by rw [l]; exact Nat.le_refl _⟩
    rw [l] at hi
    subst r
    simp [rngV, hi])⟩
theorem go_comp {wi : TI} {g : TG} {vs : List Nat} {xs : List V} (hI : GoI p wi σ H xs) (hn : xs.length ≤ 40000)
    (hs : ∀ (i : Nat) x H1, Exb p H H1 → bowlAt p H1 → xs[i]? = some x → ∃ σ2, Tg g x (wipe σ vs) H1 σ2 ∧ wipe σ2 vs = wipe σ vs ∧ Go p te σ2 H1 C) (mono : ∀ v H1 H2, ExT H1 H2 → C v H1 → C v H2) :
    Go p (tLc wi g tYes te vs) σ H (fun v H2 => ∃ l zs, v = .ref l ∧ H l = none ∧ H2 l = some (.lst zs) ∧ zs.length = xs.length ∧ ∀ z, z ∈ zs → C z H2) := fun hB Q q => hI hB _ fun J H1 e1 b1 S => fun Dl hD => by
  have nD : Dl ≠ p := bowl_new b1 hD
  have bUp : ∀ {H' : Hp} {o : HO}, bowlAt p H' → bowlAt p (upd H' Dl o) := fun {H' o} hb => by
    obtain ⟨a, b, c, h⟩ := hb
    exact ⟨a, b, c, by rw [upd_ne (Ne.symm nD)]; exact h⟩
  have hD0 : H Dl = none := by
    cases h : H Dl with
    | none => rfl
    | some o =>
      rw [e1 Dl _ nD h] at hD
      cases hD
  refine ⟨fun i m H' => m = xs.length - i ∧ i ≤ xs.length ∧ Exb p H1 H' ∧ bowlAt p H' ∧ ∃ zs, H' Dl = some (.lst zs) ∧ zs.length = i ∧ ∀ z, z ∈ zs → C z H',
    ⟨xs.length, rfl, Nat.zero_le _, Exb.mut (Exb.refl _ _) hD, bUp b1, [], upd_same, rfl, fun z hz => by simp at hz⟩, ?_⟩
  rintro i m H' ⟨rfl, hi, ex, hb, zs, hl, lz, hz⟩
  by_cases hlt : i < xs.length
  · refine .inr ⟨S.go H' ex i hlt, fun H'' => i + 1 ≤ xs.length ∧ Exb p H1 H'' ∧ bowlAt p H'' ∧ ∃ zs, H'' Dl = some (.lst zs) ∧ zs.length = i + 1 ∧ ∀ z, z ∈ zs → C z H'', fun H'' ⟨a, b, c, d⟩ => ⟨xs.length - (i + 1), by omega, rfl, a, b, c, d⟩, fun x H'' hy => ?_⟩
    obtain ⟨rfl, hx⟩ := S.yld H' ex i x H'' hlt hy
    obtain ⟨σ2, tg, w, hg⟩ := hs i x H'' (e1.trans ex) hb hx
    refine tg _ ⟨w, ?_⟩
    show te σ2 H'' _
    refine hg hb _ fun v H4 e4 b4 c4 => ⟨zs, e4 Dl _ nD hl, sz_lt (by omega), hlt, Exb.mut (ex.trans e4) hD, bUp b4, zs ++ [v], upd_same, by simp [lz], fun z hzm => ?_⟩
    have up : ExT H4 (upd H4 Dl (.lst (zs ++ [v]))) := ExT.upd (e4 Dl _ nD hl)
    rcases List.mem_append.mp hzm with hzm | hzm
    · exact mono z H4 _ up (mono z H'' _ (.b e4 hb) (hz z hzm))
    · have : z = v := by simpa using hzm
      subst this
      exact mono z H4 _ up c4
  · have e : i = xs.length := by omega
    subst e
    exact .inl ⟨S.stop H' ex, q (.ref Dl) H' (e1.trans ex) hb ⟨Dl, zs, rfl, hD0, hl, lz, hz⟩⟩
end
section
variable {P : Program} {w : World} {K : PySem.W.Frag} {mg : Str → Option Value} {base : Heap} {f : Addr} {fd : FuncData}
theorem ev_int1 {σ : L2.St} {H : Hp} {te : TE} {i : Int} (h : Ev te σ H (.int i)) : Ev (tCB (fun xs H Q => (∃ i, xs = [.int i] ∧ Q (.int i) H) ∨ ∃ k, xs = [.bl k] ∧ Q (.int (if k then 1 else 0)) H) (tCons te tNil)) σ H (.int i) :=
  fun H1 e Q q => h H1 e _ fun H2 e2 => .inl ⟨i, rfl, q H2 e2⟩
theorem sc__law_pull : FnScope ["_law_bowl_here", "_law_top", "_law_figure", "_law_base"] ["_law_bowl_here", "_law_top"] (defScope (topS 45)) :=
  ⟨rfl, rfl, rfl, by decide +kernel, rfl, by decide +kernel, by decide +kernel⟩
theorem c__law_pull (F : FnP K "_law_pull" (topS 45) f fd) (hm : mg "_law_pull" = some (.ref f)) (G : Nm K mg) : C8.Cal P w K mg base 1 "_law_pull" spPull [] := by
  have nd := sc__law_pull.nd
  refine cal_of F hm sc__law_pull (fun _ _ _ _ _ _ us hl => match us, hl with | [_, _], _ => rfl) (fun vs H Q E h => ?_) fun cdv A outer s H vs Q E hr h => ?_
  · obtain ⟨_, _, rfl, _⟩ := h
    rfl
  obtain ⟨p, top, rfl, h0, h1, ⟨a, b, c, hp⟩, hQ⟩ := h
  refine ⟨_, (pss_cons (ps_if (pt_cmpR op_gt (pe_ix (kix_list (K := K) rfl) (pv 0) pe_int (fun _ _ => rfl)) pe_int (nomark _)) (pss_cons (ps_set (i := 2) nd rfl (Or.inl rfl) (pe_op op_mod (pe_callTy call_int1 (by rfl) G.n_int PyProof.Rows.boot_int (pa_cons (pe_ix (kix_list (K := K) rfl) (pv 0) pe_int (fun _ _ => rfl)) pa_nil)) (pv 1)))
  (pss_cons (ps_asg (pe_op op_fdivW (pe_ix (kix_list (K := K) rfl) (pv 0) pe_int (fun _ _ => rfl)) (pv 1)) (pg_sub (pv 0) pe_int set_list))
  (pss_one (ps_ret (pv 2))))) pss_nil)
  (pss_cons (ps_asg (pe_op op_add (pe_ix (kix_list (K := K) rfl) (pv 0) pe_int (fun _ _ => rfl)) pe_int) (pg_sub (pv 0) pe_int set_list))
  (pss_cons (ps_set (i := 3) nd rfl (Or.inl rfl) (pe_op op_mod (pe_callTy call_int1 (by rfl) G.n_int PyProof.Rows.boot_int (pa_cons (pe_op op_add (pe_ix (kix_list (K := K) rfl) (pv 0) pe_int (fun _ _ => rfl)) (pe_op op_mul pe_int (pe_ix (kix_list (K := K) rfl) (pv 0) pe_int (fun _ _ => rfl)))) pa_nil)) pe_int))
  (pss_cons (ps_asg (pe_op op_mod (pe_callTy call_int1 (by rfl) G.n_int PyProof.Rows.boot_int (pa_cons (pe_op op_add (pe_op op_add (pe_op op_mul (pv 3) (pe_op op_add (pe_op op_mod (pe_callTy call_int1 (by rfl) G.n_int PyProof.Rows.boot_int (pa_cons (pv 3) pa_nil)) pe_int) pe_int)) (pe_op op_mul pe_int (pe_ix (kix_list (K := K) rfl) (pv 0) pe_int (fun _ _ => rfl)))) pe_int) pa_nil)) pe_int) (pg_sub (pv 0) pe_int set_list))
  (pss_one (ps_ret (pe_op op_mod (pe_op op_fdivW (pe_callTy call_int1 (by rfl) G.n_int PyProof.Rows.boot_int (pa_cons (pe_ix (kix_list (K := K) rfl) (pv 0) pe_int (fun _ _ => rfl)) pa_nil)) pe_int) (pv 1)))))))), ?_⟩
  have ix0 : ∀ {H' : Hp} {x y z : Int}, H' p = some (.lst [.int x, .int y, .int z]) → RV (rIxL K) (.ref p) (.int 0) H' (.int x) := fun h => rv_ixL (sq_of h) (at_nat 0 rfl)
  have ix1 : ∀ {H' : Hp} {x y z : Int}, H' p = some (.lst [.int x, .int y, .int z]) → RV (rIxL K) (.ref p) (.int 1) H' (.int y) := fun h => rv_ixL (sq_of h) (at_nat 1 rfl)
  have ix2 : ∀ {H' : Hp} {x y z : Int}, H' p = some (.lst [.int x, .int y, .int z]) → RV (rIxL K) (.ref p) (.int 2) H' (.int z) := fun h => rv_ixL (sq_of h) (at_nat 2 rfl)
  refine q_when (et_test (ev_op (ev_op (ev_var rfl) ev_c (ix0 hp)) ev_c rv_I0)) (fun hb H1 e1 => ?_) fun hb H1 e1 => ?_
  · have hp1 := e1 p _ hp
    refine q_asg (ev_op (ev_int1 (ev_op (ev_var rfl) ev_c (ix0 hp1))) (ev_var rfl) (rv_I h0)) fun H2 e2 => ?_
    have hp2 := e2 p _ hp1
    refine q_setL (j := 0) hp2 (ev_op (ev_op (ev_var rfl) ev_c (ix0 hp2)) (ev_var rfl) (rv_I (div_ok h0 (by omega)))) (ev_var rfl) ev_c (show 0 < 3 by decide) fun H3 e3 => ?_
    refine s_ret (ev_var rfl) fun H4 e4 => hQ _ H4 (Int.emod_nonneg _ (by omega)) (Int.emod_lt_of_pos _ h0) ((Exb.set (.of ((e1.trans e2).trans e3))).ex e4) ?_
    exact bowlAt.ex ⟨_, _, _, upd_same⟩ e4
  · have hp1 := e1 p _ hp
    refine q_setL (j := 2) hp1 (ev_op (ev_op (ev_var rfl) ev_c (ix2 hp1)) ev_c rv_I0) (ev_var rfl) ev_c (show 2 < 3 by decide) fun H2 e2 => ?_
    have b2 : upd H2 p (.lst ([V.int a, .int b, .int c].set 2 (.int (c + 1)))) p = some (.lst [.int a, .int b, .int (c + 1)]) := upd_same
    generalize hG : upd H2 p (.lst ([V.int a, .int b, .int c].set 2 (.int (c + 1)))) = G2 at b2
    have x2 : Exb p H G2 := by
      rw [← hG]
      exact Exb.set (.of (e1.trans e2))
    refine q_asg (ev_op (ev_int1 (ev_op (ev_op (ev_var rfl) ev_c (ix1 b2)) (ev_op ev_c (ev_op (ev_var rfl) ev_c (ix2 b2)) (rv_I (.inl ⟨by omega, by omega⟩))) rv_I0)) ev_c (rv_I (by decide))) fun H3 e3 => ?_
    have b3 := e3 p _ b2
    generalize hd : (b + 40009 * (c + 1)) % 2147482951 = d
    have d0 : 0 ≤ d := by
      rw [← hd]
      exact Int.emod_nonneg _ (by decide)
    have d1 : d < 2147482951 := by
      rw [← hd]
      exact Int.emod_lt_of_pos _ (by decide)
    refine q_setL (j := 1) b3 (ev_op (ev_int1 (ev_op (ev_op (ev_op (ev_var rfl) (ev_op (ev_op (ev_int1 (ev_var rfl)) ev_c (rv_I (by decide))) ev_c rv_I0) (rv_I (.inl ⟨by omega, by omega⟩))) (ev_op ev_c (ev_op (ev_var rfl) ev_c (ix2 b3)) (rv_I (.inl ⟨by omega, by omega⟩))) rv_I0) ev_c rv_I0)) ev_c (rv_I (by decide))) (ev_var rfl) ev_c (show 1 < 3 by decide) fun H4 e4 => ?_
    generalize (d * (d % 28001 + 36007) + 53 * (c + 1) + 9) % 2147482951 = y
    have b4 : upd H4 p (.lst ([V.int a, .int b, .int (c + 1)].set 1 (.int y))) p = some (.lst [.int a, .int y, .int (c + 1)]) := upd_same
    generalize hG4 : upd H4 p (.lst ([V.int a, .int b, .int (c + 1)].set 1 (.int y))) = G4 at b4
    have x4 : Exb p H G4 := by
      rw [← hG4]
      exact Exb.set (x2.ex (e3.trans e4))
    refine s_ret (ev_op (ev_op (ev_int1 (ev_op (ev_var rfl) ev_c (ix1 b4))) ev_c (rv_I (div_ok (by decide) (by decide)))) (ev_var rfl) (rv_I h0)) fun H5 e5 => hQ _ H5 (Int.emod_nonneg _ (by omega)) (Int.emod_lt_of_pos _ h0) (x4.ex e5) ?_
    exact bowlAt.ex ⟨_, _, _, b4⟩ e5
theorem sc__law_one_of : FnScope ["_law_bowl_here", "_law_some"] ["_law_bowl_here", "_law_some"] (defScope (topS 46)) :=
  ⟨rfl, rfl, rfl, by decide +kernel, rfl, by decide +kernel, by decide +kernel⟩
theorem c__law_one_of (F : FnP K "_law_one_of" (topS 46) f fd) (hm : mg "_law_one_of" = some (.ref f)) (G : Nm K mg)
    (c__law_pull : C8.Cal P w K mg base 1 "_law_pull" spPull []) : C8.Cal P w K mg base 2 "_law_one_of" spOne [] := by
  have nd := sc__law_one_of.nd
  refine cal_of F hm sc__law_one_of (fun _ _ _ _ _ _ us hl => match us, hl with | [_, _], _ => rfl) (fun vs H Q E h => ?_) fun cdv A outer s H vs Q E hr h => ?_
  · obtain ⟨_, _, _, rfl, _⟩ := h
    rfl
  obtain ⟨p, l, xs, rfl, nl, hl, h0, h1, hB, hQ⟩ := h
  refine ⟨_, (pss_one (ps_ret (pe_ix (kix_list (K := K) rfl) (pv 1) (C8.pe_c c__law_pull hr (by decide) rfl (pa_cons (pv 0) (pa_cons (pe_callB (kcall_len (K := K) rfl) (by rfl) G.n_len PySem.boot_len (pa_cons (pv 1) pa_nil)) pa_nil))) (fun _ _ => rfl)))), ?_⟩
  refine g_ret hB (go_op (C := fun v _ => v ∈ xs) (go_ev (ev_var rfl)) fun x H1 e1 b1 c1 => ?_) fun v H1 e1 b1 hv => hQ v H1 hv e1 b1
  obtain ⟨rfl, e1'⟩ := c1
  refine go_imp (go_pull (ev_var rfl) (ev_lenL (ev_var rfl) (sq_of (e1' l _ hl))) (by omega) (by omega)) fun y H2 e2 b2 ⟨r, er, r0, r1⟩ => ?_
  subst er
  intro Q q
  obtain ⟨j, rfl⟩ := Int.eq_ofNat_of_zero_le r0
  have hj : j < xs.length := by omega
  exact ⟨l, xs, _, xs[j], rfl, rfl, sq_of (e2 l _ nl (e1' l _ hl)), at_nat j (by simp [hj]), q _ H2 (Exb.refl _ _) b2 (List.getElem_mem hj)⟩
/-- a draw of small data -/
def PrU (pre : List V → Hp → Addr → Nat → Nat → Prop) : Sp := fun vs H Q _ => ∃ p n k, pre vs H p n k ∧ bowlAt p H ∧ ∀ v H2, Exb p H H2 → bowlAt p H2 → Dzu n k H2 v → Q v H2
def PrZ (pre : List V → Hp → Addr → Nat → Nat → Prop) : Sp := fun vs H Q _ => ∃ p n k, pre vs H p n k ∧ bowlAt p H ∧ ∀ v H2, Exb p H H2 → bowlAt p H2 → Dz n k p H2 v → Q v H2
theorem go_u {p : Addr} {n k : Nat} {pre : List V → Hp → Addr → Nat → Nat → Prop} {σ : L2.St} {H : Hp} {tas : TA} {vs : List V} {E : XK} (h : EvA tas σ H vs) (hp : ∀ H1, Ex H H1 → pre vs H1 p n k) :
    Go p (tCall (PrU pre) [] E tas) σ H (fun v H2 => Dzu n k H2 v) := fun hB Q q => h H (Ex.refl H) _ fun H1 e1 => ⟨p, n, k, by rw [List.append_nil]; exact hp H1 e1, hB.ex e1, fun v H2 e2 b2 z => q v H2 ((Exb.of e1).trans e2) b2 z⟩
theorem go_z {p : Addr} {n k : Nat} {pre : List V → Hp → Addr → Nat → Nat → Prop} {σ : L2.St} {H : Hp} {tas : TA} {vs : List V} {E : XK} (h : EvA tas σ H vs) (hp : ∀ H1, Ex H H1 → pre vs H1 p n k) :
    Go p (tCall (PrZ pre) [] E tas) σ H (fun v H2 => Dz n k p H2 v) := fun hB Q q => h H (Ex.refl H) _ fun H1 e1 => ⟨p, n, k, by rw [List.append_nil]; exact hp H1 e1, hB.ex e1, fun v H2 e2 b2 z => q v H2 ((Exb.of e1).trans e2) b2 z⟩
/-- _law_low of drawn small ints -/
theorem go_low {p : Addr} {σ : L2.St} {H : Hp} {ta tb : TE} {E : XK} {Aa : Int → Prop} (ha : Go p ta σ H fun v _ => ∃ r : Int, v = .int r ∧ r.natAbs ≤ 16)
    (hb : ∀ H1, Exb p H H1 → bowlAt p H1 → Go p tb σ H1 fun v _ => ∃ r : Int, v = .int r ∧ 0 < r ∧ r ≤ 16) : Go p (tCall (PrW preLow) [] E (tCons ta (tCons tb tNil))) σ H (fun v H2 => Dzu 34 1 H2 v) := fun hB Q q =>
  ha hB _ fun x H1 e1 b1 ⟨i, ei, hi⟩ => hb H1 e1 b1 b1 _ fun y H2 e2 b2 ⟨j, ej, j0, j1⟩ => by
    subst ei ej
    refine ⟨prV (lowF i j), ⟨i, j, rfl, j0, by omega, rfl⟩, fun a H3 e3 h3 => q _ H3 ((e1.trans e2).ex e3) (b2.ex e3) ?_⟩
    have := low_small (a := i) j0 hi j1
    exact dzu_pr h3 this.1 this.2
theorem sc__law_number : FnScope ["_law_bowl_here"] ["_law_bowl_here"] (defScope (topS 49)) :=
  ⟨rfl, rfl, rfl, by decide +kernel, rfl, by decide +kernel, by decide +kernel⟩
def preNum : List V → Hp → Addr → Nat → Nat → Prop := fun vs _ p n k => vs = [.ref p] ∧ n = 34 ∧ k = 1
theorem c__law_number (F : FnP K "_law_number" (topS 49) f fd) (hm : mg "_law_number" = some (.ref f)) (G : Nm K mg)
    (c__law_pull : C8.Cal P w K mg base 1 "_law_pull" spPull []) (c__law_one_of : C8.Cal P w K mg base 2 "_law_one_of" spOne []) (c__law_low : C8.Cal P w K mg base 1 "_law_low" (PrW preLow) []) :
    C8.Cal P w K mg base 3 "_law_number" (PrU preNum) [] := by
  have nd := sc__law_number.nd
  refine cal_of F hm sc__law_number (fun _ _ _ _ _ _ us hl => match us, hl with | [_], _ => rfl) (fun vs H Q E h => ?_) fun cdv A outer s H vs Q E hr h => ?_
  · obtain ⟨_, _, _, ⟨rfl, _⟩, _⟩ := h
    rfl
  obtain ⟨p, _, _, ⟨rfl, rfl, rfl⟩, hB, hQ⟩ := h
  refine ⟨_, (pss_one (ps_ret (C8.pe_c c__law_low hr (by decide) rfl (pa_cons (pe_op op_sub (C8.pe_c c__law_pull hr (by decide) rfl (pa_cons (pv 0) (pa_cons pe_int pa_nil))) pe_int) (pa_cons (C8.pe_c c__law_one_of hr (by decide) rfl (pa_cons (pv 0) (pa_cons (pe_lst (pa_cons pe_int (pa_cons pe_int (pa_cons pe_int (pa_cons pe_int pa_nil))))) pa_nil))) pa_nil))))), ?_⟩
  refine g_ret hB (go_low (Aa := fun _ => True) (go_imp (go_opI (go_pull (ev_var rfl) ev_c (by decide) (by decide))) fun v H1 _ _ ⟨r, er, r0, r1⟩ => ⟨_, er, by omega⟩) fun H1 e1 b1 => go_imp (go_oneL (ev_var rfl) (el_lst (ea_cons ev_c (ea_cons ev_c (ea_cons ev_c (ea_cons ev_c ea_nil)))) (show 4 ≤ 100000 by decide)) (show 0 < 4 by decide) (show 4 ≤ 1000000 by decide)) fun v H1 _ _ hv => ?_) fun v H1 e1 b1 z => hQ v H1 e1 b1 z
  simp only [List.mem_cons, List.not_mem_nil, or_false] at hv
  rcases hv with rfl | rfl | rfl | rfl
  · exact ⟨1, rfl, by decide, by decide⟩
  · exact ⟨1, rfl, by decide, by decide⟩
  · exact ⟨2, rfl, by decide, by decide⟩
  · exact ⟨3, rfl, by decide, by decide⟩
end
end K35
set_option maxHeartbeats 4000000
/-! P15: rows drawn -/
namespace K35
open PySem PySem.Spec PyProof.Rows L2 Evl

section
variable {P : Program} {w : World} {K : PySem.W.Frag} {mg : Str → Option Value} {base : Heap} {f : Addr} {fd : FuncData}
def strsAt (H : Hp) (a : Addr) (zs : List Str) : Prop := H a = some (.lst (zs.map V.str)) ∧ ∀ z, z ∈ zs → StrOk z
def preInner : List V → Hp → Addr → Nat → Nat → Prop := fun vs H p n k => ∃ nm a b names kinds, vs = [.ref p, .str nm, .ref a, .ref b] ∧ StrOk nm ∧ a ≠ p ∧ b ≠ p ∧ strsAt H a names ∧ 1 ≤ names.length ∧ names.length ≤ 7 ∧ strsAt H b kinds ∧ 1 ≤ kinds.length ∧ kinds.length ≤ 10 ∧ n = 1450 ∧ k = 4
theorem sc__law_inner : FnScope ["_law_bowl_here", "_law_name", "_law_names", "_law_kinds_here", "_law_kind", "_law_left", "_law_tos_here", "_law_k", "_law_sizes", "_law_to"] ["_law_bowl_here", "_law_name", "_law_names", "_law_kinds_here"] (defScope (topS 51)) :=
  ⟨rfl, rfl, rfl, by decide +kernel, rfl, by decide +kernel, by decide +kernel⟩
theorem seqIx {j n : Nat} (h : j < n) : seqIndex? (j : Int) n = some j := by
  unfold seqIndex?
  simp
  omega
theorem upd_bowl {p l : Addr} {H : Hp} {o : HO} (hb : bowlAt p H) (n : l ≠ p) : bowlAt p (upd H l o) := by
  obtain ⟨a, b, c, h⟩ := hb
  exact ⟨a, b, c, by rw [upd_ne (Ne.symm n)]; exact h⟩
theorem mem_erase {α : Type} {xs : List α} {i : Nat} {x : α} (h : x ∈ xs.eraseIdx i) : x ∈ xs := List.mem_of_mem_eraseIdx h
theorem map_erase {zs : List Str} {i : Nat} : (zs.map V.str).eraseIdx i = (zs.eraseIdx i).map V.str := by
  induction zs generalizing i with
  | nil => rfl
  | cons z r ih =>
    cases i with
    | zero => rfl
    | succ i => exact congrArg (V.str z :: ·) (ih (i := i))
/-- the pair (to, fraction) -/
theorem dzu_pair {H : Hp} {a : Addr} {z : Str} {v : V} (h : H a = some (.tup [.str z, v])) (hz : StrOk z) (hv : Dzu 34 1 H v) : Dzu 154 2 H (.ref a) := by
  refine dzu_tup (n := 70) (k := 1) h fun x hx => ?_
  simp only [List.mem_cons, List.not_mem_nil, or_false] at hx
  rcases hx with rfl | rfl
  · exact (dzu_str hz).le (by omega) (by omega)
  · exact hv.le (by omega) (by omega)
theorem dzu_whats {H : Hp} {a : Addr} {xs : List V} (h : H a = some (.tup xs)) (hl : xs.length ≤ 3) (hx : ∀ v, v ∈ xs → Dzu 154 2 H v) : Dzu 478 3 H (.ref a) := (dzu_tup h hx).le (by omega) (by omega)
theorem dzu_row {H : Hp} {a : Addr} {x y : Str} {v : V} (h : H a = some (.tup [.str x, .str y, v])) (hx : StrOk x) (hy : StrOk y) (hv : Dzu 478 3 H v) : Dzu 1450 4 H (.ref a) := by
  refine dzu_tup (n := 478) (k := 3) h fun z hz => ?_
  simp only [List.mem_cons, List.not_mem_nil, or_false] at hz
  rcases hz with rfl | rfl | rfl
  · exact (dzu_str hx).le (by omega) (by omega)
  · exact (dzu_str hy).le (by omega) (by omega)
  · exact hv
theorem str_of_map {zs : List Str} {v : V} (h : v ∈ zs.map V.str) : ∃ z, v = .str z ∧ z ∈ zs := by
  obtain ⟨z, hz, e⟩ := List.mem_map.mp h
  exact ⟨z, e.symm, hz⟩
theorem ev_min2 {σ : L2.St} {H : Hp} {ta tb : TE} {i j : Int} (ha : Ev ta σ H (.int i)) (hb : Ev tb σ H (.int j)) : Ev (tCB (fun xs H Q => ∃ i j, xs = [.int i, .int j] ∧ Q (.int (if j < i then j else i)) H) (tCons ta (tCons tb tNil))) σ H (.int (if j < i then j else i)) := fun H1 e Q q =>
  ha H1 e _ fun H2 e2 => hb H2 (e.trans e2) _ fun H3 e3 => ⟨i, j, rfl, q H3 (e2.trans e3)⟩
theorem ev_sum {σ : L2.St} {H : Hp} {i : Nat} {l : Addr} {rs : List Int} (hv : Ev (tVar i) σ H (.ref l)) (h : H l = some (.lst (rs.map V.int))) : Ev (tCB (rSum K) (tCons (tVar i) tNil)) σ H (.int rs.sum) := fun H1 e Q q =>
  hv H1 e _ fun H2 e2 => ⟨l, rs, rfl, sq_of ((e.trans e2) l _ h), q H2 e2⟩
theorem ints_of {zs : List V} (h : ∀ z, z ∈ zs → ∃ r : Int, z = .int r ∧ 1 ≤ r ∧ r ≤ 3) : ∃ rs : List Int, zs = rs.map V.int ∧ ∀ r, r ∈ rs → 1 ≤ r ∧ r ≤ 3 := by
  induction zs with
  | nil => exact ⟨[], rfl, fun r hr => by simp at hr⟩
  | cons z r ih =>
    obtain ⟨rs, rfl, k⟩ := ih fun x hx => h x (List.mem_cons_of_mem _ hx)
    obtain ⟨i, rfl, hi⟩ := h z List.mem_cons_self
    refine ⟨i :: rs, rfl, fun r hr => ?_⟩
    rcases List.mem_cons.mp hr with rfl | hr
    · exact hi
    · exact k r hr
theorem sum_bound {rs : List Int} (h : ∀ r, r ∈ rs → 1 ≤ r ∧ r ≤ 3) : (rs.length : Int) ≤ rs.sum ∧ rs.sum ≤ 3 * rs.length := by
  induction rs with
  | nil => exact ⟨Int.le_refl _, Int.le_refl _⟩
  | cons r rs ih =>
    have a := h r List.mem_cons_self
    have b := ih fun x hx => h x (List.mem_cons_of_mem _ hx)
    rw [List.sum_cons, List.length_cons]
    omega
theorem sum_small {rs : List Int} (h : ∀ r, r ∈ rs → 1 ≤ r ∧ r ≤ 3) (h1 : 1 ≤ rs.length) (h3 : rs.length ≤ 3) : 0 < rs.sum ∧ rs.sum ≤ 9 := by
  have := sum_bound h
  omega
theorem c__law_inner (F : FnP K "_law_inner" (topS 51) f fd) (hm : mg "_law_inner" = some (.ref f)) (G : Nm K mg)
    (c__law_pull : C8.Cal P w K mg base 1 "_law_pull" spPull []) (c__law_one_of : C8.Cal P w K mg base 2 "_law_one_of" spOne []) (c__law_low : C8.Cal P w K mg base 1 "_law_low" (PrW preLow) []) :
    C8.Cal P w K mg base 3 "_law_inner" (PrU preInner) [] := by
  have nd := sc__law_inner.nd
  refine cal_of F hm sc__law_inner (fun _ _ _ _ _ _ us hl => match us, hl with | [_, _, _, _], _ => rfl) (fun vs H Q E h => ?_) fun cdv A outer s H vs Q E hr h => ?_
  · obtain ⟨_, _, _, ⟨_, _, _, _, _, rfl, _⟩, _⟩ := h
    rfl
  obtain ⟨p, _, _, ⟨nm, a, b, names, kinds, rfl, hnm, na, nb, ⟨ha, oka⟩, n1, n7, ⟨hb, okb⟩, k1, k10, rfl, rfl⟩, hB, hQ⟩ := h
  refine ⟨_, (pss_cons (ps_asg (pe_tup (pa_cons (C8.pe_c c__law_one_of hr (by decide) rfl (pa_cons (pv 0) (pa_cons (pv 3) pa_nil))) (pa_cons (pe_callTy (kcall_list (K := K) rfl) (by rfl) G.n_list PyProof.Rows.boot_list (pa_cons (pv 2) pa_nil)) (pa_cons (pe_lst pa_nil) pa_nil)))) (kpg_tup (K := K) rfl (n := 3) rfl (pgs_cons (pg_name (i := 4) nd rfl (Or.inl rfl)) (pgs_cons (pg_name (i := 5) nd rfl (Or.inl rfl)) (pgs_cons (pg_name (i := 6) nd rfl (Or.inr rfl)) pgs_nil)))))
  (pss_cons (ps_for PassesOwn.never rfl (pi_range1 (by rfl) G.n_range (pa_cons (pe_op op_add pe_int (C8.pe_c c__law_pull hr (by decide) rfl (pa_cons (pv 0) (pa_cons (pe_callB (call_min2 rfl) (by rfl) G.n_min PyProof.Rows.boot_min (pa_cons pe_int (pa_cons (pe_callB (kcall_len (K := K) rfl) (by rfl) G.n_len PySem.boot_len (pa_cons (pv 2) pa_nil)) pa_nil))) pa_nil)))) pa_nil)) (pg_name (i := 7) nd rfl (Or.inl rfl)) (pss_one (ps_expr (pe_bm PySem.F.plainAttrs_list PySem.F.slot_list_append PySem.F.type_list_append mt_append (pv 6) (pa_cons (pe_bm PySem.F.plainAttrs_list PySem.F.slot_list_pop PySem.F.type_list_pop mt_popAt (pv 5) (pa_cons (C8.pe_c c__law_pull hr (by decide) rfl (pa_cons (pv 0) (pa_cons (pe_callB (kcall_len (K := K) rfl) (by rfl) G.n_len PySem.boot_len (pa_cons (pv 5) pa_nil)) pa_nil))) pa_nil)) pa_nil)))))
  (pss_cons (ps_set (i := 6) nd rfl (Or.inr rfl) (pe_callB (kcr_sortedS (K := K) rfl) (by rfl) G.n_sorted PyProof.Rows.boot_sorted (pa_cons (pv 6) pa_nil)))
  (pss_cons (ps_if (pt_cmpR op_eq (pv 4) pe_str (nomark _)) (pss_one (ps_ret (pe_tup (pa_cons (pv 1) (pa_cons (pv 4) (pa_cons (pe_callTy (kcall_tuple (K := K) rfl) (by rfl) G.n_tuple PyProof.Rows.boot_tuple (pa_cons (pv 6) pa_nil)) pa_nil)))))) pss_nil)
  (pss_cons (ps_if (pt_cmpR op_eq (pv 4) pe_str (nomark _)) (pss_cons (ps_set (i := 8) nd rfl (Or.inr rfl) (pe_lc (own := [("_law_to", 9)]) rfl nd (kpi_list (K := K) rfl (pv 6)) (blkOk_by (own := [("_law_to", 9)]) (by rfl)) (fun _ _ _ _ _ => (pg_name (i := 9) nd rfl (Or.inl rfl))) (fun _ _ _ _ _ => pts_nil) (fun _ _ _ _ _ => (pe_op op_add pe_int (C8.pe_c c__law_pull hr (by decide) rfl (pa_cons (pv 0) (pa_cons pe_int pa_nil)))))))
  (pss_one (ps_ret (pe_tup (pa_cons (pv 1) (pa_cons (pv 4) (pa_cons (pe_callTy (kcall_tuple (K := K) rfl) (by rfl) G.n_tuple PyProof.Rows.boot_tuple (pa_cons (pe_lc (own := [("_law_k", 7)]) rfl nd (pi_range1 (by rfl) G.n_range (pa_cons (pe_callB (kcall_len (K := K) rfl) (by rfl) G.n_len PySem.boot_len (pa_cons (pv 6) pa_nil)) pa_nil)) (blkOk_by (own := [("_law_k", 7)]) (by rfl)) (fun _ _ _ _ _ => (pg_name (i := 7) nd rfl (Or.inl rfl))) (fun _ _ _ _ _ => pts_nil) (fun _ _ _ _ _ => (pe_tup (pa_cons (pe_ix (kix_list (K := K) rfl) (pv 6) (pv 7) (fun _ _ => rfl)) (pa_cons (C8.pe_c c__law_low hr (by decide) rfl (pa_cons (pe_ix (kix_list (K := K) rfl) (pv 8) (pv 7) (fun _ _ => rfl)) (pa_cons (pe_callB (kcr_sum (K := K) rfl rfl) (by rfl) G.n_sum PyProof.Rows.boot_sum (pa_cons (pv 8) pa_nil)) pa_nil))) pa_nil))))) pa_nil)) pa_nil))))))) pss_nil)
  (pss_one (ps_ret (pe_tup (pa_cons (pv 1) (pa_cons (pv 4) (pa_cons (pe_callTy (kcall_tuple (K := K) rfl) (by rfl) G.n_tuple PyProof.Rows.boot_tuple (pa_cons (pe_lc (own := [("_law_to", 9)]) rfl nd (kpi_list (K := K) rfl (pv 6)) (blkOk_by (own := [("_law_to", 9)]) (by rfl)) (fun _ _ _ _ _ => (pg_name (i := 9) nd rfl (Or.inl rfl))) (fun _ _ _ _ _ => pts_nil) (fun _ _ _ _ _ => (pe_tup (pa_cons (pv 9) (pa_cons (C8.pe_c c__law_low hr (by decide) rfl (pa_cons (pe_op op_sub (C8.pe_c c__law_pull hr (by decide) rfl (pa_cons (pv 0) (pa_cons pe_int pa_nil))) pe_int) (pa_cons (C8.pe_c c__law_one_of hr (by decide) rfl (pa_cons (pv 0) (pa_cons (pe_lst (pa_cons pe_int (pa_cons pe_int pa_nil))) pa_nil))) pa_nil))) pa_nil))))) pa_nil)) pa_nil))))))))))), ?_⟩
  refine (go_one (ev_var rfl) (ev_var rfl) hb nb (by rw [List.length_map]; omega) (by rw [List.length_map]; omega)) hB _ fun kd H1 e1 b1 hk => ?_
  obtain ⟨kd, rfl, hkd⟩ := str_of_map hk
  have okk := okb kd hkd
  have ha1 := e1 a _ na ha
  refine ⟨_, rfl, a, _, rfl, .inl (sq_of ha1), fun l nl => ⟨by simp, fun t nt => ⟨show 3 ≤ sizeLine by decide, fun u nu => tg_three (st_of upd_same) _ ?_⟩⟩⟩
  have nlp : l ≠ p := bowl_new b1 nl
  have b2 : bowlAt p (upd H1 l (.lst (names.map V.str))) := upd_bowl b1 nlp
  have ntp : t ≠ p := bowl_new b2 nt
  have nlt : l ≠ t := fun z => by
    rw [← z, upd_same] at nt
    cases nt
  have hl2 : upd (upd H1 l (.lst (names.map V.str))) t (.lst []) l = some (.lst (names.map V.str)) := by rw [upd_ne nlt, upd_same]
  have ht2 : upd (upd H1 l (.lst (names.map V.str))) t (.lst []) t = some (.lst []) := upd_same
  have x2 : Exb p H (upd (upd H1 l (.lst (names.map V.str))) t (.lst [])) := e1.ex ((Ex.new nl).trans (Ex.new nt))
  have b2' : bowlAt p (upd (upd H1 l (.lst (names.map V.str))) t (.lst [])) := upd_bowl b2 ntp
  have fl : H l = none := by
    cases h : H l with
    | none => rfl
    | some o =>
      rw [e1 l _ nlp h] at nl
      cases nl
  have ft : H t = none := by
    cases h : H t with
    | none => rfl
    | some o =>
      have := (Ex.new nl (o := HO.lst (names.map V.str))) t _ (e1 t _ ntp h)
      rw [this] at nt
      cases nt
  replace hl2 := Ex.new nu (o := .tup [V.str kd, .ref l, .ref t]) _ _ hl2
  replace ht2 := Ex.new nu (o := .tup [V.str kd, .ref l, .ref t]) _ _ ht2
  replace x2 := x2.ex (Ex.new nu (o := .tup [V.str kd, .ref l, .ref t]))
  replace b2' := b2'.ex (Ex.new nu (o := .tup [V.str kd, .ref l, .ref t]))
  generalize upd (upd (upd H1 l (.lst (names.map V.str))) t (.lst [])) u (.tup [V.str kd, .ref l, .ref t]) = H2 at hl2 ht2 x2 b2'
  -- the loop
  have ha2 := x2 a _ na ha
  refine (go_Iop (A := fun r => 0 ≤ r ∧ r < (if (names.length : Int) < 3 then (names.length : Int) else 3)) (go_imp (go_pull (ev_var rfl) (ev_min2 ev_c (ev_is (ev_lenL (ev_var rfl) (sq_of ha2)) (by rw [List.length_map]))) (by split <;> omega) (by split <;> omega)) fun v H3 _ _ h => h)) b2' _ fun v H3 e3 b3 ⟨r, er, r0, r1⟩ => ?_
  subst er
  refine ⟨1 + r, rfl, by omega, by split at r1 <;> omega, ?_⟩
  have rn : r < names.length ∧ r < 3 := by
    split at r1 <;> omega
  refine for_range (lo := 0) (n := (1 + r).toNat) (fun i σ' H' => ∃ c7 lf ts, σ' = [some (.ref p), some (.str nm), some (.ref a), some (.ref b), some (.str kd), some (.ref l), some (.ref t), c7, none, none] ∧ Exb p H H' ∧ bowlAt p H' ∧ strsAt H' l lf ∧ strsAt H' t ts ∧ lf.length + i = names.length ∧ ts.length = i) ?_ ?_ ?_
  · exact ⟨none, names, [], rfl, x2.trans e3, b3, ⟨e3 l _ nlp hl2, oka⟩, ⟨e3 t _ ntp ht2, fun z hz => by simp at hz⟩, rfl, rfl⟩
  · rintro i σ' H' hi ⟨c7, lf, ts, rfl, ex, hb', ⟨hl, okl⟩, ⟨ht, okt⟩, len, lt⟩
    have hi2 : i < names.length := by omega
    refine ⟨_, rfl, .inl ⟨rfl, _, sq_of ht⟩, _, rfl, .inl ⟨rfl, _, sq_of hl⟩, ?_⟩
    refine (go_pull (ev_var rfl) (ev_lenL (ev_var rfl) (sq_of hl)) (by rw [List.length_map]; omega) (by rw [List.length_map]; omega)) hb' _ fun v H4 e4 b4 ⟨r, er, r0, r1⟩ => ?_
    subst er
    obtain ⟨j, rfl⟩ := Int.eq_ofNat_of_zero_le r0
    rw [List.length_map] at r1
    have hj : j < lf.length := by omega
    have hl4 := e4 l _ nlp hl
    have ht4 := e4 t _ ntp ht
    refine ⟨l, _, (j : Int), j, .str lf[j], rfl, rfl, hl4, by omega, by omega, seqIx (by rw [List.length_map]; exact hj), by simp [hj], ?_⟩
    have ht5 : upd H4 l (.lst ((lf.map V.str).eraseIdx j)) t = some (.lst (ts.map V.str)) := by
      rw [upd_ne (Ne.symm nlt)]
      exact ht4
    refine ⟨t, _, .str lf[j], rfl, rfl, ht5, sz_lt (by rw [List.length_map]; omega), ?_⟩
    refine ⟨_, lf.eraseIdx j, ts ++ [lf[j]], rfl, Exb.mut (Exb.mut (ex.trans e4) fl) ft, upd_bowl (upd_bowl b4 nlp) ntp, ⟨?_, fun z hz => okl z (mem_erase hz)⟩, ⟨?_, fun z hz => ?_⟩, ?_, by simp [lt]⟩
    · rw [upd_ne nlt, upd_same, map_erase]
    · rw [upd_same, List.map_append]
      rfl
    · rcases List.mem_append.mp hz with hz | hz
      · exact okt z hz
      · have : z = lf[j] := by simpa using hz
        rw [this]
        exact okl _ (List.getElem_mem hj)
    · rw [List.length_eraseIdx, if_pos hj]
      omega
  · rintro σ' H4 ⟨c7, lf, ts, rfl, ex, hb', ⟨hl, okl⟩, ⟨ht, okt⟩, len, lt⟩
    have lt3 : ts.length ≤ 3 := by omega
    have lt1 : 1 ≤ ts.length := by omega
    refine ⟨_, rfl, t, ts, rfl, sq_of ht, by omega, fun ys q hperm _ nq => ?_⟩
    have nqp : q ≠ p := bowl_new hb' nq
    have oky : ∀ z, z ∈ ys → StrOk z := fun z hz => okt z (hperm.mem_iff.mp hz)
    have ly : ys.length = ts.length := hperm.length_eq
    have b5 : bowlAt p (upd H4 q (.lst (ys.map V.str))) := upd_bowl hb' nqp
    have x5 : Exb p H (upd H4 q (.lst (ys.map V.str))) := ex.ex (Ex.new nq)
    have hq : upd H4 q (.lst (ys.map V.str)) q = some (.lst (ys.map V.str)) := upd_same
    show tSeq _ _ _ [some (V.ref p), some (.str nm), some (.ref a), some (.ref b), some (.str kd), some (.ref l), some (.ref q), c7, none, none] (upd H4 q (.lst (ys.map V.str)))
    generalize upd H4 q (.lst (ys.map V.str)) = H5 at b5 x5 hq
    have fin : ∀ {σ6 : L2.St} {te : TE} {H6 : Hp} {D : Ends}, σ6[1]? = some (some (V.str nm)) → σ6[4]? = some (some (V.str kd)) → Exb p H H6 → bowlAt p H6 → D.rt = Q → Go p te σ6 H6 (fun v H7 => Dzu 478 3 H7 v) → tRet (tTup (tCons (tVar 1) (tCons (tVar 4) (tCons te tNil)))) D σ6 H6 := fun s1 s4 x6 b6 eD g => by
      refine ⟨_, s1, _, s4, g b6 _ fun v H7 e7 b7 c7 => ⟨show 3 ≤ sizeLine by decide, fun u nu => ?_⟩⟩
      rw [eD]
      have nup : u ≠ p := bowl_new b7 nu
      refine hQ _ _ ((x6.trans e7).ex (Ex.new nu)) (upd_bowl b7 nup) (dzu_row upd_same hnm okk (c7.mono (.of (Ex.new nu))))
    refine q_when (et_eqS rfl) (fun hb6 H6 e6 => ?_) fun hb6 H6 e6 => ?_
    · refine fin rfl rfl (x5.ex e6) (b5.ex e6) rfl fun hB6 Q6 q6 => ?_
      refine ⟨_, rfl, q, _, rfl, .inl ⟨sq_of (e6 q _ hq), fun u nu => q6 _ _ (.of (Ex.new nu)) (hB6.ex (Ex.new nu)) ?_⟩⟩
      refine dzu_whats upd_same (by rw [List.length_map]; omega) fun v hv => ?_
      obtain ⟨z, rfl, hz⟩ := str_of_map hv
      exact (dzu_str (oky z hz)).le (by omega) (by omega)
    · have hq6 := e6 q _ hq
      have b6 := b5.ex e6
      have x6 := x5.ex e6
      have tupc : ∀ {σ6 : L2.St} {te : TE} {H7 : Hp}, Go p te σ6 H7 (fun v H8 => ∃ l zs, v = .ref l ∧ H7 l = none ∧ H8 l = some (.lst zs) ∧ zs.length = ys.length ∧ ∀ z, z ∈ zs → Dzu 154 2 H8 z) →
          Go p (tCB (fun xs H Q => ∃ p ys, xs = [.ref p] ∧ ((SqL K H p ys ∧ ∀ l, H l = none → Q (.ref l) (upd H l (.tup ys))) ∨ (SqT K H p ys ∧ Q (.ref p) H))) (tCons te tNil)) σ6 H7 (fun v H8 => Dzu 478 3 H8 v) := fun g hB7 Q7 q7 =>
        g hB7 _ fun v H8 e8 b8 ⟨l8, zs, e, _, hl8, lz, hz⟩ => by
          subst e
          exact ⟨l8, zs, rfl, .inl ⟨sq_of hl8, fun u nu => q7 _ _ (e8.ex (Ex.new nu)) (b8.ex (Ex.new nu)) (dzu_whats upd_same (by omega) fun v hv => (hz v hv).mono (.of (Ex.new nu)))⟩⟩
      have mono2 : ∀ (v : V) (H1 H2 : Hp), ExT H1 H2 → Dzu 154 2 H1 v → Dzu 154 2 H2 v := fun v H1 H2 e h => h.mono e
      refine q_when (et_eqS rfl) (fun hb7 H7 e7 => ?_) fun hb7 H7 e7 => ?_
      · have hq7 := e7 q _ hq6
        have b7 := b6.ex e7
        have x7 := x6.ex e7
        refine g_asg b7 (go_comp (C := fun v _ => ∃ r : Int, v = .int r ∧ 1 ≤ r ∧ r ≤ 3) (gi_list (ev_var rfl) hq7 nqp) (by rw [List.length_map]; omega) (fun i x H8 e8 b8 hx => ⟨_, tg_name, rfl, go_imp (go_Iop (go_pull (ev_var rfl) ev_c (by decide) (by decide))) fun v H9 _ _ ⟨r, er, r0, r1⟩ => ⟨_, er, by omega, by omega⟩⟩) fun v H1 H2 _ h => h) fun v H8 e8 b8 ⟨sl, zs, e, nsl, hsl, lz, hz⟩ => ?_
        subst e
        rw [List.length_map] at lz
        have nsp : sl ≠ p := bowl_new b7 nsl
        obtain ⟨rs, rfl, hrs⟩ := ints_of hz
        rw [List.length_map] at lz
        have hq8 := e8 q _ nqp hq7
        obtain ⟨s0, s9⟩ := sum_small hrs (by omega) (by omega)
        refine fin rfl rfl (x7.trans e8) b8 rfl (tupc (go_imp (go_comp (C := fun v H => Dzu 154 2 H v) (gi_rng (n := (ys.length : Int)) (ev_is (ev_lenL (ev_var rfl) (sq_of hq8)) (by rw [List.length_map])) (by omega) (by omega)) (by simp [rngV]; omega) (fun i x H9 e9 b9 hx => ⟨_, tg_name, rfl, ?_⟩) mono2) fun v H9 _ _ ⟨l9, zs, e, n9, h9, lz, hz⟩ => ⟨l9, zs, e, n9, h9, by rw [lz]; simp [rngV], hz⟩))
        have hi : i < ys.length ∧ x = .int (i : Int) := by
          unfold rngV at hx
          rw [List.getElem?_map] at hx
          have : i < ys.length := by
            cases h : (List.range (ys.length : Int).toNat)[i]? with
            | none =>
              rw [h] at hx
              cases hx
            | some j =>
              have := (List.getElem?_eq_some_iff.mp h).1
              simpa using this
          refine ⟨this, ?_⟩
          rw [List.getElem?_range (by simpa using this)] at hx
          simpa using hx.symm
        obtain ⟨hi, rfl⟩ := hi
        have hq9 := e9 q _ nqp hq8
        have hs9 := e9 sl _ nsp hsl
        have hi' : i < rs.length := by omega
        intro hB9 Q9 q9
        refine ⟨_, rfl, _, rfl, ⟨q, _, _, .str ys[i], rfl, rfl, sq_of hq9, at_nat i (by simp [hi]), ?_⟩⟩
        refine (go_low (Aa := fun _ => True) (go_imp (go_ev (ev_op (ev_var rfl) (ev_var rfl) (rv_ixL (v := .int rs[i]) (sq_of hs9) (at_nat i (by simp [hi']))))) fun v H10 _ _ h => ⟨_, h.1, by have := hrs _ (List.getElem_mem hi'); omega⟩)
          fun H10 e10 b10 => go_imp (go_ev (ev_sum (K := K) (ev_var rfl) (e10 sl _ nsp hs9))) fun v H11 _ _ h => ⟨_, h.1, s0, by omega⟩) hB9 _ fun v H11 e11 b11 c11 => ⟨show 2 ≤ sizeLine by decide, fun u nu => q9 _ _ (e11.ex (Ex.new nu)) (b11.ex (Ex.new nu)) (dzu_pair upd_same (oky _ (List.getElem_mem hi)) (c11.mono (.of (Ex.new nu))))⟩
      · have hq7 := e7 q _ hq6
        have b7 := b6.ex e7
        have x7 := x6.ex e7
        refine fin rfl rfl x7 b7 rfl (tupc (go_imp (go_comp (C := fun v H => Dzu 154 2 H v) (gi_list (ev_var rfl) hq7 nqp) (by rw [List.length_map]; omega) (fun i x H8 e8 b8 hx => ⟨_, tg_name, rfl, ?_⟩) mono2) fun v H8 _ _ ⟨l8, zs, e, n8, h8, lz, hz⟩ => ⟨l8, zs, e, n8, h8, by rw [lz, List.length_map], hz⟩))
        obtain ⟨z, rfl, hz⟩ := str_of_map (List.mem_of_getElem? hx)
        intro hB8 Q8 q8
        refine ⟨_, rfl, (go_low (Aa := fun _ => True) (go_imp (go_opI (go_pull (ev_var rfl) ev_c (by decide) (by decide))) fun v H1 _ _ ⟨r, er, r0, r1⟩ => ⟨_, er, by omega⟩) fun H1 e1 b1 => go_imp (go_oneL (ev_var rfl) (el_lst (ea_cons ev_c (ea_cons ev_c ea_nil)) (show 2 ≤ 100000 by decide)) (show 0 < 2 by decide) (show 2 ≤ 1000000 by decide)) fun v H1 _ _ hv => ?_) hB8 _ fun v H9 e9 b9 c9 => ⟨show 2 ≤ sizeLine by decide, fun u nu => q8 _ _ (e9.ex (Ex.new nu)) (b9.ex (Ex.new nu)) (dzu_pair upd_same (oky z hz) (c9.mono (.of (Ex.new nu))))⟩⟩
        simp only [List.mem_cons, List.not_mem_nil, or_false] at hv
        rcases hv with rfl | rfl
        · exact ⟨1, rfl, by decide, by decide⟩
        · exact ⟨2, rfl, by decide, by decide⟩
end
end K35
set_option maxHeartbeats 4000000
/-! P16: whole rows drawn, values of any kind, changes -/
namespace K35
open PySem PySem.Spec PyProof.Rows L2 Evl

/-! ### displays of data -/
def Ez (p : Addr) (te : TE) (σ : L2.St) (d : PyData) : Prop := ∀ H1, bowlAt p H1 → ∀ Q : VK, (∀ v H2, Ex H1 H2 → DT p H2 v d → Q v H2) → te σ H1 Q
def Eza (p : Addr) (ta : TA) (σ : L2.St) (ds : List PyData) : Prop := ∀ H1, bowlAt p H1 → ∀ Q : List V → Hp → Prop, (∀ vs H2, Ex H1 H2 → DTs p H2 vs ds → Q vs H2) → ta σ H1 Q
section
variable {p : Addr} {σ : L2.St} {te : TE} {ta : TA} {d : PyData} {ds : List PyData}
theorem ez_non : Ez p (tC .non) σ .none := fun H1 _ Q q => q _ H1 (Ex.refl _) .non
theorem ez_bl {b : Bool} : Ez p (tC (.bl b)) σ (.bool b) := fun H1 _ Q q => q _ H1 (Ex.refl _) (.bl b)
theorem ez_int {i : Int} : Ez p (tC (.int i)) σ (.int i) := fun H1 _ Q q => q _ H1 (Ex.refl _) (.int i)
theorem ez_str {z : Str} : Ez p (tC (.str z)) σ (.str z) := fun H1 _ Q q => q _ H1 (Ex.refl _) (.str z)
theorem ez_neg {i : Int} : Ez p (tUn (rU fun i => .int (-i)) (tC (.int i))) σ (.int (-i)) := fun H1 _ Q q => ⟨i, rfl, q _ H1 (Ex.refl _) (.int _)⟩
theorem ez_dic : Ez p tDNewK σ (.dict []) := fun H1 hB Q q u nu => q _ _ (Ex.new nu) (.dic (bowl_new hB nu) upd_same)
theorem eza_nil : Eza p tNil σ [] := fun H1 _ Q q => q _ H1 (Ex.refl _) .nil
theorem eza_cons (h : Ez p te σ d) (hr : Eza p ta σ ds) : Eza p (tCons te ta) σ (d :: ds) := fun H1 hB Q q => h H1 hB _ fun v H2 e2 z2 => hr H2 (hB.ex e2) _ fun vs H3 e3 z3 => q _ H3 (e2.trans e3) (.cons (z2.ex e3) z3)
theorem ez_tup (h : Eza p ta σ ds) (hl : ds.length ≤ 100000) : Ez p (tTup ta) σ (.tuple ds) := fun H1 hB Q q => h H1 hB _ fun vs H2 e2 z2 =>
  ⟨sz_of (by rw [z2.length]; exact hl), fun u nu => q _ _ (e2.trans (Ex.new nu)) (.tup (bowl_new (hB.ex e2) nu) upd_same (z2.ex (Ex.new nu)))⟩
theorem ez_lst (h : Eza p ta σ ds) (hl : ds.length ≤ 100000) : Ez p (tLstS ta) σ (.list ds) := fun H1 hB Q q => h H1 hB _ fun vs H2 e2 z2 =>
  ⟨sz_of (by rw [z2.length]; exact hl), fun u nu ns => q _ _ (e2.trans (Ex.new nu)) (.lst ⟨bowl_new (hB.ex e2) nu, ns⟩ upd_same (z2.ex (Ex.new nu)))⟩
end
section
variable {p : Addr} {σ : L2.St} {H : Hp} {ta : TA} {ds es : List PyData} {tz : TS} {D : Ends} {i j : Nat}
theorem z_asgL (h : Eza p ta σ ds) (hn : ds.length ≤ 100000) (hB : bowlAt p H) (k : ∀ l H2 xs, Ex H H2 → DTs p H2 xs ds → H2 l = some (.lst xs) → tz D (σ.set i (some (.ref l))) H2) : tSeq (tAsg (tLst ta) (gName i)) tz D σ H :=
  h H hB _ fun xs H1 e1 z1 => ⟨sz_of (by rw [z1.length]; exact hn), fun l nl => k l _ xs (e1.trans (Ex.new nl)) (z1.ex (Ex.new nl)) upd_same⟩
theorem z_catL {l : Addr} {xs : List V} (hv : σ[j]? = some (some (.ref l))) (hl : H l = some (.lst xs)) (hx : DTs p H xs es) (h : Eza p ta σ ds) (hn : es.length + ds.length ≤ 100000) (hB : bowlAt p H)
    (k : ∀ l H2 xs, Ex H H2 → DTs p H2 xs (es ++ ds) → l ≠ p → H2 l = some (.lst xs) → tz D (σ.set i (some (.ref l))) H2) : tSeq (tAsg (tOp rCat (tVar j) (tLst ta)) (gName i)) tz D σ H :=
  ⟨_, hv, h H hB _ fun ys H1 e1 z1 => ⟨sz_of (by rw [z1.length]; omega), fun l1 nl1 => by
    have l1' := hx.length
    have l2' := z1.length
    refine ⟨l, l1, xs, ys, rfl, rfl, Ex.new nl1 l _ (e1 l _ hl), upd_same, sz_of (by omega), fun l2 nl2 => ?_⟩
    exact k l2 _ (xs ++ ys) ((e1.trans (Ex.new nl1)).trans (Ex.new nl2)) (DTs.app (((hx.ex e1).ex (Ex.new nl1)).ex (Ex.new nl2)) ((z1.ex (Ex.new nl1)).ex (Ex.new nl2))) (bowl_new ((hB.ex e1).ex (Ex.new nl1)) nl2) upd_same⟩⟩
end
mutual
def lfB : PyData → Bool
  | .none => true
  | .bool _ => true
  | .int i => decide (i.natAbs ≤ 16)
  | .str z => decide (z.length ≤ 30) && z.cps.toList.all fun c => decide (c < 16 ^ 8)
  | .list ds => lfBs ds
  | .tuple ds => lfBs ds
  | .dict kvs => kvs.isEmpty
def lfBs : List PyData → Bool
  | [] => true
  | d :: ds => lfB d && lfBs ds
end
mutual
theorem lf_of : ∀ d : PyData, lfB d = true → Lf d
  | .none, _ => .non
  | .bool b, _ => .bl b
  | .int i, h => .int i (by simpa [lfB] using h)
  | .str z, h => by
    rw [lfB, Bool.and_eq_true] at h
    exact .str z (of_decide_eq_true h.1) h.2
  | .list ds, h => .lst (lfs_of ds (by rwa [lfB] at h))
  | .tuple ds, h => .tup (lfs_of ds (by rwa [lfB] at h))
  | .dict kvs, h => by
    rw [lfB] at h
    cases kvs with
    | nil => exact .dic
    | cons => cases h
theorem lfs_of : ∀ ds : List PyData, lfBs ds = true → ∀ d, d ∈ ds → Lf d
  | [], _, _, hd => by simp at hd
  | e :: ds, h, d, hd => by
    rw [lfBs, Bool.and_eq_true] at h
    rcases List.mem_cons.mp hd with q | hd
    · rw [q]
      exact lf_of e h.1
    · exact lfs_of ds h.2 d hd
end
theorem DTs.pick {p : Addr} {H : Hp} {v : V} : ∀ {xs : List V} {ds : List PyData}, DTs p H xs ds → v ∈ xs → ∃ d, d ∈ ds ∧ DT p H v d
  | _, _, .nil, h => by simp at h
  | _, _, .cons h1 h2, h => by
    rcases List.mem_cons.mp h with rfl | h
    · exact ⟨_, List.mem_cons_self, h1⟩
    · obtain ⟨d, a, b⟩ := DTs.pick h2 h
      exact ⟨d, List.mem_cons_of_mem _ a, b⟩
def odd1 : List PyData := [.none, .bool true, .int 0, .int 1, .str "", .str "a", .str "zz", .str "end", .str "ours", .str "coin", .str "chance", .tuple [], .tuple [.int 0, .int 1], .tuple [.int 1, .int 1], .tuple [.int 1, .int 2], .tuple [.int 2, .int 4]]
def odd2 : List PyData := [.tuple [.int 1, .int 0], .tuple [.int 1, .int (-2)], .tuple [.int (-3), .int 2], .list [], .list [.str "a"], .dict [], .tuple [.str "a"], .tuple [.str "a", .str "b"], .tuple [.tuple [.str "a", .tuple [.int 1, .int 1]]], .str "a1b2", .str "A", .str "1a"]
theorem odd_ok : ((odd1 ++ odd2).all fun d => lfB d && (decide (szD d ≤ 300) && decide (d.depth ≤ 3))) = true := by decide +kernel
section
variable {P : Program} {w : World} {K : PySem.W.Frag} {mg : Str → Option Value} {base : Heap} {f : Addr} {fd : FuncData}
def preOdd : List V → Hp → Addr → Nat → Nat → Prop := fun vs _ p n k => vs = [.ref p] ∧ n = 300 ∧ k = 3
theorem sc__law_odd : FnScope ["_law_bowl_here", "_law_some"] ["_law_bowl_here"] (defScope (topS 62)) :=
  ⟨rfl, rfl, rfl, by decide +kernel, rfl, by decide +kernel, by decide +kernel⟩
theorem c__law_odd (F : FnP K "_law_odd" (topS 62) f fd) (hm : mg "_law_odd" = some (.ref f)) (G : Nm K mg)
    (c__law_one_of : C8.Cal P w K mg base 2 "_law_one_of" spOne []) : C8.Cal P w K mg base 3 "_law_odd" (PrZ preOdd) [] := by
  have nd := sc__law_odd.nd
  refine cal_of F hm sc__law_odd (fun _ _ _ _ _ _ us hl => match us, hl with | [_], _ => rfl) (fun vs H Q E h => ?_) fun cdv A outer s H vs Q E hr h => ?_
  · obtain ⟨_, _, _, ⟨rfl, _⟩, _⟩ := h
    rfl
  obtain ⟨p, _, _, ⟨rfl, rfl, rfl⟩, hB, hQ⟩ := h
  refine ⟨_, (pss_cons (ps_set (i := 1) nd rfl (Or.inl rfl) (pe_lst (pa_cons pe_non (pa_cons pe_bl (pa_cons pe_int (pa_cons pe_int (pa_cons pe_str (pa_cons pe_str (pa_cons pe_str (pa_cons pe_str (pa_cons pe_str (pa_cons pe_str (pa_cons pe_str (pa_cons (pe_tup pa_nil) (pa_cons (pe_tup (pa_cons pe_int (pa_cons pe_int pa_nil))) (pa_cons (pe_tup (pa_cons pe_int (pa_cons pe_int pa_nil))) (pa_cons (pe_tup (pa_cons pe_int (pa_cons pe_int pa_nil))) (pa_cons (pe_tup (pa_cons pe_int (pa_cons pe_int pa_nil))) pa_nil))))))))))))))))))
  (pss_cons (ps_set (i := 1) nd rfl (Or.inl rfl) (pe_op op_cat (pv 1) (pe_lst (pa_cons (pe_tup (pa_cons pe_int (pa_cons pe_int pa_nil))) (pa_cons (pe_tup (pa_cons pe_int (pa_cons (pe_un un_neg pe_int) pa_nil))) (pa_cons (pe_tup (pa_cons (pe_un un_neg pe_int) (pa_cons pe_int pa_nil))) (pa_cons (pe_lstS pa_nil) (pa_cons (pe_lstS (pa_cons pe_str pa_nil)) (pa_cons pe_dnewK (pa_cons (pe_tup (pa_cons pe_str pa_nil)) (pa_cons (pe_tup (pa_cons pe_str (pa_cons pe_str pa_nil))) (pa_cons (pe_tup (pa_cons (pe_tup (pa_cons pe_str (pa_cons (pe_tup (pa_cons pe_int (pa_cons pe_int pa_nil))) pa_nil))) pa_nil)) (pa_cons pe_str (pa_cons pe_str (pa_cons pe_str pa_nil)))))))))))))))
  (pss_one (ps_ret (C8.pe_c c__law_one_of hr (by decide) rfl (pa_cons (pv 0) (pa_cons (pv 1) pa_nil))))))), ?_⟩
  have two : ∀ {σ : L2.St} {i j : Int}, Ez p (tTup (tCons (tC (.int i)) (tCons (tC (.int j)) tNil))) σ (.tuple [.int i, .int j]) := fun {σ i j} => ez_tup (eza_cons ez_int (eza_cons ez_int eza_nil)) (show 2 ≤ 100000 by decide)
  refine z_asgL (p := p) (ds := odd1) (eza_cons ez_non (eza_cons ez_bl (eza_cons ez_int (eza_cons ez_int (eza_cons ez_str (eza_cons ez_str (eza_cons ez_str (eza_cons ez_str (eza_cons ez_str (eza_cons ez_str (eza_cons ez_str (eza_cons (ez_tup eza_nil (by simp))
    (eza_cons two (eza_cons two (eza_cons two (eza_cons two eza_nil)))))))))))))))) (by decide) hB fun l H1 xs e1 z1 hl => ?_
  refine z_catL (p := p) (ds := odd2) rfl hl z1 (eza_cons two (eza_cons (ez_tup (eza_cons ez_int (eza_cons ez_neg eza_nil)) (show 2 ≤ 100000 by decide)) (eza_cons (ez_tup (eza_cons ez_neg (eza_cons ez_int eza_nil)) (show 2 ≤ 100000 by decide))
    (eza_cons (ez_lst eza_nil (by simp)) (eza_cons (ez_lst (eza_cons ez_str eza_nil) (show 1 ≤ 100000 by decide)) (eza_cons ez_dic (eza_cons (ez_tup (eza_cons ez_str eza_nil) (show 1 ≤ 100000 by decide)) (eza_cons (ez_tup (eza_cons ez_str (eza_cons ez_str eza_nil)) (show 2 ≤ 100000 by decide))
    (eza_cons (ez_tup (eza_cons (ez_tup (eza_cons ez_str (eza_cons two eza_nil)) (show 2 ≤ 100000 by decide)) eza_nil) (show 1 ≤ 100000 by decide)) (eza_cons ez_str (eza_cons ez_str (eza_cons ez_str eza_nil)))))))))))) (by decide) (hB.ex e1) fun l3 H3 xs e3 hz n3 h3 => ?_
  have x3 : Ex H H3 := e1.trans e3
  have b3 := hB.ex x3
  have ln : xs.length = 28 := hz.length
  refine g_ret b3 (go_one (ev_var rfl) (ev_var rfl) h3 n3 (by omega) (by omega)) fun v H4 e4 b4 hv => ?_
  obtain ⟨d, hd, hdt⟩ := hz.pick hv
  have ok := List.all_eq_true.mp odd_ok d hd
  simp only [Bool.and_eq_true, decide_eq_true_eq] at ok
  exact hQ v H4 ((Exb.of x3).trans e4) b4 ⟨d, hdt.keep e4, lf_of d ok.1, ok.2.1, ok.2.2⟩
/-! ### bent -/
theorem sl_go {H : Hp} {a : Addr} {xs : List V} {lo hi : Option Int} {Q : VK} (h : H a = some (.tup xs)) (q : ∀ b H2, Ex H H2 → H2 b = some (.tup (cutV xs lo hi)) → Q (.ref b) H2) : rSlA K (.ref a) lo hi H Q := by
  refine ⟨a, xs, rfl, st_of h, fun hw => q a H (Ex.refl _) ?_, fun _ b nb => q b _ (Ex.new nb) upd_same⟩
  rw [h]
  unfold cutV
  rw [hw.1, hw.2]
  simp
theorem cat_go {H : Hp} {a b : Addr} {xs ys : List V} {Q : VK} (h1 : H a = some (.tup xs)) (h2 : H b = some (.tup ys)) (hn : xs.length + ys.length ≤ 100000) (q : ∀ c H2, Ex H H2 → H2 c = some (.tup (xs ++ ys)) → Q (.ref c) H2) : rCatA K (.ref a) (.ref b) H Q := by
  refine ⟨a, b, xs, ys, rfl, rfl, st_of h1, st_of h2, sz_of hn, fun e => q b H (Ex.refl _) ?_, fun _ e => q a H (Ex.refl _) ?_, fun _ _ c nc => q c _ (Ex.new nc) upd_same⟩
  · rw [e]
    exact h2
  · rw [e, List.append_nil]
    exact h1
theorem DTs.drop {p : Addr} {H : Hp} : ∀ {xs : List V} {ds : List PyData} (n : Nat), DTs p H xs ds → DTs p H (xs.drop n) (ds.drop n)
  | _, _, 0, h => h
  | _, _, _ + 1, .nil => .nil
  | _, _, n + 1, .cons _ h => DTs.drop n h
theorem DTs.take {p : Addr} {H : Hp} : ∀ {xs : List V} {ds : List PyData} (n : Nat), DTs p H xs ds → DTs p H (xs.take n) (ds.take n)
  | _, _, 0, _ => .nil
  | _, _, _ + 1, .nil => .nil
  | _, _, n + 1, .cons a h => .cons a (DTs.take n h)
theorem DTs.rev {p : Addr} {H : Hp} : ∀ {xs : List V} {ds : List PyData}, DTs p H xs ds → DTs p H xs.reverse ds.reverse
  | _, _, .nil => .nil
  | _, _, .cons a h => by
    rw [List.reverse_cons, List.reverse_cons]
    exact DTs.app (DTs.rev h) (.cons a .nil)
theorem cut_hi {xs : List V} {j : Nat} (h : j ≤ xs.length) : cutV xs none (some (j : Int)) = xs.take j := by
  unfold cutV
  rw [HT.sIx_none, HT.sIx_nat, Nat.min_eq_left h]
  simp
theorem cut_lo {xs : List V} {j : Nat} (h : j ≤ xs.length) : cutV xs (some (j : Int)) none = xs.drop j := by
  unfold cutV
  rw [HT.sIx_none, HT.sIx_nat, Nat.min_eq_left h]
  exact List.take_of_length_le (by rw [List.length_drop]; omega)
theorem szs_perm {ds : List PyData} (n : Nat) : szs (ds.take n) + szs (ds.drop n) = szs ds := by
  rw [← szs_app, List.take_append_drop]
theorem szs_rev : ∀ ds : List PyData, szs ds.reverse = szs ds
  | [] => rfl
  | d :: ds => by
    rw [List.reverse_cons, szs_app, szs_rev ds, szs, szs, szs]
    omega
/-- a tuple of these data -/
theorem dz_tup {p a : Addr} {H : Hp} {xs : List V} {ds : List PyData} {n k : Nat} (hB : bowlAt p H) (h : H a = some (.tup xs)) (hx : DTs p H xs ds) (hl : ∀ d, d ∈ ds → Lf d ∧ d.depth ≤ k) (hs : szs ds + 10 ≤ n) : Dz n (k + 1) p H (.ref a) :=
  ⟨.tuple ds, .tup (tup_ne hB h) h hx, .tup fun d hd => (hl d hd).1, by rw [szD]; exact hs, by
    rw [PyData.depth]
    have := depth_all fun d hd => (hl d hd).2
    omega⟩
theorem depth_mem {d : PyData} : ∀ {ds : List PyData}, d ∈ ds → d.depth ≤ PyData.depthAll ds
  | e :: r, h => by
    rw [PyData.depthAll]
    rcases List.mem_cons.mp h with q | h
    · rw [q]
      exact Nat.le_max_left _ _
    · exact Nat.le_trans (depth_mem h) (Nat.le_max_right _ _)
def preBent (m : Nat) : List V → Hp → Addr → Nat → Nat → Prop := fun vs H p n k => ∃ v d n0, vs = [.ref p, v] ∧ DT p H v d ∧ Lf d ∧ szD d ≤ n0 ∧ n0 ≤ 40000 ∧ d.depth ≤ m ∧ n = 2 * n0 + 400 ∧ k = m + 3
theorem sc__law_bent : FnScope ["_law_bowl_here", "_law_thing", "_law_way", "_law_at"] ["_law_bowl_here", "_law_thing"] (defScope (topS 63)) :=
  ⟨rfl, rfl, rfl, by decide +kernel, rfl, by decide +kernel, by decide +kernel⟩
theorem ev_eqTu {σ : L2.St} {H : Hp} {te : TE} {a : Addr} {xs : List V} (h : Ev te σ H (.ref a)) (ht : H a = some (.tup xs)) : Ev (tOp (rEqE K) te (tTup tNil)) σ H (.bl xs.isEmpty) := ev_eqT h ht
theorem ew_sl {σ : L2.St} {H : Hp} {te : TE} {tl th : TO} {a : Addr} {xs : List V} {lo hi : Option Int} (h : Ev te σ H (.ref a)) (ha : H a = some (.tup xs)) (h1 : EvO tl σ H lo) (h2 : EvO th σ H hi) : EvW (tSl (rSlA K) te tl th) σ H (cutV xs lo hi) := fun H1 e Q q =>
  h H1 e _ fun H2 e2 => h1 H2 (e.trans e2) _ fun H3 e3 => h2 H3 ((e.trans e2).trans e3) _ fun H4 e4 => sl_go (((e.trans e2).trans e3).trans e4 a _ ha) fun b H5 e5 h5 => q b H5 (((e2.trans e3).trans e4).trans e5) h5
theorem ew_cat {σ : L2.St} {H : Hp} {ta tb : TE} {xs ys : List V} (ha : EvW ta σ H xs) (hb : EvW tb σ H ys) (hn : xs.length + ys.length ≤ 100000) : EvW (tOp (rCatA K) ta tb) σ H (xs ++ ys) := fun H1 e Q q =>
  ha H1 e _ fun a H2 e2 h2 => hb H2 (e.trans e2) _ fun b H3 e3 h3 => cat_go (e3 a _ h2) h3 hn fun c H4 e4 h4 => q c H4 ((e2.trans e3).trans e4) h4
theorem bent_none (F : FnP K "_law_bent" (topS 63) f fd) (hm : mg "_law_bent" = some (.ref f)) : C8.Cal P w K mg base 4 "_law_bent" (fun _ _ _ _ => False) [] :=
  cal_of (N := ["_law_bowl_here", "_law_thing", "_law_way", "_law_at"]) F hm sc__law_bent (fun _ _ _ _ _ _ us hl => match us, hl with | [_, _], _ => rfl) (fun _ _ _ _ h => h.elim) fun _ _ _ _ _ _ _ _ _ h => h.elim
theorem bent_step {m : Nat} {spR : Sp} (F : FnP K "_law_bent" (topS 63) f fd) (hm : mg "_law_bent" = some (.ref f)) (G : Nm K mg)
    (c__law_pull : C8.Cal P w K mg base 1 "_law_pull" spPull []) (c__law_odd : C8.Cal P w K mg base 3 "_law_odd" (PrZ preOdd) []) (c__law_bent : C8.Cal P w K mg base (m + 4) "_law_bent" spR [])
    (hR : ∀ m', m = m' + 1 → ∀ vs H Q E, PrZ (preBent m') vs H Q E → spR vs H Q E) : C8.Cal P w K mg base (m + 5) "_law_bent" (PrZ (preBent m)) [] := by
  have nd := sc__law_bent.nd
  refine cal_of F hm sc__law_bent (fun _ _ _ _ _ _ us hl => match us, hl with | [_, _], _ => rfl) (fun vs H Q E h => ?_) fun cdv A outer s H vs Q E hr h => ?_
  · obtain ⟨_, _, _, ⟨_, _, _, rfl, _⟩, _⟩ := h
    rfl
  obtain ⟨p, _, _, ⟨v, d, n0, rfl, hd, hlf, hsz, hn0, hdep, rfl, rfl⟩, hB, hQ⟩ := h
  have hrm : Room (m + 4) _ := hr
  replace hr := hr.mono (show 3 ≤ m + 4 by omega)
  refine ⟨_, (pss_cons (ps_set (i := 2) nd rfl (Or.inl rfl) (C8.pe_c c__law_pull hr (by decide) rfl (pa_cons (pv 0) (pa_cons pe_int pa_nil))))
  (pss_cons (ps_if (PW.pt (pw_or (pt_not (pt_val (pe_callB (kcall_isi (K := K) rfl) (by rfl) G.n_isinstance PyProof.Rows.boot_isinstance (pa_cons (pv 1) (pa_cons (pe_bltn (v := .ty "tuple") (by rfl) G.n_tuple PyProof.Rows.boot_tuple rfl) pa_nil))))) (pw_or (pt_cmpR (kop_eqE (K := K) rfl (u0 hr)) (pv 1) (pe_tup pa_nil) (nomark _)) (pw_or1 (pt_cmpR op_eq (pv 2) pe_int (nomark _)))))) (pss_one (ps_ret (C8.pe_c c__law_odd hr (by decide) rfl (pa_cons (pv 0) pa_nil)))) pss_nil)
  (pss_cons (ps_set (i := 3) nd rfl (Or.inl rfl) (C8.pe_c c__law_pull hr (by decide) rfl (pa_cons (pv 0) (pa_cons (pe_callB (kcall_len (K := K) rfl) (by rfl) G.n_len PySem.boot_len (pa_cons (pv 1) pa_nil)) pa_nil))))
  (pss_cons (ps_if (pt_cmpR op_eq (pv 2) pe_int (nomark _)) (pss_one (ps_ret (pe_op (kop_catA (K := K) rfl) (pe_slice (ksl_tup (K := K) rfl) (pv 1) po_none (po_some (pv 3))) (pe_slice (ksl_tup (K := K) rfl) (pv 1) (po_some (pe_op op_add (pv 3) pe_int)) po_none)))) pss_nil)
  (pss_cons (ps_if (pt_cmpR op_eq (pv 2) pe_int (nomark _)) (pss_one (ps_ret (pe_op (kop_catA (K := K) rfl) (pe_op (kop_catA (K := K) rfl) (pe_slice (ksl_tup (K := K) rfl) (pv 1) po_none (po_some (pv 3))) (pe_tup (pa_cons (pe_ix (kix_tup (K := K) rfl) (pv 1) (pv 3) (fun _ _ => rfl)) pa_nil))) (pe_slice (ksl_tup (K := K) rfl) (pv 1) (po_some (pv 3)) po_none)))) pss_nil)
  (pss_cons (ps_if (pt_cmpR op_eq (pv 2) pe_int (nomark _)) (pss_one (ps_ret (pe_revT (pv 1)))) pss_nil)
  (pss_one (ps_ret (pe_op (kop_catA (K := K) rfl) (pe_op (kop_catA (K := K) rfl) (pe_slice (ksl_tup (K := K) rfl) (pv 1) po_none (po_some (pv 3))) (pe_tup (pa_cons (C8.pe_c c__law_bent hrm (Nat.le_refl _) rfl (pa_cons (pv 0) (pa_cons (pe_ix (kix_tup (K := K) rfl) (pv 1) (pv 3) (fun _ _ => rfl)) pa_nil))) pa_nil))) (pe_slice (ksl_tup (K := K) rfl) (pv 1) (po_some (pe_op op_add (pv 3) pe_int)) po_none)))))))))), ?_⟩
  refine g_asg hB (go_pull (ev_var rfl) ev_c (by decide) (by decide)) fun v1 H1 e1 b1 ⟨way, ew, w0, w1⟩ => ?_
  subst ew
  replace hd := hd.keep e1
  have oddR : ∀ {D : Ends} {σ' : L2.St} {H2 : Hp}, σ'[0]? = some (some (V.ref p)) → Exb p H H2 → bowlAt p H2 → D.rt = Q → tRet (tCall (PrZ preOdd) [] C8.E0 (tCons (tVar 0) tNil)) D σ' H2 := fun s0 x2 b2 eD => by
    refine g_ret b2 (go_z (n := 300) (k := 3) (ea_cons (ev_var s0) ea_nil) fun H3 e3 => ⟨rfl, rfl, rfl⟩) fun v H3 e3 b3 z => ?_
    rw [eD]
    exact hQ v H3 (x2.trans e3) b3 (z.le (by omega) (by omega))
  cases ht : isaTup d with
  | false => exact q_when (et_orT (et_notF (et_is (et_B (ev_isiV rfl hd (kit_tup d))) ht))) (fun hb H2 e2 => oddR rfl (e1.ex e2) (b1.ex e2) rfl) fun hb => by cases hb
  | true =>
  obtain ⟨ds, rfl⟩ := tup_of ht
  obtain ⟨a, xs, rfl, na, ha, hx⟩ := hd.tupE
  have hlen := hx.length
  refine q_when (et_or (et_not (et_is (et_B (ev_isiV rfl hd (kit_tup _))) ht)) fun _ => et_or (et_test (ev_eqT (ev_var rfl) ha)) fun _ => et_test (ev_op (ev_var rfl) ev_c (rv_eq rfl))) (fun hb H2 e2 => oddR rfl (e1.ex e2) (b1.ex e2) rfl) fun hb H2 e2 => ?_
  have hne : xs.isEmpty = false := by
    revert hb
    cases xs.isEmpty <;> simp
  have hpos : 0 < xs.length := by
    cases xs with
    | nil => cases hne
    | cons => simp
  rw [szD] at hsz
  have hcnt := szs_len ds
  have ha2 := e2 a _ ha
  refine g_asg (b1.ex e2) (go_pull (ev_var rfl) (ev_lenT (ev_var rfl) (st_of ha2)) (by omega) (by omega)) fun v2 H3 e3 b3 ⟨at', ea, a0, a1⟩ => ?_
  subst ea
  obtain ⟨j, rfl⟩ := Int.eq_ofNat_of_zero_le a0
  have hj : j < xs.length := by omega
  have x3 : Exb p H H3 := (e1.ex e2).trans e3
  have ha3 := e3 a _ na ha2
  replace hx := (hx.ex e2).keep e3
  have hla : ∀ d, d ∈ ds → Lf d := by
    cases hlf
    assumption
  rw [PyData.depth] at hdep
  have hda : ∀ d, d ∈ ds → d.depth + 1 ≤ m := fun d hd => by
    have := depth_mem hd
    omega
  have hjd : j < ds.length := by omega
  have eL : ∀ {te : TE} {σ' : L2.St} {H4 : Hp}, σ'[1]? = some (some (V.ref a)) → σ'[3]? = some (some (V.int (j : Int))) → H4 a = some (.tup xs) → EvW (tSl (rSlA K) (tVar 1) tNoPart (tPart (tVar 3))) σ' H4 (xs.take j) := fun s1 s3 h4 => by
    rw [← cut_hi (by omega)]
    exact ew_sl (ev_var s1) h4 eo_none (eo_some (ev_var s3))
  have eR : ∀ {σ' : L2.St} {H4 : Hp}, σ'[1]? = some (some (V.ref a)) → σ'[3]? = some (some (V.int (j : Int))) → H4 a = some (.tup xs) → EvW (tSl (rSlA K) (tVar 1) (tPart (tVar 3)) tNoPart) σ' H4 (xs.drop j) := fun s1 s3 h4 => by
    rw [← cut_lo (by omega)]
    exact ew_sl (ev_var s1) h4 (eo_some (ev_var s3)) eo_none
  have eR1 : ∀ {σ' : L2.St} {H4 : Hp}, σ'[1]? = some (some (V.ref a)) → σ'[3]? = some (some (V.int (j : Int))) → H4 a = some (.tup xs) → EvW (tSl (rSlA K) (tVar 1) (tPart (tOp (rI0 fun i j => .int (i + j)) (tVar 3) (tC (.int 1)))) tNoPart) σ' H4 (xs.drop (j + 1)) := fun s1 s3 h4 => by
    rw [← cut_lo (j := j + 1) (by omega)]
    exact ew_sl (ev_var s1) h4 (eo_some (ev_op (ev_var s3) ev_c rv_I0)) eo_none
  have q1 : szs (ds.take j) + szs (ds.drop j) = szs ds := szs_perm j
  have dj : ds.drop j = ds[j] :: ds.drop (j + 1) := List.drop_eq_getElem_cons hjd
  have q2 : szs (ds.drop j) = szD ds[j] + 2 + szs (ds.drop (j + 1)) := by rw [dj, szs]
  have mt : ∀ {k : Nat} d, d ∈ ds.take k → d ∈ ds := fun d h => List.mem_of_mem_take h
  have md : ∀ {k : Nat} d, d ∈ ds.drop k → d ∈ ds := fun d h => List.mem_of_mem_drop h
  have fin : ∀ {c : Addr} {H4 : Hp} {zs : List V} {es : List PyData}, Exb p H H4 → bowlAt p H4 → H4 c = some (.tup zs) → DTs p H4 zs es → (∀ d, d ∈ es → Lf d ∧ d.depth ≤ m + 2) → szs es + 10 ≤ 2 * n0 + 400 → Q (.ref c) H4 := fun x4 b4 h4 z4 l4 s4 => hQ _ _ x4 b4 (dz_tup b4 h4 z4 l4 s4)
  obtain ⟨xj, hxj, hdj⟩ := hx.getD (show ds[j]? = some ds[j] by simp [hjd])
  refine q_when (et_test (ev_op (ev_var rfl) ev_c (rv_eq rfl))) (fun hb H4 e4 => ?_) fun hb H4 e4 => ?_
  · refine s_retW (ew_cat (eL (te := tC .non) rfl rfl (e4 a _ ha3)) (eR1 rfl rfl (e4 a _ ha3)) (by rw [List.length_take, List.length_drop]; omega)) fun c H5 e5 h5 => ?_
    refine fin (x3.ex (e4.trans e5)) (b3.ex (e4.trans e5)) h5 (DTs.app ((hx.ex (e4.trans e5)).take j) ((hx.ex (e4.trans e5)).drop (j + 1))) (fun d hd => ?_) (by rw [szs_app]; omega)
    rcases List.mem_append.mp hd with hd | hd
    · exact ⟨hla d (mt d hd), by have := hda d (mt d hd); omega⟩
    · exact ⟨hla d (md d hd), by have := hda d (md d hd); omega⟩
  replace ha3 := e4 a _ ha3
  replace hx := hx.ex e4
  replace hdj := hdj.ex e4
  replace x3 := x3.ex e4
  replace b3 := b3.ex e4
  refine q_when (et_test (ev_op (ev_var rfl) ev_c (rv_eq rfl))) (fun hb H5 e5 => ?_) fun hb H5 e5 => ?_
  · refine s_retW (ew_cat (ew_cat (eL (te := tC .non) rfl rfl (e5 a _ ha3)) (EvU.w (eu_tup (vs := [xj]) (ea_cons (ev_op (ev_var rfl) (ev_var rfl) (rv_ixT (st_of (e5 a _ ha3)) (at_nat j hxj))) ea_nil) (by simp))) (by rw [List.length_take]; simp; omega)) (eR rfl rfl (e5 a _ ha3)) (by rw [List.length_append, List.length_take, List.length_drop]; simp; omega)) fun c H6 e6 h6 => ?_
    refine fin (x3.ex (e5.trans e6)) (b3.ex (e5.trans e6)) h6 (DTs.app (DTs.app ((hx.ex (e5.trans e6)).take j) (.cons (hdj.ex (e5.trans e6)) .nil)) ((hx.ex (e5.trans e6)).drop j)) (fun d hd => ?_) (by rw [szs_app, szs_app, szs, szs]; omega)
    rcases List.mem_append.mp hd with hd | hd
    · rcases List.mem_append.mp hd with hd | hd
      · exact ⟨hla d (mt d hd), by have := hda d (mt d hd); omega⟩
      · have : d = ds[j] := by simpa using hd
        rw [this]
        have hm := List.getElem_mem hjd
        exact ⟨hla _ hm, by have := hda _ hm; omega⟩
    · exact ⟨hla d (md d hd), by have := hda d (md d hd); omega⟩
  replace ha3 := e5 a _ ha3
  replace hx := hx.ex e5
  replace hdj := hdj.ex e5
  replace x3 := x3.ex e5
  replace b3 := b3.ex e5
  refine q_when (et_test (ev_op (ev_var rfl) ev_c (rv_eq rfl))) (fun hb H6 e6 => ?_) fun hb H6 e6 => ?_
  · refine ⟨_, rfl, a, xs, rfl, st_of (e6 a _ ha3), fun c nc => ?_⟩
    refine fin ((x3.ex e6).ex (Ex.new nc)) ((b3.ex e6).ex (Ex.new nc)) upd_same (((hx.ex e6).ex (Ex.new nc)).rev) (fun d hd => ?_) (by rw [szs_rev]; omega)
    have hd := List.mem_reverse.mp hd
    exact ⟨hla d hd, by have := hda d hd; omega⟩
  replace ha3 := e6 a _ ha3
  replace hx := hx.ex e6
  replace hdj := hdj.ex e6
  replace x3 := x3.ex e6
  replace b3 := b3.ex e6
  have hm1 : ∃ m', m = m' + 1 := ⟨m - 1, by have := hda _ (List.getElem_mem hjd); omega⟩
  obtain ⟨m', em⟩ := hm1
  refine eL (te := tC .non) rfl rfl ha3 H6 (Ex.refl _) _ fun c1 H7 e7 h7 => ?_
  refine ⟨_, rfl, _, rfl, _, rfl, ⟨a, xs, _, xj, rfl, rfl, st_of (e7 a _ ha3), at_nat j hxj, ?_⟩⟩
  refine hR m' em _ _ _ _ ⟨p, _, _, ⟨xj, ds[j], szD ds[j], rfl, hdj.ex e7, hla _ (List.getElem_mem hjd), Nat.le_refl _, by omega, by have := hda _ (List.getElem_mem hjd); omega, rfl, rfl⟩, b3.ex e7, fun y H8 e8 b8 ⟨dy, y1, y2, y3, y4⟩ => ?_⟩
  refine ⟨show 1 ≤ sizeLine by decide, fun u nu => ?_⟩
  have x8 := ((x3.ex e7).trans e8).ex (Ex.new nu (o := .tup [y]))
  have b8' := b8.ex (Ex.new nu (o := .tup [y]))
  have hu : upd H8 u (.tup [y]) u = some (.tup [y]) := upd_same
  have h8 := Ex.new nu (o := .tup [y]) c1 _ (e8 c1 _ (tup_ne (b3.ex e7) h7) h7)
  have ha8 := Ex.new nu (o := .tup [y]) a _ (e8 a _ na (e7 a _ ha3))
  replace hx := ((hx.ex e7).keep e8).ex (Ex.new nu (o := .tup [y]))
  replace y1 := y1.ex (Ex.new nu (o := .tup [y]))
  generalize upd H8 u (.tup [y]) = H9 at x8 b8' hu h8 ha8 hx y1
  refine cat_go h8 hu (by rw [List.length_take]; simp; omega) fun c2 H10 e10 h10 => ?_
  refine eR1 rfl rfl (e10 a _ ha8) H10 (Ex.refl _) _ fun c3 H11 e11 h11 => ?_
  refine cat_go (e11 c2 _ h10) h11 (by rw [List.length_append, List.length_take, List.length_drop]; simp; omega) fun c4 H12 e12 h12 => ?_
  have e9 := (e10.trans e11).trans e12
  refine fin (x8.ex e9) (b8'.ex e9) h12 (DTs.app (DTs.app ((hx.ex e9).take j) (.cons (y1.ex e9) .nil)) ((hx.ex e9).drop (j + 1))) (fun d hd => ?_) (by rw [szs_app, szs_app, szs, szs]; omega)
  rcases List.mem_append.mp hd with hd | hd
  · rcases List.mem_append.mp hd with hd | hd
    · exact ⟨hla d (mt d hd), by have := hda d (mt d hd); omega⟩
    · have : d = dy := by simpa using hd
      rw [this]
      exact ⟨y2, by omega⟩
  · exact ⟨hla d (md d hd), by have := hda d (md d hd); omega⟩
theorem c__law_bent (F : FnP K "_law_bent" (topS 63) f fd) (hm : mg "_law_bent" = some (.ref f)) (G : Nm K mg)
    (c__law_pull : C8.Cal P w K mg base 1 "_law_pull" spPull []) (c__law_odd : C8.Cal P w K mg base 3 "_law_odd" (PrZ preOdd) []) : ∀ m, C8.Cal P w K mg base (m + 5) "_law_bent" (PrZ (preBent m)) []
  | 0 => by
    have c0 : C8.Cal P w K mg base 4 "_law_bent" (fun _ _ _ _ => False) [] := by
      obtain ⟨f', fd', ps, ds, FO, a, b, c, d⟩ := (bent_none F hm : C8.Cal P w K mg base 4 "_law_bent" (fun _ _ _ _ => False) []).ex
      exact ⟨f', fd', ps, ds, FO, a, b, c, d⟩
    exact bent_step (m := 0) F hm G c__law_pull c__law_odd c0 fun m' h => by omega
  | m + 1 => bent_step (m := m + 1) F hm G c__law_pull c__law_odd (c__law_bent F hm G c__law_pull c__law_odd m) fun m' h vs H Q E q => by
    obtain rfl : m = m' := by omega
    exact q
end
end K35
set_option maxHeartbeats 4000000
/-! P17: any rows, wide rows, the bowl -/
namespace K35
open PySem PySem.Spec PyProof.Rows L2 Evl

def nm7 : List Str := ["a", "b", "c1", "d", "m0", "x", "z"]
theorem nm7_ok : ∀ z, z ∈ nm7 → StrOk z := by
  have : (nm7.all fun z => decide (z.length ≤ 6) && (z.cps.toList.all fun c => decide (c < 16 ^ 8))) = true := by decide +kernel
  intro z hz
  have q := List.all_eq_true.mp this z hz
  rw [Bool.and_eq_true] at q
  exact ⟨of_decide_eq_true q.1, q.2⟩
theorem end_ok : StrOk "end" := ⟨by decide +kernel, by decide +kernel⟩
section
variable {P : Program} {w : World} {K : PySem.W.Frag} {mg : Str → Option Value} {base : Heap} {f : Addr} {fd : FuncData}
theorem par_go {i j : Nat} {ta : TA} {tz : TS} {D : Ends} {σ : L2.St} {H : Hp} (h : ta σ H fun vs H1 => ∃ v w, vs = [v, w] ∧ tz D ((σ.set i (some v)).set j (some w)) H1) : tSeq (tPar i j ta) tz D σ H := h
theorem cb1 {r : List V → Hp → VK → Prop} {te : TE} {σ : L2.St} {H : Hp} {Q : VK} (h : te σ H fun v H1 => r [v] H1 Q) : tCB r (tCons te tNil) σ H Q := h
theorem seq_asg {te : TE} {g : TG} {tz : TS} {D : Ends} {σ : L2.St} {H : Hp} (h : te σ H fun v H1 => g v σ H1 (tz D)) : tSeq (tAsg te g) tz D σ H := h
theorem lst1 {te : TE} {σ : L2.St} {H : Hp} {Q : VK} (h : te σ H fun v H1 => [v].length ≤ sizeLine ∧ ∀ p, H1 p = none → Q (.ref p) (upd H1 p (.lst [v]))) : tLst (tCons te tNil) σ H Q := h
theorem tup3c {te : TE} {x y : V} {σ : L2.St} {H : Hp} {Q : VK} (h : te σ H fun v H1 => [x, y, v].length ≤ sizeLine ∧ ∀ p, H1 p = none → Q (.ref p) (upd H1 p (.tup [x, y, v]))) : tTup (tCons (tC x) (tCons (tC y) (tCons te tNil))) σ H Q := h
theorem cons_L {te : TE} {tr : TA} {σ : L2.St} {H : Hp} {xs : List V} {Q : List V → Hp → Prop} (h : EvL te σ H xs) (k : ∀ a H1, H a = none → Ex H H1 → H1 a = some (.lst xs) → tr σ H1 fun vs H2 => Q (V.ref a :: vs) H2) : tCons te tr σ H Q := h H (Ex.refl H) _ k
theorem ite_go {b : Bool} {A B : Prop} (h1 : b = true → A) (h2 : b = false → B) : if b = true then A else B := by
  cases b
  · exact h2 rfl
  · exact h1 rfl
theorem gi_newL {p : Addr} {tl : TE} {σ : L2.St} {H : Hp} {xs : List V} (h : EvL tl σ H xs) : GoI p (iList K tl) σ H xs := fun hB R q =>
  h H (Ex.refl H) _ fun a H1 na e1 ha => ⟨a, rfl, ⟨xs, sq_of ha⟩, q _ H1 (.of e1) (hB.ex e1) (by
    have n := bowl_new hB na
    exact ⟨fun H2 e2 i hi => ⟨xs, xs[i], sq_of (e2 a _ n ha), by simp [hi]⟩, fun H2 e2 i x H3 _ ⟨e, r⟩ => ⟨e, r xs (sq_of (e2 a _ n ha))⟩, fun H2 e2 => ⟨xs, sq_of (e2 a _ n ha), Nat.le_refl _⟩⟩)⟩
theorem dzu_list {n k : Nat} {H : Hp} {xs : List V} (hx : ∀ v, v ∈ xs → Dzu n k H v) : ∃ ds : List PyData, xs.length = ds.length ∧ (∀ (i : Nat) v d, xs[i]? = some v → ds[i]? = some d → DU H v d) ∧ ∀ d, d ∈ ds → Lf d ∧ szD d ≤ n ∧ d.depth ≤ k := by
  induction xs with
  | nil => exact ⟨[], rfl, fun i v d h => by simp at h, fun d hd => by simp at hd⟩
  | cons x xs ih =>
    obtain ⟨ds, h1, h2, h3⟩ := ih fun v hv => hx v (List.mem_cons_of_mem _ hv)
    obtain ⟨d, k1, k2⟩ := hx x List.mem_cons_self
    refine ⟨d :: ds, by simp [h1], fun i v e hv he => ?_, fun e he => ?_⟩
    · cases i with
      | zero =>
        simp at hv he
        subst hv he
        exact k1
      | succ i => exact h2 i v e (by simpa using hv) (by simpa using he)
    · rcases List.mem_cons.mp he with rfl | he
      · exact k2
      · exact h3 e he
theorem dzu_cons {n1 n2 k : Nat} {H : Hp} {a : Addr} {x : V} {xs : List V} (h : H a = some (.tup (x :: xs))) (h1 : Dzu n1 k H x) (hx : ∀ v, v ∈ xs → Dzu n2 k H v) : Dzu (n1 + 2 + (n2 + 2) * xs.length + 10) (k + 1) H (.ref a) := by
  obtain ⟨d, d1, d2, d3, d4⟩ := h1
  obtain ⟨ds, l1, l2, l3⟩ := dzu_list hx
  refine ⟨.tuple (d :: ds), .tup h (by simp [l1]) fun i v e hv he => ?_, .tup fun e he => ?_, ?_, ?_⟩
  · cases i with
    | zero =>
      simp at hv he
      subst hv he
      exact d1
    | succ i => exact l2 i v e (by simpa using hv) (by simpa using he)
  · rcases List.mem_cons.mp he with q | he
    · rw [q]
      exact d2
    · exact (l3 e he).1
  · rw [szD, szs, l1]
    have := szs_all fun d hd => (l3 d hd).2.1
    omega
  · rw [PyData.depth, PyData.depthAll]
    have := depth_all fun d hd => (l3 d hd).2.2
    omega
theorem dzu_three {n k : Nat} {H : Hp} {a : Addr} {x y z : V} (h : H a = some (.tup [x, y, z])) (h1 : Dzu n k H x) (h2 : Dzu n k H y) (h3 : Dzu n k H z) : Dzu ((n + 2) * 3 + 10) (k + 1) H (.ref a) := dzu_tup h fun v hv => by
  simp only [List.mem_cons, List.not_mem_nil, or_false] at hv
  rcases hv with rfl | rfl | rfl
  · exact h1
  · exact h2
  · exact h3
def preAny : List V → Hp → Addr → Nat → Nat → Prop := fun vs H p n k => ∃ b kinds, vs = [.ref p, .ref b] ∧ b ≠ p ∧ strsAt H b kinds ∧ 1 ≤ kinds.length ∧ kinds.length ≤ 10 ∧ n = 10200 ∧ k = 5
theorem sc__law_any_rows : FnScope ["_law_bowl_here", "_law_kinds_here", "_law_names", "_law_table", "_law_k", "_law_last", "_law_name", "_law_is_end"] ["_law_bowl_here", "_law_kinds_here"] (defScope (topS 52)) :=
  ⟨rfl, rfl, rfl, by decide +kernel, rfl, by decide +kernel, by decide +kernel⟩
theorem back_none {p l : Addr} {H H' : Hp} (e : Exb p H H') (n : l ≠ p) (h : H' l = none) : H l = none := by
  cases q : H l with
  | none => rfl
  | some o =>
    rw [e l _ n q] at h
    cases h
theorem c__law_any_rows (F : FnP K "_law_any_rows" (topS 52) f fd) (hm : mg "_law_any_rows" = some (.ref f)) (G : Nm K mg)
    (c__law_pull : C8.Cal P w K mg base 1 "_law_pull" spPull []) (c__law_one_of : C8.Cal P w K mg base 2 "_law_one_of" spOne [])
    (c__law_number : C8.Cal P w K mg base 3 "_law_number" (PrU preNum) []) (c__law_inner : C8.Cal P w K mg base 3 "_law_inner" (PrU preInner) []) : C8.Cal P w K mg base 4 "_law_any_rows" (PrU preAny) [] := by
  have nd := sc__law_any_rows.nd
  refine cal_of F hm sc__law_any_rows (fun _ _ _ _ _ _ us hl => match us, hl with | [_, _], _ => rfl) (fun vs H Q E h => ?_) fun cdv A outer s H vs Q E hr h => ?_
  · obtain ⟨_, _, _, ⟨_, _, rfl, _⟩, _⟩ := h
    rfl
  obtain ⟨p, _, _, ⟨b, kinds, rfl, nb, ⟨hb, okb⟩, k1, k10, rfl, rfl⟩, hB, hQ⟩ := h
  refine ⟨_, (pss_cons (ps_par (i := 2) (j := 3) (by rfl) nd rfl rfl (by decide) rfl rfl (pa_cons (pe_lst (pa_cons pe_str (pa_cons pe_str (pa_cons pe_str (pa_cons pe_str (pa_cons pe_str (pa_cons pe_str (pa_cons pe_str pa_nil)))))))) (pa_cons (pe_lst pa_nil) pa_nil)) (by rfl))
  (pss_cons (ps_for PassesOwn.never rfl (pi_range1 (by rfl) G.n_range (pa_cons (C8.pe_c c__law_one_of hr (by decide) rfl (pa_cons (pv 0) (pa_cons (pe_lst (pa_cons pe_int (pa_cons pe_int (pa_cons pe_int (pa_cons pe_int (pa_cons pe_int pa_nil)))))) pa_nil))) pa_nil)) (pg_name (i := 4) nd rfl (Or.inl rfl)) (pss_one (ps_expr (pe_bm PySem.F.plainAttrs_list PySem.F.slot_list_pop PySem.F.type_list_pop mt_popAt (pv 2) (pa_cons (C8.pe_c c__law_pull hr (by decide) rfl (pa_cons (pv 0) (pa_cons (pe_callB (kcall_len (K := K) rfl) (by rfl) G.n_len PySem.boot_len (pa_cons (pv 2) pa_nil)) pa_nil))) pa_nil)))))
  (pss_cons (ps_set (i := 5) nd rfl (Or.inl rfl) (C8.pe_c c__law_one_of hr (by decide) rfl (pa_cons (pv 0) (pa_cons (pv 2) pa_nil))))
  (pss_cons (ps_for PassesOwn.never rfl (kpi_list (K := K) rfl (pv 2)) (pg_name (i := 6) nd rfl (Or.inl rfl)) (pss_cons (ps_set (i := 7) nd rfl (Or.inl rfl) (pe_or (pe_cmpR op_eq (pv 6) (pv 5) (nomark _)) (pe_one (pe_cmpR op_eq (C8.pe_c c__law_pull hr (by decide) rfl (pa_cons (pv 0) (pa_cons pe_int pa_nil))) pe_int (nomark _)))))
  (pss_one (ps_expr (pe_bm PySem.F.plainAttrs_list PySem.F.slot_list_append PySem.F.type_list_append mt_append (pv 3) (pa_cons (pe_ifExp (pt_val (pv 7)) (pe_tup (pa_cons (pv 6) (pa_cons pe_str (pa_cons (C8.pe_c c__law_number hr (by decide) rfl (pa_cons (pv 0) pa_nil)) pa_nil)))) (C8.pe_c c__law_inner hr (by decide) rfl (pa_cons (pv 0) (pa_cons (pv 6) (pa_cons (pv 2) (pa_cons (pv 1) pa_nil)))))) pa_nil))))))
  (pss_one (ps_ret (pe_callTy (kcall_tuple (K := K) rfl) (by rfl) G.n_tuple PyProof.Rows.boot_tuple (pa_cons (pv 3) pa_nil)))))))), ?_⟩
  refine par_go (cons_L (xs := nm7.map V.str) (el_lst (ea_cons ev_c (ea_cons ev_c (ea_cons ev_c (ea_cons ev_c (ea_cons ev_c (ea_cons ev_c (ea_cons ev_c ea_nil))))))) (show 7 ≤ 100000 by decide)) fun a H1 fa e1 ha => ⟨by simp, fun t nt => ⟨_, _, rfl, ?_⟩⟩)
  have nap : a ≠ p := bowl_new hB fa
  have b1 := hB.ex e1
  have ntp : t ≠ p := bowl_new b1 nt
  have ft : H t = none := fresh_back e1 nt
  have nat : a ≠ t := ne_of_none ha nt
  have e2 : Ex H (upd H1 t (.lst [])) := e1.trans (Ex.new nt)
  have b2 : bowlAt p (upd H1 t (.lst [])) := b1.ex (Ex.new nt)
  have ha2 : upd H1 t (.lst []) a = some (.lst (nm7.map V.str)) := Ex.new nt a _ ha
  have ht2 : upd H1 t (.lst []) t = some (.lst []) := upd_same
  show tSeq _ _ _ _ (upd H1 t (.lst []))
  generalize upd H1 t (.lst []) = H2 at e2 b2 ha2 ht2
  refine (go_oneL (ev_var rfl) (el_lst (ea_cons ev_c (ea_cons ev_c (ea_cons ev_c (ea_cons ev_c (ea_cons ev_c ea_nil))))) (show 5 ≤ 100000 by decide)) (show 0 < 5 by decide) (show 5 ≤ 1000000 by decide)) b2 _ fun v H3 e3 b3 hv => ?_
  have : ∃ r : Int, v = .int r ∧ 2 ≤ r ∧ r ≤ 5 := by
    simp only [List.mem_cons, List.not_mem_nil, or_false] at hv
    rcases hv with rfl | rfl | rfl | rfl | rfl
    · exact ⟨2, rfl, by decide, by decide⟩
    · exact ⟨3, rfl, by decide, by decide⟩
    · exact ⟨3, rfl, by decide, by decide⟩
    · exact ⟨4, rfl, by decide, by decide⟩
    · exact ⟨5, rfl, by decide, by decide⟩
  obtain ⟨r, rfl, r2, r5⟩ := this
  refine ⟨r, rfl, by omega, by omega, ?_⟩
  refine for_range (lo := 0) (n := r.toNat) (fun i σ' H' => ∃ c4 ns, σ' = [some (.ref p), some (.ref b), some (.ref a), some (.ref t), c4, none, none, none] ∧ Exb p H H' ∧ bowlAt p H' ∧ strsAt H' a ns ∧ ns.length + i = 7 ∧ H' t = some (.lst [])) ?_ ?_ ?_
  · exact ⟨none, nm7, rfl, (Exb.of e2).trans e3, b3, ⟨e3 a _ nap ha2, nm7_ok⟩, rfl, e3 t _ ntp ht2⟩
  · rintro i σ' H' hi ⟨c4, ns, rfl, ex, hb', ⟨ha', oka⟩, len, ht'⟩
    refine ⟨_, rfl, .inl ⟨rfl, _, sq_of ha'⟩, ?_⟩
    refine (go_pull (ev_var rfl) (ev_lenL (ev_var rfl) (sq_of ha')) (by rw [List.length_map]; omega) (by rw [List.length_map]; omega)) hb' _ fun v H4 e4 b4 ⟨r', er, r0, r1⟩ => ?_
    subst er
    obtain ⟨j, rfl⟩ := Int.eq_ofNat_of_zero_le r0
    rw [List.length_map] at r1
    have hj : j < ns.length := by omega
    refine ⟨a, _, (j : Int), j, .str ns[j], rfl, rfl, e4 a _ nap ha', by omega, by omega, seqIx (by rw [List.length_map]; exact hj), by simp [hj], ?_⟩
    refine ⟨_, ns.eraseIdx j, rfl, Exb.mut (ex.trans e4) fa, upd_bowl b4 nap, ⟨?_, fun z hz => oka z (mem_erase hz)⟩, ?_, ?_⟩
    · rw [upd_same, map_erase]
    · rw [List.length_eraseIdx, if_pos hj]
      omega
    · rw [upd_ne (Ne.symm nat)]
      exact e4 t _ ntp ht'
  · rintro σ' H4 ⟨c4, ns, rfl, ex4, b4, ⟨ha4, oka⟩, len, ht4⟩
    have l2 : 2 ≤ ns.length ∧ ns.length ≤ 5 := by omega
    refine g_asg b4 (go_one (ev_var rfl) (ev_var rfl) ha4 nap (by rw [List.length_map]; omega) (by rw [List.length_map]; omega)) fun v H5 e5 b5 hv => ?_
    obtain ⟨last, rfl, hlast⟩ := str_of_map hv
    have ha5 := e5 a _ nap ha4
    have ht5 := e5 t _ ntp ht4
    have ex5 := ex4.trans e5
    refine ⟨_, rfl, a, rfl, ⟨_, sq_of ha5⟩, ?_⟩
    refine for_list (xs := ns.map V.str) (fun i σ' H' => ∃ c6 c7 rows, σ' = [some (.ref p), some (.ref b), some (.ref a), some (.ref t), c4, some (.str last), c6, c7] ∧ Exb p H H' ∧ bowlAt p H' ∧ H' a = some (.lst (ns.map V.str)) ∧ H' t = some (.lst rows) ∧ rows.length = i ∧ ∀ v, v ∈ rows → Dzu 1450 4 H' v) ?_ ?_ ?_ ?_
    · exact ⟨none, none, [], rfl, ex5, b5, ha5, ht5, rfl, fun v hv => by simp at hv⟩
    · rintro i σ' H' hi ⟨_, _, _, _, _, _, h, _⟩
      exact sq_of h
    · rintro i x σ' H' hxi ⟨c6, c7, rows, rfl, ex, hb', ha', ht', len', hrows⟩
      have hi : i < ns.length := by
        have := (List.getElem?_eq_some_iff.mp hxi).1
        simpa using this
      obtain ⟨nm, rfl, hnm⟩ := str_of_map (List.mem_of_getElem? hxi)
      have okn := oka nm hnm
      -- is_end
      have isEnd : ∀ (Q' : VK), (∀ b H2, Exb p H' H2 → bowlAt p H2 → Q' (.bl b) H2) → tOrV (tOp rEq (tVar 6) (tVar 5)) (tOp rEq (tCall spPull [] C8.E0 (tCons (tVar 0) (tCons (tC (.int 4)) tNil))) (tC (.int 0))) [some (.ref p), some (.ref b), some (.ref a), some (.ref t), c4, some (.str last), some (.str nm), c7] H' Q' := fun Q' q' => by
        refine ⟨_, rfl, _, rfl, rfl, _, rfl, ?_⟩
        split
        · exact q' true H' (Exb.refl _ _) hb'
        · refine (go_pull (ev_var rfl) ev_c (by decide) (by decide)) hb' _ fun v H6 e6 b6 ⟨r', er, _, _⟩ => ?_
          subst er
          exact ⟨rfl, q' _ H6 e6 b6⟩
      refine isEnd _ fun eb H6 e6 b6 => ?_
      have ha6 := e6 a _ nap ha'
      have ht6 := e6 t _ ntp ht'
      have ex6 := ex.trans e6
      refine ⟨_, rfl, .inl ⟨rfl, _, sq_of ht6⟩, ?_⟩
      have row : ∀ (Q' : VK), (∀ v H2, Exb p H6 H2 → bowlAt p H2 → Dzu 1450 4 H2 v → Q' v H2) → tIf (tB (tVar 7)) (tTup (tCons (tVar 6) (tCons (tC (.str "end")) (tCons (tCall (PrU preNum) [] C8.E0 (tCons (tVar 0) tNil)) tNil)))) (tCall (PrU preInner) [] C8.E0 (tCons (tVar 0) (tCons (tVar 6) (tCons (tVar 2) (tCons (tVar 1) tNil))))) [some (.ref p), some (.ref b), some (.ref a), some (.ref t), c4, some (.str last), some (.str nm), some (.bl eb)] H6 Q' := fun Q' q' => by
        refine ⟨_, rfl, eb, rfl, ite_go (fun _ => ?_) fun _ => ?_⟩
        · refine ⟨_, rfl, (go_u (n := 34) (k := 1) (ea_cons (ev_var rfl) ea_nil) fun H7 e7 => ⟨rfl, rfl, rfl⟩) b6 _ fun v H7 e7 b7 z => ⟨show 3 ≤ sizeLine by decide, fun u nu => ?_⟩⟩
          exact q' _ _ (e7.ex (Ex.new nu)) (b7.ex (Ex.new nu)) (dzu_row upd_same okn end_ok ((z.mono (.of (Ex.new nu))).le (by omega) (by omega)))
        · refine (go_u (n := 1450) (k := 4) (ea_cons (ev_var rfl) (ea_cons (ev_var rfl) (ea_cons (ev_var rfl) (ea_cons (ev_var rfl) ea_nil)))) fun H7 e7 => ?_) b6 _ fun v H7 e7 b7 z => q' v H7 e7 b7 z
          exact ⟨nm, a, b, ns, kinds, rfl, okn, nap, nb, ⟨e7 a _ ha6, oka⟩, by omega, by omega, ⟨e7 b _ (ex6 b _ nb hb), okb⟩, k1, k10, rfl, rfl⟩
      refine row _ fun v H7 e7 b7 z => ?_
      have ht7 := e7 t _ ntp ht6
      refine ⟨t, rows, v, rfl, rfl, ht7, sz_lt (by omega), ?_⟩
      have up : ExT H7 (upd H7 t (.lst (rows ++ [v]))) := ExT.upd ht7
      refine ⟨_, _, rows ++ [v], rfl, Exb.mut (ex6.trans e7) ft, upd_bowl b7 ntp, ?_, upd_same, by simp [len'], fun x hx => ?_⟩
      · rw [upd_ne nat]
        exact e7 a _ nap ha6
      · rcases List.mem_append.mp hx with hx | hx
        · exact (hrows x hx).mono (((ExT.b e6 hb').trans (ExT.b e7 b6)).trans up)
        · have : x = v := by simpa using hx
          rw [this]
          exact z.mono up
    · rintro σ' H6 ⟨c6, c7, rows, rfl, ex6, b6, _, ht6, len6, hrows⟩
      refine ⟨_, rfl, t, rows, rfl, .inl ⟨sq_of ht6, fun u nu => ?_⟩⟩
      rw [List.length_map] at len6
      refine hQ _ _ (ex6.ex (Ex.new nu)) (b6.ex (Ex.new nu)) ((dzu_tup upd_same fun v hv => (hrows v hv).mono (.of (Ex.new nu))).le ?_ (by omega))
      omega
/-! ### wide -/
def digs : List Nat := ("0123456789" : Str).cps.toList
def nmE (k : Nat) : Str := ("e" : Str) ++ ⟨#[digs.getD (k / 10) 0]⟩ ++ ⟨#[digs.getD (k % 10) 0]⟩
theorem nmE_ok (k : Nat) (h : k < 24) : StrOk (nmE k) := by
  have : ((List.range 24).all fun k => decide ((nmE k).length ≤ 6) && ((nmE k).cps.toList.all fun c => decide (c < 16 ^ 8))) = true := by decide +kernel
  have q := List.all_eq_true.mp this k (List.mem_range.mpr h)
  rw [Bool.and_eq_true] at q
  exact ⟨of_decide_eq_true q.1, q.2⟩
def preWide : List V → Hp → Addr → Nat → Nat → Prop := fun vs _ p n k => vs = [.ref p] ∧ n = 10200 ∧ k = 5
theorem sc__law_wide : FnScope ["_law_bowl_here", "_law_size", "_law_wide_here", "_law_names", "_law_table", "_law_k", "_law_name"] ["_law_bowl_here"] (defScope (topS 64)) :=
  ⟨rfl, rfl, rfl, by decide +kernel, rfl, by decide +kernel, by decide +kernel⟩
theorem dig_at {i : Nat} (h : i < 10) : atI digs (i : Int) = some (digs.getD i 0) := by
  have l : digs.length = 10 := by decide +kernel
  refine at_nat i ?_
  rw [List.getD_eq_getElem?_getD]
  simp [l, h]
theorem ours_ok : StrOk "ours" ∧ StrOk "a" := ⟨⟨by decide +kernel, by decide +kernel⟩, ⟨by decide +kernel, by decide +kernel⟩⟩
theorem go_newtup {p : Addr} {σ : L2.St} {H : Hp} {ta : TA} {n k m : Nat} {vs : List V} (h : EvA ta σ H vs) (hl : vs.length = m) (hm : m ≤ 100000) (hv : ∀ H1, Ex H H1 → ∀ v, v ∈ vs → Dzu n k H1 v) : Go p (tTup ta) σ H (fun v H2 => Dzu ((n + 2) * m + 10) (k + 1) H2 v) := fun hB Q q =>
  h H (Ex.refl H) _ fun H1 e1 => ⟨sz_of (by omega), fun u nu => q _ _ (.of (e1.trans (Ex.new nu))) (hB.ex (e1.trans (Ex.new nu))) (by
    have := dzu_tup (n := n) (k := k) (upd_same (H := H1) (a := u) (o := .tup vs)) fun v hx => (hv H1 e1 v hx).mono (.of (Ex.new nu))
    rw [hl] at this
    exact this)⟩
theorem c__law_wide (F : FnP K "_law_wide" (topS 64) f fd) (hm : mg "_law_wide" = some (.ref f)) (G : Nm K mg)
    (c__law_one_of : C8.Cal P w K mg base 2 "_law_one_of" spOne []) : C8.Cal P w K mg base 3 "_law_wide" (PrU preWide) [] := by
  have nd := sc__law_wide.nd
  refine cal_of F hm sc__law_wide (fun _ _ _ _ _ _ us hl => match us, hl with | [_], _ => rfl) (fun vs H Q E h => ?_) fun cdv A outer s H vs Q E hr h => ?_
  · obtain ⟨_, _, _, ⟨rfl, _⟩, _⟩ := h
    rfl
  obtain ⟨p, _, _, ⟨rfl, rfl, rfl⟩, hB, hQ⟩ := h
  refine ⟨_, (pss_cons (ps_par (i := 1) (j := 2) (by rfl) nd rfl rfl (by decide) rfl rfl (pa_cons (C8.pe_c c__law_one_of hr (by decide) rfl (pa_cons (pv 0) (pa_cons (pe_lst (pa_cons pe_int (pa_cons pe_int (pa_cons pe_int pa_nil)))) pa_nil))) (pa_cons (C8.pe_c c__law_one_of hr (by decide) rfl (pa_cons (pv 0) (pa_cons (pe_lst (pa_cons pe_int (pa_cons pe_int (pa_cons pe_int pa_nil)))) pa_nil))) pa_nil)) (by rfl))
  (pss_cons (ps_setLc (i := 3) (own := [("_law_k", 5)]) rfl nd rfl rfl (sw_true rfl rfl rfl (by decide +kernel)) (pi_range1 (by rfl) G.n_range (pa_cons (pe_op op_sub (pv 1) pe_int) pa_nil)) (blkOk_by (own := [("_law_k", 5)]) (by rfl)) (fun _ _ _ _ _ => (pg_name (i := 5) nd rfl (Or.inl rfl))) (fun _ _ _ _ _ => pts_nil) (fun _ _ _ _ _ => (pe_op op_add_str (pe_op op_add_str pe_str (pe_ix ix_str pe_str (pe_op op_fdivW (pv 5) pe_int) (fun _ _ => rfl))) (pe_ix ix_str pe_str (pe_op op_mod (pe_callTy call_int1 (by rfl) G.n_int PyProof.Rows.boot_int (pa_cons (pv 5) pa_nil)) pe_int) (fun _ _ => rfl)))))
  (pss_cons (ps_set (i := 4) nd rfl (Or.inl rfl) (pe_lst (pa_cons (pe_tup (pa_cons pe_str (pa_cons pe_str (pa_cons (pe_callTy (kcall_tuple (K := K) rfl) (by rfl) G.n_tuple PyProof.Rows.boot_tuple (pa_cons (pe_lc (own := [("_law_name", 6)]) rfl nd (kpi_list (K := K) rfl (pe_slice (ksl_list (K := K) rfl) (pv 3) po_none (po_some (pv 2)))) (blkOk_by (own := [("_law_name", 6)]) (by rfl)) (fun _ _ _ _ _ => (pg_name (i := 6) nd rfl (Or.inl rfl))) (fun _ _ _ _ _ => pts_nil) (fun _ _ _ _ _ => (pe_tup (pa_cons (pv 6) (pa_cons (pe_tup (pa_cons pe_int (pa_cons pe_int pa_nil))) pa_nil))))) pa_nil)) pa_nil)))) pa_nil)))
  (pss_one (ps_ret (pe_callTy (kcall_tuple (K := K) rfl) (by rfl) G.n_tuple PyProof.Rows.boot_tuple (pa_cons (pe_op op_cat (pv 4) (pe_lc (own := [("_law_name", 6)]) rfl nd (kpi_list (K := K) rfl (pv 3)) (blkOk_by (own := [("_law_name", 6)]) (by rfl)) (fun _ _ _ _ _ => (pg_name (i := 6) nd rfl (Or.inl rfl))) (fun _ _ _ _ _ => pts_nil) (fun _ _ _ _ _ => (pe_tup (pa_cons (pv 6) (pa_cons pe_str (pa_cons (pe_tup (pa_cons pe_int (pa_cons pe_int pa_nil))) pa_nil))))))) pa_nil))))))), ?_⟩
  refine par_go ?_
  refine (go_oneL (ev_var rfl) (el_lst (ea_cons ev_c (ea_cons ev_c (ea_cons ev_c ea_nil))) (show 3 ≤ 100000 by decide)) (show 0 < 3 by decide) (show 3 ≤ 1000000 by decide)) hB _ fun v H1 e1 b1 hv => ?_
  refine (go_oneL (ev_var rfl) (el_lst (ea_cons ev_c (ea_cons ev_c (ea_cons ev_c ea_nil))) (show 3 ≤ 100000 by decide)) (show 0 < 3 by decide) (show 3 ≤ 1000000 by decide)) b1 _ fun v2 H2 e2 b2 hv2 => ?_
  have : ∃ n : Nat, v = .int ((n : Nat) : Int) ∧ 9 ≤ n ∧ n ≤ 25 := by
    simp only [List.mem_cons, List.not_mem_nil, or_false] at hv
    rcases hv with rfl | rfl | rfl
    · exact ⟨24, rfl, by decide, by decide⟩
    · exact ⟨25, rfl, by decide, by decide⟩
    · exact ⟨9, rfl, by decide, by decide⟩
  obtain ⟨n, rfl, n9, n25⟩ := this
  have : ∃ m : Nat, v2 = .int ((m : Nat) : Int) ∧ 1 ≤ m ∧ m ≤ 9 := by
    simp only [List.mem_cons, List.not_mem_nil, or_false] at hv2
    rcases hv2 with rfl | rfl | rfl
    · exact ⟨8, rfl, by decide, by decide⟩
    · exact ⟨9, rfl, by decide, by decide⟩
    · exact ⟨1, rfl, by decide, by decide⟩
  obtain ⟨m, rfl, m1, m9⟩ := this
  refine ⟨_, _, rfl, ?_⟩
  have x2 : Exb p H H2 := e1.trans e2
  refine q_asgL (xs := ((List.range (n - 1)).map nmE).map V.str) ?_ fun l H3 nl e3 hl => ?_
  · rw [List.map_map]
    have rn := ei_rng (n := (n : Int) - 1) (ev_op (r := rI0 fun i j => .int (i - j)) (ev_var (σ := [some (.ref p), some (.int (n : Int)), some (.int (m : Int)), none, none, none, none]) (H := H2) (i := 1) rfl) (ev_c (v := .int 1)) rv_I0) (by omega) (by omega)
    rw [show ((n : Int) - 1).toNat = n - 1 by omega] at rn
    refine el_mapA (as := List.range (n - 1)) (val := fun (i : Nat) => V.int (i : Int)) (fun k => V.str (nmE k)) rn (by rw [List.length_range]; omega) fun k H4 e4 hk => ⟨_, tg_name, rfl, ?_⟩
    have hk := List.mem_range.mp hk
    have d1 : ((k : Int) / 10) = ((k / 10 : Nat) : Int) := by omega
    have d2 : ((k : Int) % 10) = ((k % 10 : Nat) : Int) := by omega
    have i1 : RV rIxS (.str "0123456789") (.int ((k : Int) / 10)) H4 (.str ⟨#[digs.getD (k / 10) 0]⟩) := by
      rw [d1]
      exact rv_ixS (by decide +kernel) (dig_at (by omega))
    have i2 : RV rIxS (.str "0123456789") (.int ((k : Int) % 10)) H4 (.str ⟨#[digs.getD (k % 10) 0]⟩) := by
      rw [d2]
      exact rv_ixS (by decide +kernel) (dig_at (by omega))
    refine ev_op (ev_op ev_c (ev_op ev_c (ev_op (ev_var rfl) ev_c (rv_I (div_ok (by decide) (by decide)))) i1) (rv_addS ?_)) (ev_op ev_c (ev_op (ev_int1 (ev_var rfl)) ev_c (rv_I (by decide))) i2) (rv_addS ?_)
    · show (1 : Nat) + 1 ≤ 100000
      decide
    · rw [PySem.strLen_append]
      show (1 : Nat) + 1 + 1 ≤ 100000
      decide
  have b3 := b2.ex e3
  have nlp : l ≠ p := bowl_new b2 nl
  have okl : ∀ z, z ∈ (List.range (n - 1)).map nmE → StrOk z := fun z hz => by
    obtain ⟨k, hk, rfl⟩ := List.mem_map.mp hz
    exact nmE_ok k (by have := List.mem_range.mp hk; omega)
  have lenl : ((List.range (n - 1)).map nmE).length = n - 1 := by simp
  generalize (List.range (n - 1)).map nmE = ns at hl okl lenl
  -- the first row's pairs
  have pairs : ∀ {xs : List V} {te : TE} {H4 : Hp} {c4 : Option V}, (∀ v, v ∈ xs → v ∈ ns.map V.str) → xs.length ≤ 9 → GoI p (iList K te) [some (.ref p), some (.int (n : Int)), some (.int (m : Int)), some (.ref l), c4, none, none] H4 xs →
      Go p (tLc (iList K te) (gName 6) tYes (tTup (tCons (tVar 6) (tCons (tTup (tCons (tC (.int 0)) (tCons (tC (.int 1)) tNil))) tNil))) [6]) [some (.ref p), some (.int (n : Int)), some (.int (m : Int)), some (.ref l), c4, none, none] H4 (fun v H2 => ∃ l zs, v = .ref l ∧ H4 l = none ∧ H2 l = some (.lst zs) ∧ zs.length = xs.length ∧ ∀ z, z ∈ zs → Dzu 154 2 H2 z) := fun hx hl9 hI =>
    go_comp (C := fun v H => Dzu 154 2 H v) hI (by omega) (fun i x H5 e5 b5 hxi => ⟨_, tg_name, rfl, fun hB5 Q5 q5 => by
      obtain ⟨z, rfl, hz⟩ := str_of_map (hx x (List.mem_of_getElem? hxi))
      refine ⟨_, rfl, ⟨show 2 ≤ sizeLine by decide, fun u nu => ⟨show 2 ≤ sizeLine by decide, fun u2 nu2 => q5 _ _ (.of ((Ex.new nu).trans (Ex.new nu2))) (hB5.ex ((Ex.new nu).trans (Ex.new nu2))) (dzu_pair upd_same (okl z hz) (dzu_pr (x := (0, 1)) (Ex.new nu2 u _ upd_same) (by decide) (by decide)))⟩⟩⟩⟩) fun v H1 H2 e h => h.mono e
  -- table
  have ct : cutV (ns.map V.str) none (some (m : Int)) = (ns.map V.str).take m ∨ m > (ns.map V.str).length := by
    by_cases h : m ≤ (ns.map V.str).length
    · exact .inl (cut_hi h)
    · exact .inr (by omega)
  have g1 : Go p (tCB (fun xs H Q => ∃ p ys, xs = [.ref p] ∧ ((SqL K H p ys ∧ ∀ l, H l = none → Q (.ref l) (upd H l (.tup ys))) ∨ (SqT K H p ys ∧ Q (.ref p) H))) (tCons (tLc (iList K (tSl (rSlL K) (tVar 3) tNoPart (tPart (tVar 2)))) (gName 6) tYes (tTup (tCons (tVar 6) (tCons (tTup (tCons (tC (.int 0)) (tCons (tC (.int 1)) tNil))) tNil))) [6]) tNil))
      [some (.ref p), some (.int (n : Int)), some (.int (m : Int)), some (.ref l), none, none, none] H3 (fun v H2 => Dzu 1500 3 H2 v) := fun hB3 Q3 q3 => by
    have ev := el_sl (K := K) (σ := [some (.ref p), some (.int (n : Int)), some (.int (m : Int)), some (.ref l), none, none, none]) (te := tVar 3) (ev_var rfl) eo_none (eo_some (te := tVar 2) (i := (m : Int)) (ev_var rfl)) (sq_of hl)
    have cm : ∀ v, v ∈ cutV (ns.map V.str) none (some (m : Int)) → v ∈ ns.map V.str := fun v hv => by
      unfold cutV at hv
      exact List.mem_of_mem_drop (List.mem_of_mem_take hv)
    have cl : (cutV (ns.map V.str) none (some (m : Int))).length ≤ 9 := by
      unfold cutV
      rw [HT.sIx_none, HT.sIx_nat, List.length_take]
      omega
    refine cb1 (pairs cm cl (gi_newL ev) hB3 _ fun v H4 e4 b4 ⟨l4, zs, ev4, nl4, hl4, lz, hz⟩ => ?_)
    subst ev4
    refine ⟨l4, zs, rfl, .inl ⟨sq_of hl4, fun u nu => q3 _ _ (e4.ex (Ex.new nu)) (b4.ex (Ex.new nu)) ((dzu_tup upd_same fun v hv => (hz v hv).mono (.of (Ex.new nu))).le ?_ (by omega))⟩⟩
    rw [lz]
    omega
  refine seq_asg (lst1 (tup3c (g1 b3 _ fun v H4 e4 b4 z4 => ⟨show 3 ≤ sizeLine by decide, fun r0 nr0 => ⟨show 1 ≤ sizeLine by decide, fun t nt => ?_⟩⟩)))
  have hr0 : upd H4 r0 (.tup [.str "a", .str "ours", v]) r0 = some (.tup [.str "a", .str "ours", v]) := upd_same
  have x4 := e4.ex (Ex.new nr0 (o := .tup [.str "a", .str "ours", v]))
  have b4' := b4.ex (Ex.new nr0 (o := .tup [.str "a", .str "ours", v]))
  have z0 : Dzu 4516 4 (upd H4 r0 (.tup [.str "a", .str "ours", v])) (.ref r0) := dzu_three hr0 ((dzu_str ours_ok.2).le (by omega) (by omega)) ((dzu_str ours_ok.1).le (by omega) (by omega)) (z4.mono (.of (Ex.new nr0)))
  have ntp : t ≠ p := bowl_new b4' nt
  have ht : upd (upd H4 r0 (.tup [.str "a", .str "ours", v])) t (.lst [.ref r0]) t = some (.lst [.ref r0]) := upd_same
  have x5 := x4.ex (Ex.new nt (o := .lst [.ref r0]))
  have b5 := b4'.ex (Ex.new nt (o := .lst [.ref r0]))
  replace z0 := z0.mono (.of (Ex.new nt (o := .lst [.ref r0])))
  show tRet _ _ _ (upd (upd H4 r0 (.tup [.str "a", .str "ours", v])) t (.lst [.ref r0]))
  generalize upd (upd H4 r0 (.tup [.str "a", .str "ours", v])) t (.lst [.ref r0]) = H5 at ht x5 b5 z0
  have hl5 := x5 l _ nlp hl
  refine ⟨_, rfl, (go_comp (C := fun v H => Dzu 226 2 H v) (gi_list (ev_var rfl) hl5 nlp) (by rw [List.length_map]; omega) (fun i x H6 e6 b6 hxi => ⟨_, tg_name, rfl, fun hB6 Q6 q6 => ?_⟩) fun v H1 H2 e h => h.mono e) b5 _ fun v6 H6 e6 b6 ⟨l6, zs, ev6, nl6, hl6, lz, hz⟩ => ?_⟩
  · obtain ⟨z, rfl, hz⟩ := str_of_map (List.mem_of_getElem? hxi)
    refine ⟨_, rfl, ⟨show 2 ≤ sizeLine by decide, fun u nu => ⟨show 3 ≤ sizeLine by decide, fun u2 nu2 => q6 _ _ (.of ((Ex.new nu).trans (Ex.new nu2))) (hB6.ex ((Ex.new nu).trans (Ex.new nu2))) ?_⟩⟩⟩
    exact dzu_three (n := 70) (k := 1) upd_same ((dzu_str (okl z hz)).le (by omega) (by omega)) ((dzu_str end_ok).le (by omega) (by omega)) ((dzu_pr (x := (1, 1)) (Ex.new nu2 u _ upd_same) (by decide) (by decide)).le (by omega) (by omega))
  · subst ev6
    rw [List.length_map] at lz
    refine ⟨t, l6, _, _, rfl, rfl, e6 t _ ntp ht, hl6, sz_of (by simp; omega), fun c nc => ⟨c, _, rfl, .inl ⟨sq_of upd_same, fun u nu => ?_⟩⟩⟩
    have e8 : Ex H6 (upd (upd H6 c (.lst ([.ref r0] ++ zs))) u (.tup ([.ref r0] ++ zs))) := (Ex.new nc).trans (Ex.new nu)
    refine hQ _ _ ((((x2.ex e3).trans x5).trans e6).ex e8) (b6.ex e8) ((dzu_cons (n1 := 4516) (n2 := 226) (k := 4) upd_same ((z0.mono (.b e6 b5)).mono (.of e8)) fun v hv => ((hz v hv).mono (.of e8)).le (by omega) (by omega)).le ?_ (by omega))
    show 4516 + 2 + (226 + 2) * zs.length + 10 ≤ 10200
    omega
/-! ### the bowl -/
def spBowl (K : PySem.W.Frag) : Sp := fun vs H Q _ => ∃ (a : Addr) (ns : List Int) (k : Int), vs = [.ref a, .int k] ∧ SqL K H a (ns.map V.int) ∧ ns.length ≤ 10000 ∧ 0 ≤ k ∧ k ≤ 100 ∧ ∀ q H2 (x y z : Int), H q = none → Ex H H2 → H2 q = some (.lst [.int x, .int y, .int z]) → Q (.ref q) H2
theorem sc__law_bowl : FnScope ["_law_cells", "_law_k", "_law_cell", "_law_mixed", "_law_each", "_law_digits"] ["_law_cells", "_law_k"] (defScope (topS 44)) :=
  ⟨rfl, rfl, rfl, by decide +kernel, rfl, by decide +kernel, by decide +kernel⟩
theorem ev_abs {σ : L2.St} {H : Hp} {te : TE} {i : Int} (h : Ev te σ H (.int i)) : Ev (tCB (fun xs H Q => ∃ i, xs = [.int i] ∧ Q (.int (if i < 0 then -i else i)) H) (tCons te tNil)) σ H (.int (if i < 0 then -i else i)) := fun H1 e Q q =>
  h H1 e _ fun H2 e2 => ⟨i, rfl, q H2 e2⟩
theorem c__law_bowl (F : FnP K "_law_bowl" (topS 44) f fd) (hm : mg "_law_bowl" = some (.ref f)) (G : Nm K mg) : C8.Cal P w K mg base 1 "_law_bowl" (spBowl K) [] := by
  have nd := sc__law_bowl.nd
  refine cal_of F hm sc__law_bowl (fun _ _ _ _ _ _ us hl => match us, hl with | [_, _], _ => rfl) (fun vs H Q E h => ?_) fun cdv A outer s H vs Q E hr h => ?_
  · obtain ⟨_, _, _, rfl, _⟩ := h
    rfl
  obtain ⟨a, ns, k, rfl, ha, hn, k0, k9, hQ⟩ := h
  refine ⟨_, (pss_cons (ps_par (i := 2) (j := 3) (by rfl) nd rfl rfl (by decide) rfl rfl (pa_cons (pe_ifExp (pt_cmpR op_lt (pv 1) (pe_callB (kcall_len (K := K) rfl) (by rfl) G.n_len PySem.boot_len (pa_cons (pv 0) pa_nil)) (nomark _)) (pe_callTy call_int1 (by rfl) G.n_int PyProof.Rows.boot_int (pa_cons (pe_ix (kix_list (K := K) rfl) (pv 0) (pv 1) (fun _ _ => rfl)) pa_nil)) pe_int) (pa_cons (pe_op op_add (pe_op op_mul pe_int (pe_op op_add (pv 1) pe_int)) pe_int) pa_nil)) (by rfl))
  (pss_cons (ps_for PassesOwn.never rfl (kpi_list (K := K) rfl (pe_slice (ksl_list (K := K) rfl) (pv 0) po_none (po_some pe_int))) (pg_name (i := 4) nd rfl (Or.inl rfl)) (pss_one (ps_set (i := 3) nd rfl (Or.inl rfl) (pe_op op_mod (pe_callTy call_int1 (by rfl) G.n_int PyProof.Rows.boot_int (pa_cons (pe_op op_add (pe_op op_add (pe_op op_mul (pv 3) pe_int) (pe_op op_mod (pe_callTy call_int1 (by rfl) G.n_int PyProof.Rows.boot_int (pa_cons (pv 4) pa_nil)) pe_int)) (pe_op op_mul pe_int (pv 1))) pa_nil)) pe_int))))
  (pss_cons (ps_set (i := 5) nd rfl (Or.inl rfl) (pe_ifExp (PW.pt (pw_or (pt_cmpR op_lt (pv 2) pe_int (nomark _)) (pw_or1 (pt_cmpR op_ge (pv 2) (pe_op op_pow pe_int pe_int) (nomark _))))) (pe_callB call_abs (by rfl) G.n_abs PyProof.Rows.boot_abs (pa_cons (pv 2) pa_nil)) pe_int))
  (pss_one (ps_ret (pe_lst (pa_cons (pv 5) (pa_cons (pe_op op_mod (pe_callTy call_int1 (by rfl) G.n_int PyProof.Rows.boot_int (pa_cons (pe_op op_add (pv 3) (pe_op op_mul pe_int (pe_op op_mod (pe_callTy call_int1 (by rfl) G.n_int PyProof.Rows.boot_int (pa_cons (pv 2) pa_nil)) pe_int))) pa_nil)) pe_int) (pa_cons pe_int pa_nil))))))))), ?_⟩
  obtain ⟨j, rfl⟩ := Int.eq_ofNat_of_zero_le k0
  have lenE : Ev (tCB (fun xs H Q => ∃ p ys, xs = [.ref p] ∧ (SqL K H p ys ∨ SqT K H p ys) ∧ Q (.int ys.length) H) (tCons (tVar 0) tNil)) [some (.ref a), some (.int (j : Int)), none, none, none, none] H (.int (ns.length : Int)) := ev_is (ev_lenL (ev_var rfl) ha) (by rw [List.length_map])
  refine par_go ?_
  refine (show EvA _ _ H [.int (if j < ns.length then ns.getD j 0 else 0), .int (51043 * ((j : Int) + 4) + 11)] from ea_cons (ev_if (et_test (ev_op (ev_var rfl) lenE rv_I0)) (fun hb => ?_) fun hb => ?_)
    (ea_cons (ev_op (ev_op ev_c (ev_op (ev_var rfl) ev_c rv_I0) (rv_I (.inl ⟨by omega, by omega⟩))) ev_c rv_I0) ea_nil)) H (Ex.refl H) _ fun H1 e1 => ⟨_, _, rfl, ?_⟩
  · have hb := of_decide_eq_true hb
    have hj : j < ns.length := by omega
    rw [if_pos hj]
    refine ev_int1 (ev_op (ev_var rfl) (ev_var rfl) (rv_ixL ha (at_nat j ?_)))
    rw [List.getElem?_map, List.getD_eq_getElem?_getD]
    simp [hj]
  · have hb := of_decide_eq_false hb
    rw [if_neg (by omega)]
    exact ev_c
  generalize hcell : (if j < ns.length then ns.getD j 0 else 0) = cell
  generalize hm0 : 51043 * ((j : Int) + 4) + 11 = m0
  have hm1 : 0 ≤ m0 ∧ m0 < 2 ^ 40 := by
    rw [← hm0]
    omega
  have ha1 := ex_l e1 ha
  have sl := el_sl (K := K) (σ := [some (.ref a), some (.int (j : Int)), some (.int cell), some (.int m0), none, none]) (te := tVar 0) (ev_var rfl) eo_none (eo_some (te := tC (.int 6)) (i := 6) ev_c) ha1
  have ci : ∀ v, v ∈ cutV (ns.map V.int) none (some 6) → ∃ i : Int, v = .int i := fun v hv => by
    unfold cutV at hv
    obtain ⟨i, _, e⟩ := List.mem_map.mp (List.mem_of_mem_drop (List.mem_of_mem_take hv))
    exact ⟨i, e.symm⟩
  refine q_forI (ei_newL (EvL.m sl)) (fun i σ' H' => ∃ m c4, σ' = [some (.ref a), some (.int (j : Int)), some (.int cell), some (.int m), c4, none] ∧ 0 ≤ m ∧ m < 2 ^ 40) ?_ ?_ ?_
  · exact fun H2 e2 => ⟨m0, none, rfl, hm1⟩
  · rintro i x σ' H' e' hxi ⟨m, c4, rfl, h0, h1⟩
    obtain ⟨z, rfl⟩ := ci x (List.mem_of_getElem? hxi)
    refine ⟨_, tg_name, ?_⟩
    refine s_asg (ev_op (ev_int1 (ev_op (ev_op (ev_op (ev_var rfl) ev_c (rv_I (.inl ⟨by omega, by omega⟩))) (ev_op (ev_int1 (ev_var rfl)) ev_c (rv_I (by decide))) rv_I0) (ev_op ev_c (ev_var rfl) (rv_I (.inl ⟨by omega, by omega⟩))) rv_I0)) ev_c (rv_I (by decide))) fun H2 e2 => ⟨e2, _, _, rfl, Int.emod_nonneg _ (by decide), ?_⟩
    exact Int.lt_trans (Int.emod_lt_of_pos _ (by decide)) (by decide)
  · rintro σ' H' e' ⟨m, c4, rfl, h0, h1⟩
    refine q_asg (v := .int (if decide (cell < 0) || decide (10 ^ Int.toNat 17 ≤ cell) then (if cell < 0 then -cell else cell) else 0)) (ev_if (et_or (et_test (ev_op (ev_var rfl) ev_c rv_I0)) fun _ => et_test (ev_op (ev_var rfl) (ev_op ev_c ev_c (rv_I ⟨by decide, by decide, by decide⟩)) rv_I0)) (fun hb => ?_) fun hb => ?_) fun H2 e2 => ?_
    · rw [if_pos hb]
      exact ev_abs (ev_var rfl)
    · rw [if_neg (by rw [hb]; decide)]
      exact ev_c
    generalize (if decide (cell < 0) || decide (10 ^ Int.toNat 17 ≤ cell) then (if cell < 0 then -cell else cell) else 0) = dg
    refine s_retL (el_lst (ea_cons (ev_var rfl) (ea_cons (ev_op (ev_int1 (ev_op (ev_var rfl) (ev_op ev_c (ev_op (ev_int1 (ev_var rfl)) ev_c (rv_I (by decide))) (rv_I (.inl ⟨by omega, by omega⟩))) rv_I0)) ev_c (rv_I (by decide))) (ea_cons ev_c ea_nil))) (show 3 ≤ 100000 by decide)) fun q H3 nq e3 h3 => ?_
    exact hQ q H3 _ _ _ (fresh_back ((e1.trans e').trans e2) nq) (((e1.trans e').trans e2).trans e3) h3
end
end K35
set_option maxHeartbeats 4000000
/-! P18: own errors whose __init__ says super().__init__(x); self.f = x -/
namespace PySem
namespace K35X
open PySem.HandSPX PySem.W PySem.Calls PyProof.Rows
/-- the text of the two __init__ -/
structure ExcT (prog : Program) (K : Frag) (C fI cc cda : Addr) (q fld B initId newId : String) (bmB : List Value) (prm : Arguments) (body : List Stmt) (scope : Scope) : Prop where
  cls : ∃ nm qn N bs bm sn sub ab col dd k0 k1 k2 k3 k5, K.lookup C = some (excClassObj nm qn C N bs bm true sn sub ab col dd k0 k1 k2 k3 k5 newId) ∧ (∀ X : String, bm.contains (.type X) = bmB.contains (.type X)) ∧
    (∀ self, refuseLoop self "__setattr__" (.ref C :: bm) = pure ()) ∧ bm.contains (.type "object") = true ∧ alongIn K "__init__" bm = some (some (.builtin initId))
  sa : findIn K (Value.ref C) "__setattr__" = some (some (Value.builtin "object.__setattr__"))
  noN : findIn K (.ref C) fld = some none
  iC : findIn K (Value.ref C) "__init__" = some (some (Value.ref fI))
  tC : typeIn K (Value.ref fI) = some (Value.type "function")
  kC : keepIn K (.ref C) = true
  exC : subIn K (Value.ref C) (Value.type "BaseException") = some true
  tyC : typeIn K (Value.ref C) = some (Value.type "type")
  suB : subIn K (.ref C) (.type B) = some true
  mrC : mroIn K C (.ref C) = some true
  fn : ∃ (oc : Value) (od : Option Addr) (doc pm : Value) (an : Option Addr) (ct : Value) (osl : Array (Option Value)), K.lookup fI = some ⟨oc, od, .func (ksFn "__init__" q prm body scope .none .none doc pm an (.ref cda) ct cc), osl⟩ ∧ codeIn K (.ref cda) q = true
  cell : ∃ cl cld csl, K.lookup cc = some ⟨cl, cld, .cell (some (.ref C)), csl⟩
  code : ∃ ccl cdd vs ccs file tf, K.lookup cda = some ⟨ccl, cdd, .fields vs, ccs⟩ ∧ vs[2]? = some (.str file tf) ∧ ((prog.main.file : Str) == file) = true
  ho : nsIn K cStatics "thirdparty.any" = some none
section
open Builtin Builtin.ObjectAttr
variable {hp : Heap} {g : Array GenState} {d : Drawn} {t : Nat} {os : OsState} {prog : Program} {w : World} {A : Around} {E : Value → Shared → Prop} {R : Result → Shared → Prop}
/-- self.name = v, the exception has no dict yet; the chain of its class is passed by -/
theorem put_first {K : Frag} {name : Str} {tk : Tok} {v : Value} {e C : Addr} {vs : Array Value} {cdt : ClassData}
    (Xk : K.In hp) (he : hp.get? e = some { cls := .ref C, data := .fields vs }) (hcl : clsIn K C = some cdt) (hpass : ∀ self, refuseLoop self "__setattr__" cdt.mro = pure ()) (hobj : cdt.mro.contains (.type "object") = true)
    (hdi : cdt.hasDict = true) (hno : findIn K (.ref C) name = some none)
    (fin : ∀ h2 t2 dx, (∀ b o, b ≠ e → hp.get? b = some o → h2.get? b = some o) → hp.objs.size ≤ dx → dx ≠ e → h2.get? e = some { cls := .ref C, dict := some dx, data := .fields vs } →
      h2.Ns1 dx (fun y => if y = name then some v else none) → R (.ok (.ret .none)) ⟨h2, g, d, t2, os⟩) :
    codeAny (model prog w) A (.call (.builtin "object.__setattr__") ⟨[.ref e, .str name tk, v], []⟩) R ⟨hp, g, d, t, os⟩ := by
  have inst : InstAt hp e { cls := .ref C, data := .fields vs } C none := ⟨he, rfl, rfl, trivial⟩
  have nonempty : cdt.mro.isEmpty = false := by
    cases hq : cdt.mro with
    | nil =>
      rw [hq] at hobj
      cases hobj
    | cons _ _ => rfl
  have apart : e ≠ hp.objs.size := Nat.ne_of_lt (Heap.lt_size he)
  have isObj : Looks (model prog w) hp (isInstance (.ref e) (.type "object")) true := by
    refine inst.type.andThen (looks_mroIn Xk ?_)
    unfold mroIn
    rw [hcl, Option.bind_some, if_neg (by rw [nonempty]; decide), hobj]
  have SO := F.store_object
  refine codeAny_call_builtin SO.slot.plain SO.entry ?_
  refine @check_slot (model prog w) _ _ ⟨hp, g, d, t, os⟩ "object.__setattr__" "object" "__setattr__" (.ref e) [.str name tk, v] [] _ SO.kind SO.split isObj (SO.args (.ref e) (.str name tk) v) ?_
  have chain : Looks (model prog w) hp (mroOf (.ref C)) cdt.mro := (looks_clsIn Xk hcl).andThen .now
  have taker : Looks (model prog w) hp (storeTaker? none) none := .now
  have ofC : Looks (model prog w) hp (classData C) cdt := looks_clsIn Xk hcl
  rw [osa_eq, refuse_eq]
  refine wpAny_bind (wpAny_bind (inst.type.at (wpAny_bind (chain.at ?_))))
  rw [hpass]
  refine wpAny_pure (wpAny_bind (inst.type.at (wpAny_bind ((looks_findIn Xk hno).at (wpAny_bind (taker.at ?_))))))
  show wpAny _ _ (storeInOwnDict (.ref e) (.ref C) (.str name tk) name v false) _ _ _
  obtain ⟨n1, n2, n3, n4, n5, n6, n7, n8, n9, n10, n11⟩ := cdt
  dsimp only at hdi
  subst hdi
  unfold storeInOwnDict ownDictForStores
  repeat (first | with_reducible refine store_in_new ?_ ?_ | with_reducible refine wpAny_loadPart_at he ?_ | with_reducible refine ofC.at ?_ | wp_step)
  · exact ⟨_, #[], _, (Heap.get?_update_ne _ _ _ _ apart.symm).trans (Heap.get?_push_at rfl rfl), rfl, fun x hx => absurd hx (by simp), fun _ => rfl⟩
  · intro h2 t2 hn2 sb
    have he1 : (hp.push { cls := .type "dict", data := .dict #[] }).get? e = some { cls := .ref C, data := .fields vs } := Heap.get?_push_of_some _ he
    refine fin h2 t2 hp.objs.size (fun b o nb ob => ?_) (Nat.le_refl _) apart.symm ?_ hn2
    · exact (sb.2 b (Nat.ne_of_lt (Heap.lt_size ob))).trans ((Heap.get?_update_ne _ _ _ _ nb).trans (Heap.get?_push_of_some _ ob))
    · exact (sb.2 e apart).trans (Heap.get?_update_self _ he1 rfl)
end
/-- what such an __init__ leaves -/
structure Left (h h' : Heap) (x C dx t1 : Addr) (fld : Str) (v : Value) : Prop where
  keep : ∀ y o, y ≠ x → h.get? y = some o → h'.get? y = some o
  obj : h'.get? x = some ⟨.ref C, some dx, .fields #[.ref t1, .none, .none, .none, .bool false, .none], #[]⟩
  dbig : h.objs.size ≤ dx
  dne : dx ≠ x
  ns : h'.Ns1 dx (fun y => if y = fld then some v else none)
structure Made (h h' : Heap) (e C d : Addr) (fld : Str) (v : Value) : Prop where
  keep : ∀ y o, h.get? y = some o → h'.get? y = some o
  new : h.objs.size ≤ e
  obj : ∃ (ob : Obj) (fs : Array Value), h'.get? e = some ob ∧ ob.cls = .ref C ∧ ob.dict = some d ∧ ob.data = .fields fs ∧ fs[1]? = some .none
  dbig : h.objs.size ≤ d
  dne : d ≠ e
  ns : h'.Ns1 d (fun y => if y = fld then some v else none)
section
variable {prog : Program} {w : World} {A : Around} {E : Value → Shared → Prop} {R : Result → Shared → Prop} {s : Shared} {K : Frag} {mg mb : Str → Option Value} {C fI cc cda : Addr} {q fld prm2 B initId newId : String} {bmB : List Value}
def prmOf (a2 : Str) (p1 p2 : Pos) : Arguments := { posonlyargs := [], args := [{ arg := "self", annotation := none, pos := p1 }, { arg := a2, annotation := none, pos := p2 }], vararg := none, kwonlyargs := [], kw_defaults := [], kwarg := none, defaults := [] }
def scOf (a2 : Str) : Scope := { kind := .function, names := [("self", .local), (a2, .local), ("__class__", .free), ("super", .globalImplicit)], isGenerator := false, isCoroutine := false }
theorem exc_init {prm : Arguments} {body : List Stmt} {scope : Scope} {a2 : Str} {p1 p2 p3 p4 p5 p6 p7 p8 p9 p10 p11 p12 : Pos} (T : ExcT prog K C fI cc cda q fld B initId newId bmB prm body scope) (FB : ExcBaseFacts B newId initId bmB) (KF : KxsFacts B initId)
    (hprm : prm = prmOf a2 p1 p2) (hscE : scope = scOf a2)
    (hbody : body = [.Expr (.Call (.Attribute (.Call (.Name "super" p3) [] [] p4) "__init__" p5) [.Name a2 p6] [] p7) p8, .Assign [.Attribute (.Name "self" p9) fld p10] (.Name a2 p11) p12])
    (hsc : scope.kind = .function ∧ scope.isCoroutine = false ∧ scope.isGenerator = false ∧ (∀ x ∈ scope.names, x.2 ≠ .cell) ∧ scope.names.lookup ("self" : Str) = some .local ∧ scope.names.lookup a2 = some .local ∧ scope.names.lookup ("super" : Str) = some .globalImplicit ∧ scope.names.lookup ("__class__" : Str) = some .free)
    (ha2 : (a2 == ("__debug__" : Str)) = false ∧ ("self" : Str) ≠ a2) (htop : (prog.main.scope.names.lookup ("super" : Str)).isSome = false)
    (hbind : ∀ (doc pm : Value) (an : Option Addr) (ct u v : Value), bindArgs (ksFn "__init__" q prm body scope .none .none doc pm an (.ref cda) ct cc) ⟨[u, v], []⟩ = pure [(("self" : Str), u), (a2, v)])
    (hev : ∀ env : Env, ∃ pl : Sem Bool, eval (.Call (.Attribute (.Call (.Name "super" p3) [] [] p4) "__init__" p5) [.Name a2 p6] [] p7) env = (do
      let ov ← attributeBase (.Call (.Name "super" p3) [] [] p4) "__init__" env (eval (.Call (.Name "super" p3) [] [] p4) env)
      standAt p5.atName
      let (fn, firsts) ← holding [ov] (getMethod ov "__init__" pl)
      callWith p7 fn firsts (backTo p7 (starEach [.Name a2 p6] env)) []))
    {x t0 : Addr} {v : Value} (X : K.In s.heap) (hlim : s.heap.NoLimit) (hG : s.heap.Ns mainGlobals mg) (hB : s.heap.Ns builtinsNs mb) (hmg : mg "super" = none) (hmb : mb "super" = some (.type "super"))
    (hx : s.heap.get? x = some (excO C t0)) (hnx : K.lookup x = none) (hroom : A.depth < recursionLimit)
    (hq : ∀ h' tk dx t1, Left s.heap h' x C dx t1 fld v → R (.ok (.ret .none)) { s with heap := h', toks := tk }) :
    codeAny (model prog w) A (.call (.ref fI) { pos := [.ref x, v] }) R s := by
  obtain ⟨oc, od, doc, pm, an, ct, osl, ho, hcd⟩ := T.fn
  obtain ⟨nm, qn, N, bs, bm, sn, sub, ab, col, dd, k0, k1, k2, k3, k5, hC, hcon, hpass, hobj, hal⟩ := T.cls
  obtain ⟨cl, cld, csl, hcell⟩ := T.cell
  obtain ⟨ccl, cdd, vs, ccs, file, tf, hcode, hvs, hfile⟩ := T.code
  obtain ⟨s1, s2, s3, s4, s5, s6, s7, s8⟩ := hsc
  have hcl : clsIn K C = some { name := nm, bases := bs, mro := .ref C :: bm, ns := N, qualname := qn, hasDict := true, slotNames := sn, subclasses := sub, abstract := ab, collection := col, hasDel := false } := by unfold clsIn; rw [hC] <;> rfl
  refine ks_codeAny_call_defAt (fd := ksFn "__init__" q prm body scope .none .none doc pm an (.ref cda) ct cc) (body := body) (binds := [(("self" : Str), .ref x), (a2, v)]) hroom (X _ _ ho) rfl hlim (codeRec_of X hcd) rfl (BindsTo.of_eq (hbind doc pm an ct (.ref x) v)) s4
    (fun y hy => by
      simp only [List.mem_cons, List.not_mem_nil, or_false] at hy
      rcases hy with rfl | rfl
      · exact s5
      · exact s6) (fun h1 hns hk1 => ?_) s2 s3 s1
  have xL : x ≠ s.heap.objs.size := Nat.ne_of_lt (Heap.lt_size hx)
  have X1 : K.In h1 := X.keeps hk1
  have hx1 := hk1 _ _ hx
  have v1 : ([("self", Value.ref x), (a2, v)] : List (Str × Value)).reverse.lookup ("self" : Str) = some (.ref x) := by
    have : (("self" : Str) == a2) = false := by simpa using ha2.2
    simp [List.lookup, this]
  have v2 : ([("self", Value.ref x), (a2, v)] : List (Str × Value)).reverse.lookup a2 = some v := by simp [List.lookup]
  subst hbody hscE
  obtain ⟨hp, g, d, tk, os⟩ := s
  obtain ⟨pl, hev⟩ := hev (callEnv (ksFn "__init__" q prm _ (scOf a2) .none .none doc pm an (.ref cda) ct cc) hp.objs.size fI)
  refine ks_wpAt_execs_cons (ks_wpAt_Expr_any (ks_wpAt_MethodCall (pl := pl) ?_ hev))
  -- super()
  have hE1 : ({ heap := h1, gens := g, drawn := d, toks := tk + [(("self" : Str), Value.ref x), (a2, v)].length, os := os } : Shared) = ⟨h1, g, d, tk + 2, os⟩ := rfl
  refine ks_wpAt_super_base s7 s8 (by decide) rfl (X1 _ _ ho) rfl (ar := { arg := "self", annotation := none, pos := p1 }) (by rw [hprm] <;> rfl) rfl (X1 _ _ hcode) rfl hvs hfile htop ?_
  refine ks_loadName_global s1 s7 (loadGlobal_builtin (hG.keeps hk1) hmg (hB.keeps hk1) hmb ⟨rfl, ?_⟩)
  refine wpAny_loadName_free s1 s8 rfl ⟨_, X1 _ _ hcell, rfl⟩ ?_
  refine wpAny_loadName_local s1 s5 hns v1 ?_
  refine ks_wpAny_isType_cls (X1 _ _ hC) rfl ⟨rfl, ?_⟩
  refine ks_wpAny_call_super (X1 _ _ hC) rfl hx1 rfl (fun c e => nomatch e) (looks_mroIn X1 T.mrC) fun h2 hso hk2 => ?_
  have X2 : K.In h2 := X1.keeps hk2
  have hx2 := hk2 _ _ hx1
  have I2 : InstAt h2 x (excO C t0) C none := ⟨hx2, rfl, rfl, trivial⟩
  refine kxs_getMethod KF hso (looks_opaque X2 T.ho) (l₀ := .ref C :: bm) (l := bm) ((looks_clsIn X2 hcl).andThen .now) (PySem.ESX.drop_own C bm) X2 hal (I2.type.andThen (looks_subIn X2 T.suB)) (ks_ne X2 I2 hcl) (by decide) ?_
  have hu : (h2.push (kxs_mw initId x)).get? h2.objs.size = some (kxs_mw initId x) := Heap.get?_push_size _ rfl
  have hk3 : ∀ b o, h2.get? b = some o → (h2.push (kxs_mw initId x)).get? b = some o := fun b o e => Heap.get?_push_of_some _ e
  have hns3 := (hns.keeps hk2).keeps hk3
  have hx3 := hk3 _ _ hx2
  have hC3 := (X2.keeps hk3) _ _ hC
  generalize h2.push (kxs_mw initId x) = h3 at hu hk3 hns3 hx3 hC3
  refine kxs_callWith (i := initId) (x := x) (by rfl) (evalArgs_plain (Calls.spliced_cons (wpAny_Name (wpAny_loadName_local rfl s6 hns3 v2 ?_) ha2.1)))
  refine Calls.spliced_nil ⟨hu, ?_⟩
  -- the base's __init__, bound
  refine wpAny_call (codeAny_of_tree ?_)
  show wpAny _ _ (callAny (.ref h2.objs.size) ⟨[v], []⟩) _ _ _
  simp only [callAny]
  refine wpAny_bind (wpAny_load hu ?_)
  simp only [kxs_mw]
  refine KFB.if_so (by decide) ?_
  refine wpAny_bind (check_bound_init FB.toExcCallFacts hC3 hx3 rfl (wpAny_bind (wpAny_pure (wpAny_pure ?_))))
  refine And.intro (plainId_quiet FB.init.plain _) (codeAny_builtin FB.initEntry ?_)
  refine exc_init_tree (cls := .ref C) (t0 := t0) (dv := none) (c2 := .none) (c3 := .none) (b4 := .bool false) hx3 (by rw [sizeLine_eq]; simp) fun h4 hk4 hx4 ht4 => ?_
  have X4 : K.In h4 := fun b o e => hk4 b o (fun z => by rw [z, hnx] at e; cases e) ((X2.keeps hk3) b o e)
  have hns4 : h4.Ns hp.objs.size (fun y => ([("self", Value.ref x), (a2, v)] : List (Str × Value)).reverse.lookup y) := by
    obtain ⟨o, es, ep, e, r⟩ := hns3
    exact ⟨o, es, ep, hk4 _ _ (Ne.symm xL) e, r⟩
  have hlt : hp.objs.size < h4.objs.size := by
    obtain ⟨o, es, ep, e, r⟩ := hns4
    exact Heap.lt_size e
  show wpAt _ _ _ (execs _ _) _ _ _
  refine wpAt_of_wpAny (wpAny_execs_cons (plainObj_wpAny_Assign_Attribute ?_))
  refine wpAny_Name (wpAny_loadName_local rfl s6 hns4 v2 ?_) ha2.1
  refine wpAny_Name (wpAny_loadName_local rfl s5 hns4 v1 ?_) (by decide)
  refine set_plain X4 (ox := excO C h3.objs.size) (od := none) ⟨hx4, rfl, rfl, trivial⟩ T.sa ?_
  refine put_first X4 hx4 hcl hpass (by rw [List.contains_cons, hobj, Bool.or_true]) rfl T.noN fun h5 t5 dx k5 dn dne hx5 hn5 => ?_
  show wpAny _ _ (execs _ _) _ _ _
  refine wpAny_execs_nil (hq h5 t5 dx h3.objs.size ⟨fun b o nb e => k5 b o nb (hk4 b o nb (hk3 b o (hk2 b o (hk1 b o e)))), hx5, ?_, dne, hn5⟩)
  exact Nat.le_of_lt (Nat.lt_of_lt_of_le hlt dn)
theorem exc_made {prm : Arguments} {body : List Stmt} {scope : Scope} (T : ExcT prog K C fI cc cda q fld B initId newId bmB prm body scope) (FB : ExcBaseFacts B newId initId bmB)
    {v : Value} (X : K.In s.heap) (hroom : A.depth + 1 < recursionLimit)
    (hin : ∀ {A' : Around} {R' : Result → Shared → Prop} {s' : Shared} {x t0 : Addr}, K.In s'.heap → (∀ b o, s.heap.get? b = some o → s'.heap.get? b = some o) → s'.heap.get? x = some (excO C t0) → K.lookup x = none → A'.depth < recursionLimit →
      (∀ h' tk dx t1, Left s'.heap h' x C dx t1 fld v → R' (.ok (.ret .none)) { s' with heap := h', toks := tk }) → codeAny (model prog w) A' (.call (.ref fI) ⟨[.ref x, v], []⟩) R' s')
    (hq : ∀ h' tk e d, Made s.heap h' e C d fld v → R (.ok (.ret (.ref e))) { s with heap := h', toks := tk }) :
    codeAny (model prog w) A (.call (.ref C) { pos := [v] }) R s := by
  obtain ⟨nm, qn, N, bs, bm, sn, sub, ab, col, dd, k0, k1, k2, k3, k5, hC, hcon, _, _, _⟩ := T.cls
  obtain ⟨hp, g, dr, tk, os⟩ := s
  have two : ∀ b o, hp.get? b = some o → ((hp.push (kdv_tup [v])).push (excO C hp.objs.size)).get? b = some o := fun b o e => Heap.get?_push_of_some _ (Heap.get?_push_of_some _ e)
  have there : ((hp.push (kdv_tup [v])).push (excO C hp.objs.size)).get? (hp.objs.size + 1) = some (excO C hp.objs.size) := by heap_get
  have unwritten : K.lookup (hp.objs.size + 1) = none := by
    cases e : K.lookup (hp.objs.size + 1) with
    | none => rfl
    | some o => exact absurd (Nat.lt_of_succ_lt (Heap.lt_size (show hp.get? (hp.objs.size + 1) = some o from X _ _ e))) (Nat.lt_irrefl _)
  refine call_own FB hcon (X _ _ hC) (looks_findIn X T.iC) (fun self => bind_fn X self T.tC) (by rw [sizeLine_eq]; simp) ?_
  refine hin (s' := ⟨(hp.push (kdv_tup [v])).push (excO C hp.objs.size), g, dr, tk, os⟩) (X.keeps two) two there unwritten hroom fun h' tk' dx t1 L => ⟨rfl, hq h' tk' (hp.objs.size + 1) dx ⟨fun b o e => L.keep b o (Nat.ne_of_lt (Nat.lt_succ_of_lt (Heap.lt_size e))) (two b o e), Nat.le_succ _, ⟨_, _, L.obj, rfl, rfl, rfl, rfl⟩, ?_, L.dne, L.ns⟩⟩
  have z := L.dbig
  rw [Heap.size_push, Heap.size_push] at z
  show hp.objs.size ≤ dx
  omega
end
end K35X
end PySem
set_option maxHeartbeats 4000000
/-! P19: InvalidWeb(x), Trapped(x) -/
namespace K35
open PySem PySem.Spec PyProof.Rows L2 Evl PySem.K35X PySem.HandSPX
structure OwnE (P : Program) (w : World) (K : PySem.W.Frag) (mg : Str → Option Value) (x : Str) (C : Addr) (fld : Str) : Prop where
  gC : mg x = some (.ref C)
  kC : PySem.W.keepIn K (.ref C) = true
  exC : PySem.W.subIn K (Value.ref C) (Value.type "BaseException") = some true
  tyC : PySem.W.typeIn K (Value.ref C) = some (Value.type "type")
  make : ∀ {A : Around} {R : Result → Shared → Prop} {s : Shared} {v : Value}, K.In s.heap → s.heap.NoLimit → s.heap.Ns mainGlobals mg → (∃ mb, s.heap.Ns builtinsNs mb ∧ ∀ x : Str, x ≠ "__name__" → mb x = bootBuiltins x) → A.depth + 1 < recursionLimit →
    (∀ h' tk e d, Made s.heap h' e C d fld v → R (.ok (.ret (.ref e))) { s with heap := h', toks := tk }) → codeAny (model P w) A (.call (.ref C) ⟨[v], []⟩) R s
section
variable {w : World} {K : PySem.W.Frag} {mg : Str → Option Value} {C fI cc cda : Addr}
abbrev iW : Stmt := inClass (topS 5) 0
abbrev iT : Stmt := inClass (topS 8) 0
abbrev bmV : List Value := [.type "ValueError", .type "Exception", .type "BaseException", .type "object"]
abbrev bmA : List Value := [.type "ArithmeticError", .type "Exception", .type "BaseException", .type "object"]
theorem ownE_web (T : ExcT prg K C fI cc cda "InvalidWeb.__init__" "given" "ValueError" "ValueError.__init__" "ValueError.__new__" bmV (defArgs iW) (defBody iW) (defScope iW)) (hs : mg "super" = none) (gC : mg "InvalidWeb" = some (.ref C)) :
    OwnE prg w K mg "InvalidWeb" C "given" :=
  ⟨gC, T.kC, T.exC, T.tyC, fun X hlim hG ⟨mb, hB, hb⟩ hr hq => exc_made T PySem.F.excBase_ValueError X hr
    (fun {A' R' s' x t0} X' kp hx hnx hr' hq' => exc_init (a2 := "given") T PySem.F.excBase_ValueError PySem.W.kxs_ValueError rfl rfl rfl (by decide) (by decide) (by decide +kernel) (fun _ _ _ _ _ _ => rfl) (fun env => ⟨_, rfl⟩) X' (hlim.keeps kp) (hG.keeps kp) (hB.keeps kp) hs
      ((hb _ (by decide)).trans (by rfl)) hx hnx hr' hq') hq⟩
theorem ownE_trap (T : ExcT prg K C fI cc cda "Trapped.__init__" "lot" "ArithmeticError" "ArithmeticError.__init__" "ArithmeticError.__new__" bmA (defArgs iT) (defBody iT) (defScope iT)) (hs : mg "super" = none) (gC : mg "Trapped" = some (.ref C)) :
    OwnE prg w K mg "Trapped" C "lot" :=
  ⟨gC, T.kC, T.exC, T.tyC, fun X hlim hG ⟨mb, hB, hb⟩ hr hq => exc_made T PySem.F.excBase_ArithmeticError X hr
    (fun {A' R' s' x t0} X' kp hx hnx hr' hq' => exc_init (a2 := "lot") T PySem.F.excBase_ArithmeticError PySem.W.kxs_ArithmeticError rfl rfl rfl (by decide) (by decide) (by decide +kernel) (fun _ _ _ _ _ _ => rfl) (fun env => ⟨_, rfl⟩) X' (hlim.keeps kp) (hG.keeps kp) (hB.keeps kp) hs
      ((hb _ (by decide)).trans (by rfl)) hx hnx hr' hq') hq⟩
end
theorem fld_rel {v : V} {u : Value} (fld : Str) (r : RelV v u) (f : Str) : RelO (List.lookup f [(fld, v)]) (if f = fld then some u else none) := by
  rw [List.lookup_cons]
  cases hw : f == fld with
  | true =>
    rw [if_pos (by simpa using hw)]
    exact r
  | false =>
    rw [if_neg (by simpa using hw)]
    trivial
section
variable {X : Cx} {C : Addr} {x fld : Str}
def tOwnE (C : Addr) (fld : Str) (ta : TA) : L2.St → Hp → XK → Prop := fun σ H Q => ta σ H fun vs H1 => ∃ v, vs = [v] ∧ ∀ d, H1 d = none → Q (.ref C) (some d) (upd H1 d (.xd [(fld, v)]))
theorem pmk_own {a : Expr} {ta : TA} {p pos : Pos} {k : Nat} (T : OwnE X.prog X.w X.K X.mg x C fld) (hr : Room k X.A) (ha : PA X [a] ta) (hg : Gl X x := by rfl) (hdb : (x == ("__debug__" : Str)) = false := by decide)
    (he : starEach [a] X.env = (false, eval a X.env) :: starEach [] X.env := by rfl) (hpl : (backTo pos (starEach [] X.env)).any (fun b => b.1) = false := by rfl) :
    PMk X (.Call (.Name x p) [a] [] pos) (tOwnE C fld ta) := by
  intro pins s0 σ H Q I h
  refine wpAny_Call_Name_kw (ld_glob I hg T.gC ?_ hdb)
  refine PySem.W.callWith_K (h₀ := X.base) I.ok.mod.kin T.kC (thn (ha.run pos pins s0 σ H _ I h) fun us s1 ⟨vs, H1, J, r1, v, ev, q1⟩ => ?_) he hpl
  subst ev
  refine ⟨J.kIn, ?_⟩
  obtain ⟨u, us', r, r0⟩ : ∃ u us', RelV v u ∧ us = u :: us' ∧ us' = [] := by
    cases r1 with
    | cons a b => cases b; exact ⟨_, _, a, rfl, rfl⟩
  obtain ⟨rfl, rfl⟩ := r0
  have lim := J.nolimit
  have dep : X.A.depth + 1 < recursionLimit := by have := hr.dp; omega
  have gl : s1.heap.Ns mainGlobals X.mg := J.mod.glob.keeps J.bk
  have bl : ∃ mb, s1.heap.Ns builtinsNs mb ∧ ∀ x : Str, x ≠ "__name__" → mb x = bootBuiltins x := by
    obtain ⟨mb, b1, b2⟩ := J.mod.blt
    exact ⟨mb, b1.keeps J.bk, b2⟩
  obtain ⟨hp, g, dr, tk, os⟩ := s1
  refine wpAny_call (T.make J.kIn lim gl bl dep fun hE tE e d M => ?_)
  obtain ⟨oe, fv, hoe, hc, hd, hdat, hcx⟩ := M.obj
  have hns := M.ns
  obtain ⟨G, in1, out1⟩ := restrict hE fun b => decide (b ≠ e)
  have same : ∀ b, b ≠ e → G.get? b = hE.get? b := fun b nb => in1 b (by simpa using nb)
  have hole : G.get? e = none := out1 e (by simp)
  have early : ∀ b o, hp.get? b = some o → G.get? b = some o := fun b o q => by
    rw [same b (fun z => Nat.lt_irrefl _ (Nat.lt_of_lt_of_le (Heap.lt_size (z ▸ q)) M.new))]
    exact M.keep b o q
  have okd : ObjOk X.prog X.w (upd H1 d (.xd [(fld, v)])) G d (.xd [(fld, v)]) := ⟨_, hns.at (fun o q => (same d M.dne).trans q), fld_rel fld r⟩
  have noE : (upd H1 d (.xd [(fld, v)])) e = none := (upd_ne (Ne.symm M.dne)).trans (J.hok.fresh M.new)
  refine ⟨e, oe, fv, ⟨G, g, dr, tE, os⟩, _, .ref C, some d, rfl, J.laid (t' := tE) early M.dbig okd, fun b o q => ?_, hole, hoe, ⟨hc, hd⟩, hdat, hcx, noE, rfl, J.bare, raises_own T.exC T.tyC, q1 d (J.hok.fresh M.dbig)⟩
  refine Decidable.byCases (p := b = e) (fun z => ?_) fun z => (same b z).symm.trans q
  subst z
  cases hole.symm.trans q
end
end K35
set_option maxHeartbeats 4000000
/-! P20: greatest_trap, Web(x) -/
namespace K35
open PySem PySem.Spec PyProof.Rows L2 Evl
theorem rows_of {d : PyData} (h : isRows d = true) : ∃ ds, d = .tuple ds ∧ ds.length ≤ 24 ∧ ∀ r, r ∈ ds → rowG r = true := by
  unfold isRows at h
  rw [Bool.and_eq_true, Bool.and_eq_true] at h
  obtain ⟨ht, hr, _⟩ := h
  unfold areTr at ht
  rw [Bool.and_eq_true, Bool.and_eq_true, Bool.and_eq_true] at ht
  obtain ⟨h1, h2, h3, h4⟩ := ht
  obtain ⟨ds, rfl⟩ := tup_of h1
  refine ⟨ds, rfl, (lenB8 h2).2, fun r hm => ?_⟩
  unfold arePl at h4
  rw [Bool.and_eq_true] at h4
  unfold rowG
  rw [Bool.and_eq_true, Bool.and_eq_true]
  exact ⟨List.all_eq_true.mp h3 r hm, List.all_eq_true.mp hr r hm, List.all_eq_true.mp h4.1 _ (List.mem_map_of_mem hm)⟩
theorem x_own {C : Addr} {fld : Str} {ta : TA} {σ : L2.St} {H : Hp} {v : V} {W : XK} (h : EvA ta σ H [v]) (k : ∀ dd H2, Ex H H2 → H2 dd = some (.xd [(fld, v)]) → W (.ref C) (some dd) H2) : tOwnE C fld ta σ H W :=
  h H (Ex.refl H) _ fun H1 e => ⟨v, rfl, fun d hd => k d _ (e.trans (Ex.new hd)) upd_same⟩
section
variable {P : Program} {w : World} {K : PySem.W.Frag} {mg : Str → Option Value} {base : Heap} {f : Addr} {fd : FuncData} {CW CT CB : Addr}
/-- an own error is let out -/
def OutE (C : Addr) (fld : Str) (v : V) (H : Hp) (E : XK) : Prop := ∀ dd H2, Ex H H2 → H2 dd = some (.xd [(fld, v)]) → E (.ref C) (some dd) H2
def spGT (CW : Addr) : Sp := fun vs H Q E => ∃ p v d, vs = [v] ∧ DT p H v d ∧ Okd d ∧ (isRows d = false → OutE CW "given" v H E) ∧ (isRows d = true → RetW ((trapD (itemsD d)).map V.str) H Q)
theorem sc_greatest_trap : FnScope ["rows"] ["rows"] (defScope (topS 42)) :=
  ⟨rfl, rfl, rfl, by decide +kernel, rfl, by decide +kernel, by decide +kernel⟩
theorem c_greatest_trap (F : FnP K "greatest_trap" (topS 42) f fd) (G : Nm K mg) (T : OwnE P w K mg "InvalidWeb" CW "given")
    (c_are_rows : C8.Cal P w K mg base 6 "are_rows" (PrV (preB isRows)) []) (c_trap_in : C8.Cal P w K mg base 2 "trap_in" (PrW (preRowsW trapD)) []) : FnOk P w K mg base (L2.CX P w) 7 f fd ["rows"] (spGT CW) := by
  have nd := sc_greatest_trap.nd
  refine F.ok sc_greatest_trap (fun vs H Q E h => ?_) fun cdv A outer s H vs Q E hr h => ?_
  · obtain ⟨_, _, _, rfl, _⟩ := h
    rfl
  obtain ⟨p, v, d, rfl, hd, hk, h0, h1⟩ := h
  have tk := takes_of (X := cxOf (L2.CX P w) P w K mg base ["rows"] "greatest_trap" (defScope (topS 42)) f cdv A outer s H E) (E := E) rfl rfl rfl rfl
  refine ⟨_, (pss_cons (ps_if (pt_not (pt_val (C8.pe_c c_are_rows hr (by decide) rfl (pa_cons (pv 0) pa_nil)))) (pss_one (ps_raise rfl tk (pmk_own T hr (pa_cons (pv 0) pa_nil)))) pss_nil)
  (pss_one (ps_ret (C8.pe_c c_trap_in hr (by decide) rfl (pa_cons (pv 0) pa_nil))))), ?_⟩
  refine s_if (b := !isRows d) (et_not (et_B (ev_pr (ea_cons (ev_var rfl) ea_nil) fun H1 e1 => ⟨p, v, d, hd.ex e1, hk, rfl, rfl⟩))) (fun hb H1 e1 => ?_) fun hb H1 e1 => ?_
  · refine x_own (W := fun cls d H' => E cls d H') (ea_cons (ev_var rfl) ea_nil) fun dd H2 e2 h2 => ?_
    exact h0 (by simpa using hb) dd H2 (e1.trans e2) h2
  · have hb : isRows d = true := by simpa using hb
    obtain ⟨ds, rfl, l24, hg⟩ := rows_of hb
    exact s_retW (ew_pr (ea_cons (ev_var rfl) ea_nil) fun H2 e2 => ⟨p, v, ds, rfl, ⟨hd.ex (e1.trans e2), l24, hg⟩, rfl⟩) fun q H2 e2 hq => h1 hb q H2 (e1.trans e2) hq
/-! ### Web(x) -/
section
variable {σ : L2.St} {wi : TI} {g : TG} {te : TE} {vs : List Nat}
theorem el_any {C : V → Hp → Prop} {xs : List V} (hI : EvI wi σ H xs) (hn : xs.length ≤ 40000) (mono : ∀ v H1 H2, ExT H1 H2 → C v H1 → C v H2)
    (hs : ∀ x H1, Ex H H1 → x ∈ xs → ∃ σ2, Tg g x (wipe σ vs) H1 σ2 ∧ wipe σ2 vs = wipe σ vs ∧ ∀ Q : VK, (∀ u H2, Ex H1 H2 → C u H2 → Q u H2) → te σ2 H1 Q) :
    ∀ H1, Ex H H1 → ∀ Q : VK, (∀ l us H2, Ex H1 H2 → H2 l = some (.lst us) → us.length = xs.length → (∀ u, u ∈ us → C u H2) → Q (.ref l) H2) → tLc wi g tYes te vs σ H1 Q := fun H0 e0 Q q => hI H0 e0 _ fun J H1 e1 S => fun Dl hD => by
  refine ⟨fun i m H' => m = xs.length - i ∧ i ≤ xs.length ∧ Ex H1 H' ∧ ∃ us, H' Dl = some (.lst us) ∧ us.length = i ∧ ∀ u, u ∈ us → C u H', ⟨_, rfl, Nat.zero_le _, Ex.new hD, [], upd_same, rfl, fun u hu => by cases hu⟩, ?_⟩
  rintro i m H' ⟨rfl, hi, ex, us, hl, lu, hu⟩
  by_cases hlt : i < xs.length
  · refine .inr ⟨S.go H' ex i hlt, fun H'' => i + 1 ≤ xs.length ∧ Ex H1 H'' ∧ ∃ us, H'' Dl = some (.lst us) ∧ us.length = i + 1 ∧ ∀ u, u ∈ us → C u H'', fun H'' r => ⟨xs.length - (i + 1), by omega, rfl, r⟩, fun x H'' hy => ?_⟩
    obtain ⟨rfl, hx⟩ := S.yld H' ex i x H'' hlt hy
    obtain ⟨σ2, tg, w, hv⟩ := hs x H'' ((e0.trans e1).trans ex) (List.mem_of_getElem? hx)
    refine tg _ ⟨w, ?_⟩
    refine hv _ fun u H4 e4 c4 => ⟨us, e4 Dl _ hl, sz_lt (by omega), hlt, Ex.mut (ex.trans e4) hD, us ++ [u], upd_same, by rw [List.length_append, lu]; rfl, fun y hy => ?_⟩
    have up : ExT H4 (upd H4 Dl (.lst (us ++ [u]))) := ExT.upd (e4 Dl _ hl)
    rcases List.mem_append.mp hy with hy | hy
    · exact mono y _ _ up (mono y _ _ (.of e4) (hu y hy))
    · rw [List.mem_singleton.mp hy]
      exact mono u _ _ up c4
  · obtain rfl : i = xs.length := by omega
    exact .inl ⟨S.stop H' ex, q Dl us H' (e1.trans ex) hl lu hu⟩
end
section
variable {K : PySem.W.Frag} {σ : L2.St} {H : Hp} {te tv ta : TE} {D : Ends} {tz : TS}
theorem q_asgW {i : Nat} {xs : List V} (h : EvW te σ H xs) (k : ∀ p H1, Ex H H1 → H1 p = some (.tup xs) → tz D (σ.set i (some (.ref p))) H1) : tSeq (tAsg te (gName i)) tz D σ H := s_asgW (D := { D with nx := tz D }) h k
theorem s_fld {x C dx : Addr} {fs : List (Str × V)} {f : Str} {y : V} (hv : Ev tv σ H y) (ha : Ev ta σ H (.ref x)) (hx : H x = some (.ins C dx fs)) (c : Cls K C) (n : NoAttr K C f) (l : fs.length < 1000) (k : ∀ H1, Ex H H1 → D.nx σ (upd H1 x (.ins C dx (putF f y fs)))) :
    sFld K ta tv f D σ H := hv H (Ex.refl H) _ fun H1 e1 => ha H1 e1 _ fun H2 e2 => ⟨x, C, dx, fs, rfl, e2 x _ (e1 x _ hx), c, n, l, k H2 (e1.trans e2)⟩
theorem q_fld {x C dx : Addr} {fs : List (Str × V)} {f : Str} {y : V} (hv : Ev tv σ H y) (ha : Ev ta σ H (.ref x)) (hx : H x = some (.ins C dx fs)) (c : Cls K C) (n : NoAttr K C f) (l : fs.length < 1000) (k : ∀ H1, Ex H H1 → tz D σ (upd H1 x (.ins C dx (putF f y fs)))) :
    tSeq (sFld K ta tv f) tz D σ H := s_fld (D := { D with nx := tz D }) hv ha hx c n l k
theorem s_mkd {tl : TE} {r : List V → Hp → VK → Prop} {f : Str} (h : tl σ H fun l H1 => r [l] H1 fun y H2 => ta σ H2 fun x H3 => ∃ a C dx fs, x = .ref a ∧ H3 a = some (.ins C dx fs) ∧ Cls K C ∧ NoAttr K C f ∧ fs.length < 1000 ∧ D.nx σ (upd H3 a (.ins C dx (putF f y fs)))) :
    sFld K ta (tCB r (tCons tl tNil)) f D σ H := h
/-- rows as dict's pairs -/
theorem pairs_dict {us : List V} (h : ∀ u, u ∈ us → ∃ (q : Addr) (k : Str) (z : V), u = .ref q ∧ SqT K H q [.str k, z]) : ∃ (ps : List Addr) (kvs : List (Key × V)), us = ps.map V.ref ∧ Paired (fun p kv => SqT K H p [kV kv.1, kv.2]) ps kvs := by
  induction us with
  | nil => exact ⟨[], [], rfl, .nil⟩
  | cons u us ih =>
    obtain ⟨ps, kvs, e, r⟩ := ih fun y hy => h y (List.mem_cons_of_mem _ hy)
    obtain ⟨q, k, z, rfl, hq⟩ := h u List.mem_cons_self
    exact ⟨q :: ps, (.inr k, z) :: kvs, by rw [e]; rfl, .cons hq r⟩
end
def inW : Stmt := inClass (topS 41) 0
def spWeb (CB CW CT : Addr) : Sp := fun vs H Q E => ∃ x p v d H0 dx, vs = [.ref x, v] ∧ H0 x = none ∧ Ex H0 H ∧ H x = some (.ins CB dx []) ∧ DT p H0 v d ∧ Okd d ∧
  (isRows d = false → OutE CW "given" v H0 E) ∧
  (isRows d = true → trapD (itemsD d) ≠ [] → coinsD (itemsD d) = false → ∀ q H1, Ex H0 H1 → H1 q = some (.tup ((trapD (itemsD d)).map V.str)) → OutE CT "lot" (.ref q) H1 E) ∧
  (isRows d = true → (trapD (itemsD d) = [] ∨ coinsD (itemsD d) = true) → ∀ H2 dx fs, Ex H0 H2 → H2 x = some (.ins CB dx fs) → fs.lookup ("lines" : Str) = some v → Q .non H2)
/-- the class Web -/
structure WebC (K : PySem.W.Frag) (C : Addr) : Prop where
  cl : Cls K C
  lines : NoAttr K C "lines"
  trap : NoAttr K C "trap"
  by_place : NoAttr K C "by_place"
theorem sc_Web : FnScope ["self", "rows", "lot", "place", "kind", "what"] ["self", "rows"] (defScope inW) :=
  ⟨rfl, rfl, rfl, by decide +kernel, rfl, by decide +kernel, by decide +kernel⟩
theorem c_Web (F : FunD K "__init__" "Web.__init__" (defArgs inW) (defBody inW) (defScope inW) [] [] f fd) (G : Nm K mg) (T : OwnE P w K mg "InvalidWeb" CW "given") (T2 : OwnE P w K mg "Trapped" CT "lot") (B : WebC K CB)
    (c_are_rows : C8.Cal P w K mg base 6 "are_rows" (PrV (preB isRows)) []) (c_trap_in : C8.Cal P w K mg base 2 "trap_in" (PrW (preRowsW trapD)) []) (c_are_coin_rows : C8.Cal P w K mg base 2 "are_coin_rows" (PrV (preRowsB coinsD)) []) :
    FnOk P w K mg base (L2.CX P w) 7 f fd ["self", "rows"] (spWeb CB CW CT) := by
  have nd := sc_Web.nd
  refine F.ok sc_Web (fun vs H Q E h => ?_) fun cdv A outer s H vs Q E hr h => ?_
  · obtain ⟨_, _, _, _, _, _, rfl, _⟩ := h
    rfl
  obtain ⟨x, p, v, d, H0, dx, rfl, nx, e0, hx, hd, hk, h0, h1, h2⟩ := h
  have tk := takes_of (X := cxOf (L2.CX P w) P w K mg base ["self", "rows", "lot", "place", "kind", "what"] "Web.__init__" (defScope inW) f cdv A outer s H E) (E := E) rfl rfl rfl rfl
  refine ⟨_, (pss_cons (ps_if (pt_not (pt_val (C8.pe_c c_are_rows hr (by decide) rfl (pa_cons (pv 1) pa_nil)))) (pss_one (ps_raise rfl tk (pmk_own T hr (pa_cons (pv 1) pa_nil)))) pss_nil)
  (pss_cons (ps_set (i := 2) nd rfl (Or.inl rfl) (C8.pe_c c_trap_in hr (by decide) rfl (pa_cons (pv 1) pa_nil)))
  (pss_cons (ps_if (PW.pt (pw_and (pt_cmpR op_gt (pe_callB (kcall_len (K := K) rfl) (by rfl) G.n_len PySem.boot_len (pa_cons (pv 2) pa_nil)) pe_int (nomark _)) (pw_and1 (pt_not (pt_val (C8.pe_c c_are_coin_rows hr (by decide) rfl (pa_cons (pv 1) pa_nil))))))) (pss_one (ps_raise rfl tk (pmk_own T2 hr (pa_cons (pv 2) pa_nil)))) pss_nil)
  (pss_cons (ps_fld (pv 0) (pv 1) rfl)
  (pss_cons (ps_fld (pv 0) (pv 2) rfl)
  (pss_one (ps_fld (pv 0) (pe_callTy (call_dictP rfl) (by rfl) G.n_dict PyProof.Rows.boot_dict (pa_cons (pe_lc (own := [("place", 3), ("kind", 4), ("what", 5)]) rfl nd (kpi_tup (K := K) rfl (pv 1)) (blkOk_by (own := [("place", 3), ("kind", 4), ("what", 5)]) (by rfl)) (fun _ _ _ _ _ => (kpg_tup (K := K) rfl (n := 3) rfl (pgs_cons (pg_name (i := 3) nd rfl (Or.inl rfl)) (pgs_cons (pg_name (i := 4) nd rfl (Or.inl rfl)) (pgs_cons (pg_name (i := 5) nd rfl (Or.inl rfl)) pgs_nil))))) (fun _ _ _ _ _ => pts_nil) (fun _ _ _ _ _ => (pe_tup (pa_cons (pv 3) (pa_cons (pe_tup (pa_cons (pv 4) (pa_cons (pv 5) pa_nil))) pa_nil))))) pa_nil)) rfl))))))), ?_⟩
  have nxp : ∀ {H2 : Hp}, Ex H H2 → H2 x = some (.ins CB dx []) := fun e => e x _ hx
  refine q_when (b := !isRows d) (et_not (et_B (ev_pr (ea_cons (ev_var rfl) ea_nil) fun H1 e1 => ⟨p, v, d, hd.ex (e0.trans e1), hk, rfl, rfl⟩))) (fun hb H1 e1 => ?_) fun hb H1 e1 => ?_
  · refine x_own (W := fun cls d H' => E cls d H') (ea_cons (ev_var rfl) ea_nil) fun dd H2 e2 hh => ?_
    exact h0 (by simpa using hb) dd H2 ((e0.trans e1).trans e2) hh
  have hb : isRows d = true := by simpa using hb
  obtain ⟨ds, rfl, l24, hg⟩ := rows_of hb
  have ra : ∀ {H2 : Hp}, Ex H0 H2 → RowsAt p H2 v ds := fun e => ⟨hd.ex e, l24, hg⟩
  refine q_asgW (ew_pr (ea_cons (ev_var rfl) ea_nil) fun H2 e2 => ⟨p, v, ds, rfl, ra ((e0.trans e1).trans e2), rfl⟩) fun q H2 e2 hq => ?_
  have e02 := (e0.trans e1).trans e2
  refine q_when (b := decide (trapD ds ≠ []) && !coinsD ds) (et_and ?_ fun _ => ?_) (fun hc H3 e3 => ?_) fun hc H3 e3 => ?_
  · refine et_is (et_test (ev_op (ev_lenT (ev_var rfl) (st_of hq)) ev_c rv_I0)) ?_
    rw [List.length_map]
    cases trapD ds <;> simp
  · exact et_not (et_B (ev_pr (ea_cons (ev_var rfl) ea_nil) fun H1 e1 => ⟨p, v, ds, rfl, ra (e02.trans e1), rfl⟩))
  · rw [Bool.and_eq_true] at hc
    refine x_own (W := fun cls d H' => E cls d H') (ea_cons (ev_var rfl) ea_nil) fun dd H4 e4 hh => ?_
    exact h1 hb (of_decide_eq_true hc.1) (by show coinsD ds = false; simpa using hc.2) q H2 e02 hq dd H4 (e3.trans e4) hh
  refine q_fld (ev_var rfl) (ev_var rfl) (nxp ((e1.trans e2).trans e3)) B.cl B.lines (by simp) fun H4 e4 => ?_
  have q4 : ∀ {o : HO}, Ex H0 (upd H4 x o) := fun {o} => Ex.mut ((e02.trans e3).trans e4) nx
  have nqx : q ≠ x := fun z => by
    have := nxp (e1.trans e2)
    rw [z, this] at hq
    cases hq
  have hq4 : ∀ {o : HO}, (upd H4 x o) q = some (.tup ((trapD ds).map V.str)) := fun {o} => by
    rw [upd_ne nqx]
    exact e4 q _ (e3 q _ hq)
  refine q_fld (ev_var rfl) (ev_var rfl) upd_same B.cl B.trap (by simp [putF]) fun H5 e5 => ?_
  have q5 : ∀ {o : HO}, Ex H0 (upd H5 x o) := fun {o} => Ex.mut (q4.trans e5) nx
  obtain ⟨a, xs, rfl, na, ha, hxs⟩ := hd.tupE
  have x6 : ∀ {o : HO}, (upd H5 x o) x = some o := upd_same
  refine s_mkd ?_
  refine el_any (C := fun u H' => ∃ (r : Addr) (k : Str) (z : V), u = .ref r ∧ H' r = some (.tup [.str k, z])) (xs := xs) (wi := iTup K (tVar 1)) (σ := [some (.ref x), some (.ref a), some (.ref q), none, none, none]) (H := upd H5 x _) (ei_tup (ev_var rfl) (st_of (q5 a _ ha))) (by have := hxs.length; omega) (fun v H1 H2 e => fun ⟨r, k, z, e1, e2⟩ => ⟨r, k, z, e1, e r _ e2⟩) (fun y H7 e7 hy => ?_) _ (Ex.refl _) _ fun l us H7 e7 hl lu hu => ?_
  · obtain ⟨i, hi⟩ := List.getElem?_of_mem hy
    obtain ⟨dd, hdi, hdt⟩ := hxs.get hi
    obtain ⟨r, z, rfl, nr, hr6, hz⟩ := rowG_at (hdt.ex (q5.trans e7)) (hg dd (List.mem_of_getElem? hdi))
    refine ⟨_, tg_three (st_of hr6), rfl, fun Q q => ?_⟩
    refine ⟨_, rfl, _, rfl, _, rfl, Nat.le_of_lt (sz_lt (by simp)), fun m hm => ⟨Nat.le_of_lt (sz_lt (by simp)), fun m2 hm2 => q _ _ ((Ex.new hm).trans (Ex.new hm2)) ⟨m2, _, _, rfl, upd_same⟩⟩⟩
  · obtain ⟨ps, kvs, rfl, hp⟩ := pairs_dict (K := K) fun u m => by
      obtain ⟨r, k, z, h1, h2⟩ := hu u m
      exact ⟨r, k, z, h1, st_of h2⟩
    refine ⟨l, ps, kvs, rfl, sq_of hl, hp, fun m hm => ?_⟩
    refine ⟨_, rfl, x, CB, dx, putF ("trap" : Str) (V.ref q) (putF ("lines" : Str) (V.ref a) []), rfl, ?_, B.cl, B.by_place, ?_, ?_⟩
    · exact Ex.new hm x _ (e7 x _ x6)
    · have : ("lines" : Str) ≠ "trap" := by decide
      simp [putF, this]
    · refine h2 hb ?_ _ dx _ (Ex.mut ((q5.trans e7).trans (Ex.new hm)) nx) upd_same (by rw [lookup_putF, if_neg (by decide), lookup_putF, if_neg (by decide), lookup_putF, if_pos rfl])
      rw [Bool.and_eq_false_iff] at hc
      rcases hc with hc | hc
      · exact .inl (Decidable.byContradiction fun z => of_decide_eq_false hc z)
      · exact .inr (by show coinsD ds = true; simpa using hc)
end
end K35
set_option maxHeartbeats 4000000
/-! P21: except (A, B) as e; isinstance of a caught error that bears a dict -/
namespace K35
open PySem PySem.Spec PyProof.Rows L2 Evl
section
variable {h h' B : Heap} {l : List Env} {a : Addr} {Z : Obj → Prop}
theorem fly_keeps (k : ∀ b o, h.get? b = some o → h'.get? b = some o) (f : HandSPX.FlyingZ B l a Z h) : HandSPX.FlyingZ B l a Z h' := by
  obtain ⟨st, nb, ff, oe, vs, T, oT, tv, e1, z, e2, e3, e4, e5, e6, e7, e8⟩ := f
  exact ⟨fun b o q => k b o (st b o q), nb, Heap.FunFrames.of_keeps (fun b o q _ => ⟨o, k b o q, rfl⟩) ff, oe, vs, T, oT, tv, k a oe e1, z, e2, e3, e4, e5, k T oT e6, e7, e8⟩
/-- an object with fields is no frame -/
theorem fly_off (f : HandSPX.FlyingZ B l a Z h) : a ∉ frs l := fun m => by
  obtain ⟨_, _, ff, oe, vs, _, _, _, e1, _, e2, _⟩ := f
  obtain ⟨_, o, q, nd⟩ := ff.mem m
  cases e1.symm.trans q
  exact nd vs e2
end
/-- what such a clause wishes of its body's exceptions -/
def wTup (K : PySem.W.Frag) (c1 c2 : Value) (i ln : Nat) (ts : Addr → Value → Option Addr → TS) (D : Ends) : WX := fun cls d σ H => PySem.W.exmAny K cls [c1, c2] = some true ∧
  ∀ a, H a = none → σ.length = ln → ts a cls d { nx := fun σ1 => D.nx (σ1.set i none), rt := D.rt, bk := fun σ1 => D.bk (σ1.set i none), ct := fun σ1 => D.ct (σ1.set i none) } (σ.set i (some (.ref a))) H
section
variable {s : Shared} {H : Hp} {σ : L2.St} {X : Cx} {pins : List (Addr × Obj)}
theorem ld_names {x : Str} {c : Value} {p : Pos} {Q : Value → Shared → Prop} {E : Value → Shared → Prop} (hc : Names X x c) (I : Inv X pins σ H s) (q : Q c s) : wpAny (model X.prog X.w) X.A (eval (.Name x p) X.env) Q E s := by
  obtain ⟨g, nd, m | ⟨m, v, nn⟩⟩ := hc
  · exact ld_glob I g m q nd
  · exact ld_blt I g m v q nn nd
theorem ps_tryT {x1 x2 n : Str} {c1 c2 : Value} {i kk : Nat} {body suite : List Stmt} {b₀ : Stmt} {p1 p2 p3 pos pos' : Pos} {tb : WX → TS} {ts : Addr → Value → Option Addr → TS}
    (hst : X.stack = X.env :: X.outer) (hfm : X.env.frame = some X.env.locals) (nd : X.N.Nodup) (hi : X.N[i]? = some n) (hl : X.env.kindOf n = some .local) (n1 : Names X x1 c1) (n2 : Names X x2 c2)
    (hb : ∀ (W : WX) (more : List (Addr × Obj)) (xe : Value → Shared → Prop), Takes (X.tr more xe) W → PassesOwn (model X.prog X.w) X.A X.env xe → PSs (X.tr more xe) body (tb W))
    (hsu : ∀ (a : Addr) (ob : Obj) (cls : Value) (d : Option Addr) (more : List (Addr × Obj)), Zc cls d ob → (∃ fs, ob.data = .fields fs) → PSs (X.suite a ((a, ob) :: more)) (b₀ :: suite) (ts a cls d)) :
    PS X (.Try body [.ExceptHandler (some (.Tuple [.Name x1 p1, .Name x2 p2] kk p3)) (some n) (b₀ :: suite) pos'] [] [] pos) (fun D σ H => tb (wTup X.K c1 c2 i X.N.length ts D) D σ H) := by
  refine ⟨fun pins s σ H D I h => ?_⟩
  have okX := I.ok
  have frs_eq : X.A.frames = some (X.env :: X.outer) := okX.frames.trans (congrArg some hst)
  refine wpAny_Try_except ?_
  let after : Value → Shared → Prop := fun u s1 => wpAny (model X.prog X.w) X.A (noteFrame u X.env) (fun _ s2 => wpAny (model X.prog X.w) X.A (setFlight u none) (fun _ s3 => wpAny (model X.prog X.w) X.A
    (handleBy u X.env [.ExceptHandler (some (.Tuple [.Name x1 p1, .Name x2 p2] kk p3)) (some n) (b₀ :: suite) pos']) (SP X pins D) X.xe s3) X.xe s2) X.xe s1
  have takes : Takes (X.tr (X.pn ++ pins) after) (wTup X.K c1 c2 i X.N.length ts D) := by
    intro u s1 air
    obtain ⟨a, B, sI, pins1, σ1, H1, cls, d, rfl, J0, nb, up, sky, na, hos, hag, hyes, hts⟩ := air
    have J : Inv X pins σ1 H1 sI := J0.ofTry okX
    rw [show (X.tr (X.pn ++ pins) after).stack = X.env :: X.outer from hst] at sky
    refine Sky.land (Q := fun _ s3 => wpAny (model X.prog X.w) X.A (handleBy (.ref a) X.env _) (SP X pins D) X.xe s3) Zc.steady frs_eq hfm sky fun h3 fl up3 => ?_
    have nfr : a ∉ frs (X.env :: X.outer) := fly_off fl
    have nL : a ≠ X.env.locals := fun z => nfr (List.mem_filterMap.mpr ⟨X.env, List.mem_cons_self, by rw [hfm, z]⟩)
    have nF : a ∉ X.fs := fun m => by
      obtain ⟨en, inO, isF⟩ := List.mem_filterMap.mp m
      exact nfr (List.mem_filterMap.mpr ⟨en, List.mem_cons_of_mem _ inO, isF⟩)
    have suit : ∀ {h4 : Heap}, HandSPX.FlyingZ B (X.env :: X.outer) a (Zc cls d) h4 → s1.heap.UpToSlots h4 → ∃ oe vs, h4.get? a = some oe ∧ Zc cls d oe ∧ oe.data = .fields vs ∧ Inv (X.suite a ((a, oe) :: (X.pn ++ pins))) [] σ1 H1 { s1 with heap := h4 } := fun {h4} f4 u4 => by
      have J4 := J.landed (s' := { s1 with heap := h4 }) nb f4.1 (up.trans u4) hos hag
      obtain ⟨oe, vs, r1, r2, r3⟩ := f4.there
      exact ⟨oe, vs, r1, r2, r3, J4.suite r1 r3 na nL nF⟩
    obtain ⟨o3, v3, g3, z3, d3, S3⟩ := suit fl up3
    refine wpAny_handleBy_cons (codeAny_handlers_test (wpAny_Tuple (wpAny_items_cons (ld_names (X := X.suite a ((a, o3) :: (X.pn ++ pins))) n1 S3 (wpAny_items_cons (ld_names (X := X.suite a ((a, o3) :: (X.pn ++ pins))) n2 S3 (wpAny_items_nil ⟨?_, ?_⟩))))))) (by intro q; cases q)
    · rw [sizeLine_eq]
      exact Nat.le_trans (show 2 ≤ 3 by decide) (by decide)
    have kp : ∀ b o, h3.get? b = some o → (h3.push { cls := .type "tuple", data := .seq [c1, c2].toArray }).get? b = some o := fun _ _ q => Heap.get?_push_of_some _ q
    have f4 := fly_keeps kp fl
    have u4 := up3.trans (Heap.UpToSlots.of_keeps kp)
    have tyE : PySem.W.Looks (model X.prog X.w) (h3.push { cls := .type "tuple", data := .seq [c1, c2].toArray }) (typeOf (.ref a)) cls := by
      intro A' Q' E' s' k q
      refine wpAny_typeOf_ref (k _ _ (kp _ _ g3)) ?_
      rw [z3.1]
      exact q
    refine (PySem.W.exm_tup2 (M := model X.prog X.w) (S3.kIn.keeps kp) tyE (Heap.get?_push_size h3 rfl) hyes).here ?_
    refine codeAny_handlers_suite_as ?_
    refine HandSPX.lands_againZ f4 fun h5 f5 up5 => ?_
    obtain ⟨o5, v5, g5, z5, d5, S5⟩ := suit f5 (u4.trans up5)
    refine store_ok (X := X.suite a ((a, o5) :: (X.pn ++ pins))) (v := .ref a) S5 nd hi (.inl hl) rfl (fun s6 S6 => ?_) (.inr hl)
    refine wpAny_mono ((hsu a o5 cls d (X.pn ++ pins) z5 ⟨_, d5⟩).run [] s6 _ H1 _ S6 (hts a na J.len)) (fun f s7 hsp => ?_) fun _ _ z => z.elim
    have out : ∀ {σ6 : L2.St} {H6 : Hp} {Q : Shared → Prop}, Inv (X.suite a ((a, o5) :: (X.pn ++ pins))) [] σ6 H6 s7 → (∀ s8, Inv X pins (σ6.set i none) H6 s8 → Q s8) →
        wpAny (model X.prog X.w) X.A (do bindName X.env n .none; unbindBehindTheSuite X.env n pos') (fun _ s8 => Q s8) X.xe s7 := fun {σ6 H6 Q} S7 hq => gone_ok (S7.unsuite okX) nd hi hl hq
    cases f with
    | ret u =>
      obtain ⟨v6, σ6, H6, S7, r6, q6⟩ := hsp
      exact out S7 fun s8 J8 => ⟨v6, _, H6, J8, r6, q6⟩
    | next =>
      obtain ⟨σ6, H6, S7, q6⟩ := hsp
      exact out S7 fun s8 J8 => ⟨_, H6, J8, q6⟩
    | brk =>
      obtain ⟨σ6, H6, S7, q6⟩ := hsp
      exact out S7 fun s8 J8 => ⟨_, H6, J8, q6⟩
    | cont =>
      obtain ⟨σ6, H6, S7, q6⟩ := hsp
      exact out S7 fun s8 J8 => ⟨_, H6, J8, q6⟩
  refine wpAny_mono ((hb (wTup X.K c1 c2 i X.N.length ts D) (X.pn ++ pins) after takes PassesOwn.looking).run [] s σ H D (I.toTry after) h) (fun f s1 hsp => ?_) fun e s1 he => he
  cases f with
  | ret u =>
    obtain ⟨v1, σ1, H1, J, r, q⟩ := hsp
    exact ⟨v1, σ1, H1, J.ofTry okX, r, q⟩
  | next =>
    obtain ⟨σ1, H1, J, q⟩ := hsp
    exact wpAny_execs_nil ⟨σ1, H1, J.ofTry okX, q⟩
  | brk =>
    obtain ⟨σ1, H1, J, q⟩ := hsp
    exact ⟨σ1, H1, J.ofTry okX, q⟩
  | cont =>
    obtain ⟨σ1, H1, J, q⟩ := hsp
    exact ⟨σ1, H1, J.ofTry okX, q⟩
end
/-! ### isinstance -/
structure ExcD (K : PySem.W.Frag) (C : Addr) : Prop where
  cl : (PySem.W.clsIn K C).isSome = true
  ga : PySem.W.findIn K (Value.ref C) "__getattribute__" = some (some (Value.builtin "BaseException.__getattribute__"))
  gt : PySem.W.findIn K (.ref C) "__getattr__" = some none
  su : PySem.W.subIn K (.ref C) (.type "BaseException") = some true
  ca : PySem.W.findIn K (Value.ref C) "__class__" = some (some (Value.builtin "object.__class__"))
  gs : PySem.W.specialIn K (.builtin "object.__class__") "__get__" = some (some (.builtin "getset_descriptor.__get__"))
  tk : PySem.W.takesIn K (.builtin "object.__class__") = some true
  ob : PySem.W.mroIn K C (.type "object") = some true
def rIsD (K : PySem.W.Frag) (a : Addr) (cls : Value) (d : Option Addr) : List V → Hp → VK → Prop := fun xs H Q => ∃ (c : V) (cv : Value) (b : Bool) (C dd : Addr) (fs : List (Str × V)), xs = [.ref a, c] ∧ (∀ u, RelV c u → u = cv) ∧ cls = .ref C ∧ ExcD K C ∧ d = some dd ∧ H dd = some (.xd fs) ∧
  PySem.W.kitOne K (.ref C) cv = some b ∧ Q (.bl b) H
theorem call_isD {X : Cx} {a : Addr} {oe : Obj} {cls : Value} {d : Option Addr} {pn : List (Addr × Obj)} (hz : Zc cls d oe) (hf : ∃ vs, oe.data = .fields vs) : CallR (X.suite a ((a, oe) :: pn)) (.builtin "isinstance") (rIsD X.K a cls d) := by
  intro pins s σ H xs us Q I r h
  obtain ⟨c, cv, b, C, dd, fs, rfl, hcv, rfl, T, rfl, hdd, e, q⟩ := h
  obtain ⟨u1, u2, r1, r2, rfl⟩ : ∃ u1 u2, RelV (.ref a) u1 ∧ RelV c u2 ∧ us = [u1, u2] := by
    cases r with
    | cons x r =>
      cases r with
      | cons y r =>
        cases r
        exact ⟨_, _, x, y, rfl⟩
  obtain rfl : u1 = Value.ref a := r1
  obtain rfl := hcv _ r2
  obtain ⟨at1, _⟩ := I.pin (a, oe) (List.mem_append_left _ List.mem_cons_self)
  obtain ⟨mD, ns, _⟩ : ObjOk X.prog X.w H s.heap dd (.xd fs) := I.hok dd _ hdd
  obtain ⟨od, hod, _⟩ := lookIn_ns ns
  obtain ⟨vs, hv⟩ := hf
  have J : PySem.W.InstAt s.heap a oe C (some od) := ⟨at1, hz.1, by unfold PySem.W.notCls; rw [hv] <;> rfl, by rw [hz.2]; exact hod⟩
  exact PySem.W.kia_one (PySem.W.kitx_exc T.cl T.ga T.gt T.su T.ca T.gs T.tk T.ob) I.kIn J e (fun z => nomatch z) fun tk => ⟨.bl b, H, I.kept (t' := tk) fun _ _ z => z, rfl, q⟩
end K35
set_option maxHeartbeats 4000000
/-! P22: _law_told -/
namespace K35
open PySem PySem.Spec PyProof.Rows L2 Evl LamX
theorem boot_ArithE : bootBuiltins "ArithmeticError" = some (.type "ArithmeticError") := by first | rfl | kernel_rfl
def Small (d : PyData) : Prop := Lf d ∧ szD d ≤ 200000 ∧ d.depth ≤ 40
/-- a list of a word and a text is handed back -/
def Says (wd t : Str) (H : Hp) (Q : VK) : Prop := ∀ l H2, Ex H H2 → H2 l = some (.lst [.str wd, .str t]) → Q (.ref l) H2
structure ToldK (P : Program) (w : World) (K : PySem.W.Frag) (mg : Str → Option Value) (base : Heap) (CB CW CT : Addr) (c1 c2 : Value) : Prop where
  g1 : mg "WrongValue" = some c1
  g2 : mg "NoAnswer" = some c2
  gW : mg "InvalidWeb" = some (.ref CW)
  gT : mg "Trapped" = some (.ref CT)
  gB : mg "Web" = some (.ref CB)
  r1 : ∃ a, c1 = .ref a
  exW : PySem.W.exmAny K (.ref CW) [c1, c2] = some true
  exT : PySem.W.exmAny K (.ref CT) [c1, c2] = some true
  dW : ExcD K CW
  dT : ExcD K CT
  xW : XfC K CW
  xT : XfC K CT
  nW : PySem.W.findIn K (.ref CW) "given" = some none
  nT : PySem.W.findIn K (.ref CT) "lot" = some none
  kTT : PySem.W.kitOne K (.ref CT) (.ref CT) = some true
  kTA : PySem.W.kitOne K (.ref CT) (.type "ArithmeticError") = some true
  kT1 : PySem.W.kitOne K (.ref CT) c1 = some false
  kWT : PySem.W.kitOne K (.ref CW) (.ref CT) = some false
  kWW : PySem.W.kitOne K (.ref CW) (.ref CW) = some true
  kWV : PySem.W.kitOne K (.ref CW) (.type "ValueError") = some true
  kBB : PySem.W.kitOne K (.ref CB) (.ref CB) = some true
  ktB : PySem.W.kitOne K (.type "tuple") (.ref CB) = some false
  cB : Cls K CB
  haB : PySem.W.findIn K (.ref CB) "__class__" = some (some (.builtin "object.__class__"))
  hmB : PySem.W.mroIn K CB (.type "object") = some true
  prop : ∃ p g fd, PropOf K CB "rows" p g ∧ FnOk P w K mg base C8.CX0 1 g fd ["self"] (getSp CB "lines") ∧ Binds K fd ["self"] []
/-- an error that is told -/
def eTold (CW CT : Addr) (Q : VK) : XK := fun cls d H => (cls = .ref CT ∧ ∃ dd v dt p, d = some dd ∧ H dd = some (.xd [(("lot" : Str), v)]) ∧ DT p H v dt ∧ Small dt ∧ Says "trap" dt.shown H Q) ∨
  (cls = .ref CW ∧ ∃ dd v dt p, d = some dd ∧ H dd = some (.xd [(("given" : Str), v)]) ∧ DT p H v dt ∧ Small dt ∧ Says "web" dt.shown H Q)
/-- a value that is told -/
def vTold (CB : Addr) (Q : VK) : VK := fun v H => (∃ x dx fs u dt p, v = .ref x ∧ H x = some (.ins CB dx fs) ∧ fs.lookup ("lines" : Str) = some u ∧ DT p H u dt ∧ Small dt ∧ Says "told" dt.shown H Q) ∨
  (∃ q xs dt p, v = .ref q ∧ H q = some (.tup xs) ∧ DT p H v dt ∧ Small dt ∧ Says "told" dt.shown H Q)
def TTt (CB CW CT : Addr) : (XK → Hp → VK → Prop) → Hp → VK → Prop := fun tl H Q => ∀ V : VK, (∀ v H1, vTold CB Q v H1 → V v H1) → tl (eTold CW CT Q) H V
abbrev tB61 : List Stmt := defBody (topS 61)
abbrev tN61 : List Str := ["_law_act", "_law_found", "e"]
section
variable {K : PySem.W.Frag} {σ : L2.St} {H : Hp} {te : TE}
theorem ev_rep {v : V} {p : Addr} {d : PyData} (h : Ev te σ H v) (hd : DT p H v d) (hs : Small d) : Ev (tCB rReprD (tCons te tNil)) σ H (.str d.shown) := fun H1 e Q q =>
  h H1 e _ fun H2 e2 => ⟨p, v, d, rfl, hd.ex (e.trans e2), hs.1, hs.2.1, hs.2.2, q H2 e2⟩
theorem ev_xf {a C dd : Addr} {f : Str} {v : V} (h : Ev te σ H (.ref a)) (hd : H dd = some (.xd [(f, v)])) : Ev (tXf a (.ref C) (some dd) C f te) σ H v := fun H1 e Q q =>
  h H1 e _ fun H2 e2 => ⟨rfl, rfl, dd, _, v, rfl, e2 dd _ (e dd _ hd), by rw [List.lookup_cons, beq_self_eq_true], q H2 e2⟩
theorem ev_isD {a C dd : Addr} {fs : List (Str × V)} {c : V} {cv : Value} {b : Bool} {tc : TE} (h : Ev te σ H (.ref a)) (hc : Ev tc σ H c) (r : ∀ u, RelV c u → u = cv) (T : ExcD K C) (hd : H dd = some (.xd fs)) (k : PySem.W.kitOne K (.ref C) cv = some b) :
    Ev (tCB (rIsD K a (.ref C) (some dd)) (tCons te (tCons tc tNil))) σ H (.bl b) := fun H1 e Q q =>
  h H1 e _ fun H2 e2 => hc H2 (e.trans e2) _ fun H3 e3 => ⟨c, cv, b, C, dd, fs, rfl, r, rfl, T, rfl, e3 dd _ (e2 dd _ (e dd _ hd)), k, q H3 (e2.trans e3)⟩
theorem ev_isB {v : V} {CB : Addr} {t : Value} {b : Bool} (h : Ev te σ H v) (h0 : TyX K H v t) (ht : ∀ H1, Ex H H1 → TyX K H1 v t) (k : PySem.W.kitOne K t (.ref CB) = some b) : Ev (tCB (rIsi K) (tCons te (tCons (tC (.ref CB)) tNil))) σ H (.bl b) := fun H1 e Q q =>
  h H1 e _ fun H2 e2 => ⟨v, .ref CB, t, .ref CB, b, rfl, .own CB, ht H2 (e.trans e2), k, q H2 e2⟩
theorem ev_rows {i : Nat} {x dx CB : Addr} {fs : List (Str × V)} {u : V} {E : XK} (hx : H x = some (.ins CB dx fs)) (hl : fs.lookup ("lines" : Str) = some u) (hv : σ[i]? = some (some (.ref x)) := by rfl) : Ev (tProp CB (getSp CB "lines") [] E (tVar i)) σ H u := fun H1 e Q q =>
  ⟨_, hv, x, dx, fs, rfl, e x _ hx, x, dx, fs, u, rfl, e x _ hx, hl, q H1 (Ex.refl H1)⟩
theorem s_says {D : Ends} {wd t : Str} {ta tb : TE} (h1 : Ev ta σ H (.str wd)) (h2 : Ev tb σ H (.str t)) (q : Says wd t H D.rt) : tRet (tLst (tCons ta (tCons tb tNil))) D σ H :=
  s_retL (el_lst (ea_cons h1 (ea_cons h2 ea_nil)) (by simp)) fun l H2 _ e h => q l H2 e h
end
section
variable {w : World} {X : Cx} {CB CW CT : Addr} {c1 c2 : Value}
theorem rel_ref {a : Addr} : ∀ u, RelV (.ref a) u → u = Value.ref a := fun u r => r
theorem rel_ty {t : String} : ∀ u, RelV (.ty t) u → u = Value.type t := fun u r => r
theorem told_gives {g : Addr} {cdg : Value} {q : Str} (T : ToldK X.prog X.w X.K X.mg X.base CB CW CT c1 c2) (G : Nm X.K X.mg) (hgs : X.A.guards = some []) (hr0 : Room 4 X.A) :
    GivesTo X tN61 "_law_told" (defScope (topS 61)) g cdg tB61 "_law_act" q (TTt CB CW CT) := by
  intro f c' s H Q tl act hc h
  have nd : tN61.Nodup := by decide
  obtain ⟨a1, rfl⟩ := T.r1
  obtain ⟨pp, pg, pfd, hP, hF, hB⟩ := T.prop
  let Y : Cx := (cxOf C8.CX0 X.prog X.w X.K X.mg X.base tN61 "_law_told" (defScope (topS 61)) g cdg X.A X.stack s H C8.E0).nox
  have hr : Room 3 Y.A := hr0.deeper _
  have yg : Y.A.guards = some [] := hgs
  have yu : Y.A.units + 100 < cLine := by have := hr.un; omega
  have n1 : Names Y "WrongValue" (.ref a1) := ⟨rfl, by decide, .inl T.g1⟩
  have n2 : Names Y "NoAnswer" c2 := ⟨rfl, by decide, .inl T.g2⟩
  refine ⟨_, pss_cons (ps_tryT (X := Y) (i := 2) (c1 := .ref a1) (c2 := c2)
      (tb := fun W D σ H => ∃ En : XK, (∀ cls d σ1 H1, En cls d H1 → W cls d σ1 H1) ∧ σ[0]? = some (some (.ref f)) ∧ H c' = some (CodeO c' q) ∧ tl En H fun v H1 => D.nx (σ.set 1 (some v)) H1)
      rfl rfl nd rfl rfl n1 n2 (fun W pn xe tk _ => ?body) (fun a oe cls d pn hz hf => pss_cons (ps_if (PW.pt (pw_and (pt_val (pe_callB (call_isD hz hf) (by rfl) G.n_isinstance PyProof.Rows.boot_isinstance (pa_cons (pv 2) (pa_cons (pe_glob (v := .ref CT) rfl T.gT rfl) pa_nil))))
        (pw_and (pt_val (pe_callB (call_isD hz hf) (by rfl) G.n_isinstance PyProof.Rows.boot_isinstance (pa_cons (pv 2) (pa_cons (pe_bltn (v := .ty "ArithmeticError") (by rfl) G.n_ArithmeticError boot_ArithE rfl) pa_nil))))
          (pw_and1 (pt_not (pt_val (pe_callB (call_isD hz hf) (by rfl) G.n_isinstance PyProof.Rows.boot_isinstance (pa_cons (pv 2) (pa_cons (pe_glob (v := .ref a1) rfl T.g1 rfl) pa_nil)))))))))
        (pss_one (ps_ret (pe_lst (pa_cons pe_str (pa_cons (pe_callB (call_reprD yg yu) (by rfl) G.n_repr PyProof.Rows.boot_repr (pa_cons (pe_xf T.xT T.nT hz hf (pv 2)) pa_nil)) pa_nil))))) pss_nil)
      (pss_one (ps_ret (pe_ifExp (PW.pt (pw_and (pt_val (pe_callB (call_isD hz hf) (by rfl) G.n_isinstance PyProof.Rows.boot_isinstance (pa_cons (pv 2) (pa_cons (pe_glob (v := .ref CW) rfl T.gW rfl) pa_nil))))
        (pw_and1 (pt_val (pe_callB (call_isD hz hf) (by rfl) G.n_isinstance PyProof.Rows.boot_isinstance (pa_cons (pv 2) (pa_cons (pe_bltn (v := .ty "ValueError") (by rfl) G.n_ValueError L2.boot_ValueError rfl) pa_nil)))))))
        (pe_lst (pa_cons pe_str (pa_cons (pe_callB (call_reprD yg yu) (by rfl) G.n_repr PyProof.Rows.boot_repr (pa_cons (pe_xf T.xW T.nW hz hf (pv 2)) pa_nil)) pa_nil)))
        (pe_lst (pa_cons pe_str (pa_cons pe_str pa_nil)))))))) (pss_one (ps_ret (pe_lst (pa_cons pe_str (pa_cons (pe_callB (call_reprD yg yu) (by rfl) G.n_repr PyProof.Rows.boot_repr (pa_cons (pe_ifExp (pt_val (pe_callB call_isi (by rfl) G.n_isinstance PyProof.Rows.boot_isinstance (pa_cons (pv 1) (pa_cons (pe_glob (v := .ref CB) rfl T.gB rfl) pa_nil))))
      (pe_prop (pv 1) T.cB hP hF (hr.mono (by decide)) hB .nil (C8.pass0 (E := C8.E0)) rfl) (pv 1)) pa_nil)) pa_nil))))), ?fin⟩
  case body =>
    refine ⟨fun pins s1 σ1 H1 D I hh => ?_⟩
    obtain ⟨En, k1, k2, k3, k4⟩ := hh
    exact (pss_one (ps_set (i := 1) nd rfl (Or.inl rfl) (act W pn xe En _ _ tk k1))).run pins s1 σ1 H1 D I ⟨k2, k3, k4⟩
  case fin =>
    refine ⟨eTold CW CT Q, fun cls d σ1 H1 hE => ?_, rfl, hc, h _ fun v H1 hV => ?_⟩
    · rcases hE with ⟨rfl, dd, v, dt, p, rfl, hdd, hv, hs, hQ⟩ | ⟨rfl, dd, v, dt, p, rfl, hdd, hv, hs, hQ⟩
      · refine ⟨T.exT, fun a na ln => ?_⟩
        have l2 : (σ1.set 2 (some (V.ref a)))[2]? = some (some (.ref a)) := List.getElem?_set_self (by rw [ln]; show 2 < 3; decide)
        refine q_when (b := true) ?_ (fun _ H2 e2 => ?_) fun z => Bool.noConfusion z
        · refine et_and (a := true) (b := true) (et_B (ev_isD (ev_var l2) ev_c rel_ref T.dT hdd T.kTT)) fun _ => ?_
          refine et_and (a := true) (b := true) (et_B (ev_isD (ev_var l2) ev_c rel_ty T.dT hdd T.kTA)) fun _ => ?_
          exact et_not (a := false) (et_B (ev_isD (ev_var l2) ev_c rel_ref T.dT hdd T.kT1))
        · exact s_says ev_c (ev_rep (ev_xf (ev_var l2) (e2 dd _ hdd)) (hv.ex e2) hs) fun l H3 e3 h3 => hQ l H3 (e2.trans e3) h3
      · refine ⟨T.exW, fun a na ln => ?_⟩
        have l2 : (σ1.set 2 (some (V.ref a)))[2]? = some (some (.ref a)) := List.getElem?_set_self (by rw [ln]; show 2 < 3; decide)
        refine q_when (b := false) ?_ (fun z => Bool.noConfusion z) fun _ H2 e2 => ?_
        · exact et_and (a := false) (b := false) (et_B (ev_isD (ev_var l2) ev_c rel_ref T.dW hdd T.kWT)) fun z => Bool.noConfusion z
        · refine s_retL (el_if (b := true) ?_ (fun _ => el_lst (ea_cons ev_c (ea_cons (ev_rep (ev_xf (ev_var l2) (e2 dd _ hdd)) (hv.ex e2) hs) ea_nil)) (by simp)) fun z => Bool.noConfusion z) fun l H3 _ e3 h3 => hQ l H3 (e2.trans e3) h3
          refine et_and (a := true) (b := true) (et_B (ev_isD (ev_var l2) ev_c rel_ref T.dW (e2 dd _ hdd) T.kWW)) fun _ => ?_
          exact et_B (ev_isD (ev_var l2) ev_c rel_ty T.dW (e2 dd _ hdd) T.kWV)
    · rcases hV with ⟨x, dx, fs, u, dt, p, rfl, hx, hl, hu, hs, hQ⟩ | ⟨x, xs, dt, p, rfl, hx, hu, hs, hQ⟩
      · refine s_says ev_c (ev_rep (ev_if (b := true) (et_B (ev_isB (ev_var rfl) (.base (.ins hx T.cB T.haB T.dW.gs T.dW.tk T.hmB)) (fun H2 e2 => .base (.ins (e2 x _ hx) T.cB T.haB T.dW.gs T.dW.tk T.hmB)) T.kBB)) (fun _ => ev_rows hx hl) fun z => Bool.noConfusion z) hu hs) hQ
      · refine s_says ev_c (ev_rep (ev_if (b := false) (et_B (ev_isB (ev_var rfl) (.base (.tup hx)) (fun H2 e2 => .base (.tup (e2 x _ hx))) T.ktB)) (fun z => Bool.noConfusion z) fun _ => ev_var rfl) hu hs) hQ
end
end K35
set_option maxHeartbeats 4000000
/-! P23a: what the law's right side tells; readings of the lambdas -/
namespace K35
open PySem PySem.Spec PyProof.Rows L2 Evl LamX
/-- all but the bowl and the tables stays -/
def Exw (p : Addr) (H H' : Hp) : Prop := ∀ a o, a ≠ p → (∀ ps, o ≠ .tbl ps) → H a = some o → H' a = some o
section
variable {p : Addr} {H H1 H' : Hp}
theorem Exw.refl : Exw p H H := fun _ _ _ _ h => h
theorem Exw.trans (a : Exw p H H1) (b : Exw p H1 H') : Exw p H H' := fun x o n m h => b x o n m (a x o n m h)
theorem Exw.of (e : Ex H H') : Exw p H H' := fun x o _ _ h => e x o h
theorem Exw.ofB (e : Exb p H H') : Exw p H H' := fun x o n _ h => e x o n h
theorem Exw.ofN (e : ExtN H H') : Exw p H H' := fun x o _ m h => e x o h m
mutual
theorem DT.w (e : Exw p H H') : ∀ {v : V} {d : PyData}, DT p H v d → DT p H' v d
  | _, _, .non => .non
  | _, _, .bl b => .bl b
  | _, _, .int i => .int i
  | _, _, .str x => .str x
  | _, _, .lst n h hs => .lst n (e _ _ n.1 (fun _ z => by cases z) h) (DTs.w e hs)
  | _, _, .tup n h hs => .tup n (e _ _ n (fun _ z => by cases z) h) (DTs.w e hs)
  | _, _, .dic n h => .dic n (e _ _ n (fun _ z => by cases z) h)
theorem DTs.w (e : Exw p H H') : ∀ {vs : List V} {ds : List PyData}, DTs p H vs ds → DTs p H' vs ds
  | _, _, .nil => .nil
  | _, _, .cons h hs => .cons (DT.w e h) (DTs.w e hs)
end
theorem Exw.lst (e : Exw p H H') {l : Addr} {xs : List V} (n : l ≠ p) (h : H l = some (.lst xs)) : H' l = some (.lst xs) := e l _ n (fun _ z => by cases z) h
theorem bowlAt.n (h : bowlAt p H) (e : ExtN H H') : bowlAt p H' := by
  obtain ⟨a, b, c, q⟩ := h
  exact ⟨a, b, c, e p _ q fun _ z => by cases z⟩
theorem tabs_b {T : List (Addr × Str)} (e : Exb p H H') (hb : bowlAt p H) (t : Tabs T H) : Tabs T H' := fun x hx => by
  obtain ⟨ps, h1, h2, h3⟩ := t x hx
  obtain ⟨i, j, k, hp⟩ := hb
  refine ⟨ps, e _ _ (fun z => ?_) h1, h2, fun pos cv hc => ?_⟩
  · rw [z, hp] at h1
    cases h1
  · obtain ⟨c, e1, e2⟩ := h3 pos cv hc
    refine ⟨c, e1, e _ _ (fun z => ?_) e2⟩
    rw [z, hp] at e2
    unfold CodeO at e2
    cases e2
end
/-- bowl, tables and all that was known -/
structure Good (p tb : Addr) (q : Str) (H H' : Hp) : Prop where
  ex : Exw p H H'
  bowl : bowlAt p H'
  tabs : Tabs [(tb, q)] H'
section
variable {p tb : Addr} {q : Str} {H H1 H2 : Hp}
theorem Good.e (g : Good p tb q H H1) (e : Ex H1 H2) : Good p tb q H H2 := ⟨g.ex.trans (.of e), g.bowl.ex e, g.tabs.ext e⟩
theorem Good.b (g : Good p tb q H H1) (e : Exb p H1 H2) (b : bowlAt p H2) : Good p tb q H H2 := ⟨g.ex.trans (.ofB e), b, tabs_b e g.bowl g.tabs⟩
theorem Good.n (g : Good p tb q H H1) (e : ExtN H1 H2) (t : Tabs [(tb, q)] H2) : Good p tb q H H2 := ⟨g.ex.trans (.ofN e), g.bowl.n e, t⟩
end
/-! ### what is due -/
def lotD (d : PyData) : PyData := .tuple ((trapD (itemsD d)).map .str)
def caught (d : PyData) : Bool := decide (trapD (itemsD d) ≠ []) && !coinsD (itemsD d)
def dueD (d : PyData) : Str × Str := if isRows d = true then (if caught d = true then ("trap", (lotD d).shown) else ("told", d.shown)) else ("web", d.shown)
def nearD (d : PyData) : Str × Str := if isRows d = true then ("told", (lotD d).shown) else ("web", d.shown)
theorem trap_mem {ds : List PyData} {z : Str} : z ∈ trapD ds → ∃ r, r ∈ ds ∧ rowName r = z := by
  have : ∀ n, z ∈ it ds n → ∃ r, r ∈ ds ∧ rowName r = z := fun n => by
    cases n with
    | zero =>
      intro h
      obtain ⟨r, hr, e⟩ := List.mem_map.mp h
      exact ⟨r, (List.mem_filter.mp hr).1, e⟩
    | succ n =>
      intro h
      obtain ⟨r, hr, e⟩ := List.mem_map.mp h
      exact ⟨r, (List.mem_filter.mp hr).1, e⟩
  exact this _
theorem trap_len (ds : List PyData) : (trapD ds).length ≤ ds.length := by
  have : ∀ n, (it ds n).length ≤ ds.length := fun n => by
    cases n with
    | zero =>
      show ((ds.filter notEnd).map rowName).length ≤ _
      rw [List.length_map]
      exact List.length_filter_le _ _
    | succ n =>
      show ((ds.filter _).map rowName).length ≤ _
      rw [List.length_map]
      exact List.length_filter_le _ _
  exact this _
theorem lf_items {ds : List PyData} (h : Lf (.tuple ds)) : ∀ d, d ∈ ds → Lf d := by
  cases h
  assumption
theorem lot_small {d : PyData} (h : isRows d = true) (hl : Lf d) : Small (lotD d) := by
  obtain ⟨ds, rfl, l24, hg⟩ := rows_of h
  have each : ∀ e, e ∈ (trapD ds).map PyData.str → Lf e ∧ szD e ≤ 400 ∧ e.depth ≤ 0 := fun e he => by
    obtain ⟨z, hz, rfl⟩ := List.mem_map.mp he
    obtain ⟨r, hr, rfl⟩ := trap_mem hz
    obtain ⟨g1, _, _, g4⟩ := rowG_row (hg r hr)
    obtain ⟨a, b, c, rfl⟩ := trip_of g1
    obtain ⟨s, es, _⟩ := pl_str g4
    have es : a = .str s := es
    subst es
    have la : Lf (.str s) := lf_items (lf_items hl _ hr) _ List.mem_cons_self
    refine ⟨la, ?_, Nat.le_refl _⟩
    cases la with
    | str _ h1 h2 =>
      show szD (.str s) ≤ 400
      rw [szD]
      omega
  refine ⟨.tup fun e he => (each e he).1, ?_, ?_⟩
  · unfold lotD
    rw [szD]
    have a := szs_all (n := 400) fun e he => (each e he).2.1
    have b := trap_len ds
    rw [List.length_map] at a
    show szs ((trapD ds).map PyData.str) + 10 ≤ 200000
    omega
  · unfold lotD
    rw [PyData.depth]
    have := depth_all (k := 0) fun e he => (each e he).2.2
    show PyData.depthAll ((trapD ds).map PyData.str) + 1 ≤ 40
    omega
section
variable {CB CW CT : Addr} {σ : L2.St} {H : Hp} {Q V' : VK} {p : Addr} {v : V} {d : PyData} {i : Nat}
theorem Says.ex {wd t : Str} {H2 : Hp} (s : Says wd t H Q) (e : Ex H H2) : Says wd t H2 Q := fun l H3 e3 h => s l H3 (e.trans e3) h
theorem web_sp (hd : DT p H v d) (hs : Small d) (S : Says (dueD d).1 (dueD d).2 H Q) (hV : ∀ u H2, vTold CB Q u H2 → V' u H2) (x dx : Addr) (nx : H x = none) (ndx : H dx = none) (ne : dx ≠ x) :
    spWeb CB CW CT [.ref x, v] (upd (upd H dx (.own x)) x (.ins CB dx [])) (fun u H2 => u = .non ∧ V' (.ref x) H2) (eTold CW CT Q) := by
  have e0 : Ex H (upd (upd H dx (.own x)) x (.ins CB dx [])) := (Ex.new ndx).trans (Ex.new (by rw [upd_ne (Ne.symm ne)]; exact nx))
  refine ⟨x, p, v, d, H, dx, rfl, nx, e0, upd_same, hd, hs.1.okd (Nat.le_refl _) hs.2.1, fun hb dd H2 e2 h2 => ?_, fun hb ht hc q H1 e1 hq dd H2 e2 h2 => ?_, fun hb hc H2 dx' fs e2 hx hl => ⟨rfl, hV _ H2 ?_⟩⟩
  · refine .inr ⟨rfl, dd, v, d, p, rfl, h2, hd.ex e2, hs, Says.ex ?_ e2⟩
    unfold dueD at S
    rw [if_neg (by rw [hb]; decide)] at S
    exact S
  · obtain ⟨ds, rfl, l24, hg⟩ := rows_of hb
    refine .inl ⟨rfl, dd, .ref q, lotD (.tuple ds), Nat.succ q, rfl, h2, ?_, lot_small hb hs.1, Says.ex ?_ (e1.trans e2)⟩
    · refine .tup (Nat.succ_ne_self q).symm (e2 q _ hq) ?_
      exact DTs.strs _
    · unfold dueD at S
      rw [if_pos hb, if_pos (by unfold caught; rw [hc, decide_eq_true ht]; rfl)] at S
      exact S
  · refine .inl ⟨x, dx', fs, v, d, p, rfl, hx, hl, hd.ex e2, hs, Says.ex ?_ e2⟩
    unfold dueD at S
    rw [if_pos hb, if_neg (by
      unfold caught
      rcases hc with hc | hc
      · rw [hc]
        simp
      · rw [hc]
        simp)] at S
    exact S
theorem gt_sp (hd : DT p H v d) (hs : Small d) (S : Says (nearD d).1 (nearD d).2 H Q) (hV : ∀ u H2, vTold CB Q u H2 → V' u H2) : spGT CW [v] H V' (eTold CW CT Q) := by
  refine ⟨p, v, d, rfl, hd, hs.1.okd (Nat.le_refl _) hs.2.1, fun hb dd H2 e2 h2 => ?_, fun hb q H2 e2 hq => hV _ H2 ?_⟩
  · refine .inr ⟨rfl, dd, v, d, p, rfl, h2, hd.ex e2, hs, Says.ex ?_ e2⟩
    unfold nearD at S
    rw [if_neg (by rw [hb]; decide)] at S
    exact S
  · refine .inr ⟨q, _, lotD d, Nat.succ q, rfl, hq, .tup (Nat.succ_ne_self q).symm hq (DTs.strs _), lot_small hb hs.1, Says.ex ?_ e2⟩
    unfold nearD at S
    rw [if_pos hb] at S
    exact S
theorem web_go (hv : σ[i]? = some (some v)) (hd : DT p H v d) (hs : Small d) (S : Says (dueD d).1 (dueD d).2 H Q) (hV : ∀ u H2, vTold CB Q u H2 → V' u H2) : tMake CB (spWeb CB CW CT) [] (eTold CW CT Q) (tCons (tVar i) tNil) σ H V' :=
  ⟨v, hv, fun x dx nx ndx ne => web_sp hd hs S hV x dx nx ndx ne⟩
theorem webk_go (hv : σ[i]? = some (some v)) (hd : DT p H v d) (hs : Small d) (S : Says (dueD d).1 (dueD d).2 H Q) (hV : ∀ u H2, vTold CB Q u H2 → V' u H2) : tMakeK CB 0 1 (spWeb CB CW CT) (fun vs zs => vs ++ zs) (eTold CW CT Q) tNil (tCons (tVar i) tNil) σ H V' :=
  ⟨v, hv, rfl, rfl, fun x dx nx ndx ne => web_sp hd hs S hV x dx nx ndx ne⟩
theorem gt_go (hv : σ[i]? = some (some v)) (hd : DT p H v d) (hs : Small d) (S : Says (nearD d).1 (nearD d).2 H Q) (hV : ∀ u H2, vTold CB Q u H2 → V' u H2) : tCall (spGT CW) [] (eTold CW CT Q) (tCons (tVar i) tNil) σ H V' :=
  ⟨v, hv, gt_sp hd hs S hV⟩
end
/-- what _law_told tells of a lambda -/
theorem tl_go {CB CW CT tb : Addr} {q : Str} {σ : L2.St} {H : Hp} {Q : VK} {t : XK → TE} {r : Str × Str} (hT : Tabs [(tb, q)] H)
    (hx : ∀ H1, ExtN H H1 → ∀ V' : VK, (∀ u H2, vTold CB Q u H2 → V' u H2) → Says r.1 r.2 H1 Q → t (eTold CW CT Q) σ H1 V')
    (k : ∀ l H2, ExtN H H2 → Tabs [(tb, q)] H2 → H2 l = some (.lst [.str r.1, .str r.2]) → Q (.ref l) H2) : tLam [(tb, q)] (TTt CB CW CT) t σ H Q :=
  ⟨hT, fun H1 e1 T1 V' hV => hx H1 e1 V' hV fun l H2 e2 h2 => k l H2 (e1.trans (.of e2)) (T1.ext e2) h2⟩
end K35
set_option maxHeartbeats 4000000
/-! P23b: parts of _law_right's turn -/
namespace K35
open PySem PySem.Spec PyProof.Rows L2 Evl LamX
abbrev tSay (wd : Str) (i : Nat) : TE := tLst (tCons (tC (.str wd)) (tCons (tCB rReprD (tCons (tVar i) tNil)) tNil))
section
variable {K : PySem.W.Frag} {σ : L2.St} {H H0 : Hp} {D : Ends} {tz : TS} {p tb : Addr} {q : Str} {v : V} {d : PyData} {Q : VK}
theorem seq_asgW {te : TE} {i : Nat} {xs : List V} (h : EvW te σ H xs) (k : ∀ a H1, Ex H H1 → H1 a = some (.tup xs) → tz D (σ.set i (some (.ref a))) H1) : tSeq (tAsg te (gName i)) tz D σ H := h H (Ex.refl H) _ k
theorem ev_neTu {te : TE} {a : Addr} {xs : List V} (h : Ev te σ H (.ref a)) (ht : H a = some (.tup xs)) : Ev (tOp (rNeE K) te (tTup tNil)) σ H (.bl !xs.isEmpty) := fun H1 e Q q =>
  h H1 e _ fun H2 e2 => ⟨sz_of (Nat.zero_le _), fun b hb => ⟨a, b, xs, rfl, rfl, ne_of_none ((e.trans e2) a _ ht) hb, .inr ⟨st_of (Ex.new hb a _ ((e.trans e2) a _ ht)), st_of upd_same⟩, q _ (e2.trans (Ex.new hb))⟩⟩
theorem el_say {wd : Str} {i : Nat} (hv : σ[i]? = some (some v)) (hd : DT p H v d) (hs : Small d) : EvL (tSay wd i) σ H [.str wd, .str d.shown] :=
  el_lst (ea_cons ev_c (ea_cons (ev_rep (ev_var hv) hd hs) ea_nil)) (by simp)
theorem wide_go {b : Bool} (h0 : σ[0]? = some (some (.ref p))) (h2 : σ[2]? = some (some v)) (g : Good p tb q H0 H) (z : Dz 42000 11 p H v) (k : ∀ u H1, Good p tb q H0 H1 → Dz 42000 11 p H1 u → Q u H1) :
    if b = true then tCall (PrU preWide) [] C8.E0 (tCons (tVar 0) tNil) σ H Q else tVar 2 σ H Q := by
  refine ite_go (fun _ => ?_) fun _ => ⟨v, h2, k v H g z⟩
  exact ⟨_, h0, p, _, _, ⟨rfl, rfl, rfl⟩, g.bowl, fun u H1 e1 b1 w => k u H1 (g.b e1 b1) ((w.z b1).le (by decide) (by decide))⟩
theorem coins_ev {vs : List PyData} (hv : σ[2]? = some (some v)) (ra : ∀ H1, Ex H H1 → RowsAt p H1 v vs) : EvT (tNot (tB (tCall (PrV (preRowsB coinsD)) [] C8.E0 (tCons (tVar 2) tNil)))) σ H (!coinsD vs) :=
  et_not (et_B (ev_pr (ea_cons (ev_var hv) ea_nil) fun H1 e1 => ⟨p, v, vs, rfl, ra H1 e1, rfl⟩))
theorem due_go {c1 c3 c6 c7 c8 : Option V} {l1 l2 : Addr} (g : Good p tb q H0 H) (hd : DT p H v d) (hl : Lf d) (hs : Small d) (f1 : l1 ≠ p) (f2 : l2 ≠ p) (h1 : H l1 = some (.lst [.str "web", .str d.shown])) (h2 : H l2 = some (.lst [.str "web", .str d.shown]))
    (k : ∀ c6 a b H1, Good p tb q H0 H1 → Exw p H H1 → a ≠ p → b ≠ p → H1 a = some (.lst [.str (dueD d).1, .str (dueD d).2]) → H1 b = some (.lst [.str (nearD d).1, .str (nearD d).2]) → tz D [some (.ref p), c1, some v, c3, some (.ref a), some (.ref b), c6, c7, c8] H1) :
    tSeq (tIfS (tB (tCall (PrV (preB isRows)) [] C8.E0 (tCons (tVar 2) tNil))) (tSeq (tAsg (tCall (PrW (preRowsW trapD)) [] C8.E0 (tCons (tVar 2) tNil)) (gName 6)) (tSeq (tPar 4 5 (tCons (tSay "told" 2) (tCons (tSay "told" 6) tNil)))
      (tAsg (tIf (tAnd (tTest (tOp (rNeE K) (tVar 6) (tTup tNil))) (tNot (tB (tCall (PrV (preRowsB coinsD)) [] C8.E0 (tCons (tVar 2) tNil))))) (tSay "trap" 6) (tVar 4)) (gName 4)))) tNext) tz D [some (.ref p), c1, some v, c3, some (.ref l1), some (.ref l2), c6, c7, c8] H := by
  refine q_when (b := isRows d) (et_B (ev_pr (ea_cons (ev_var rfl) ea_nil) fun H1 e1 => ⟨p, v, d, hd.ex e1, hs.1.okd (Nat.le_refl _) hs.2.1, rfl, rfl⟩)) (fun hb H1 e1 => ?_) fun hb H1 e1 => ?_
  · obtain ⟨ds, rfl, l24, hg⟩ := rows_of hb
    have ra : ∀ {H2 : Hp}, Ex H1 H2 → RowsAt p H2 v ds := fun e2 => ⟨hd.ex (e1.trans e2), l24, hg⟩
    refine seq_asgW (ew_pr (ea_cons (ev_var rfl) ea_nil) fun H2 e2 => ⟨p, v, ds, rfl, ra e2, rfl⟩) fun t H2 e2 ht => ?_
    have nt : t ≠ p := tup_ne (g.bowl.ex (e1.trans e2)) ht
    have lt : ∀ {H3 : Hp}, Ex H2 H3 → DT p H3 (.ref t) (lotD (.tuple ds)) := fun e3 => .tup nt (e3 t _ ht) (DTs.strs _)
    have ls : Small (lotD (.tuple ds)) := lot_small hb hl
    have x2 := e1.trans e2
    refine par_go (cons_L (el_say (d := .tuple ds) rfl (hd.ex x2) hs) fun a H3 fa e3 ha => cons_L (el_say (d := lotD (.tuple ds)) rfl (lt e3) ls) fun b H4 fb e4 hb' => ⟨_, _, rfl, ?_⟩)
    have x4 : Ex H H4 := (x2.trans e3).trans e4
    have na : a ≠ p := bowl_new (g.bowl.ex x2) fa
    have nb : b ≠ p := bowl_new (g.bowl.ex (x2.trans e3)) fb
    have ha4 := e4 a _ ha
    have lt4 := lt (e3.trans e4)
    have ev : EvT (tAnd (tTest (tOp (rNeE K) (tVar 6) (tTup tNil))) (tNot (tB (tCall (PrV (preRowsB coinsD)) [] C8.E0 (tCons (tVar 2) tNil))))) [some (.ref p), c1, some v, c3, some (.ref a), some (.ref b), some (.ref t), c7, c8] H4 (caught (.tuple ds)) := by
      refine et_and (et_is (et_test (ev_neTu (ev_var rfl) (e4 t _ (e3 t _ ht)))) ?_) fun _ => coins_ev rfl fun H5 e5 => ra ((e2.trans e3).trans (e4.trans e5))
      show _ = decide (trapD ds ≠ [])
      cases trapD ds <;> simp
    show tIf _ _ _ _ H4 _
    refine ev H4 (Ex.refl _) _ fun H5 e5 => ?_
    have near : ∀ {H6 : Hp}, Ex H5 H6 → H6 b = some (.lst [.str (nearD (.tuple ds)).1, .str (nearD (.tuple ds)).2]) := fun e6 => by
      unfold nearD
      rw [if_pos hb]
      exact e6 b _ (e5 b _ hb')
    refine ite_go (fun hc => ?_) fun hc => ⟨_, rfl, ?_⟩
    · refine el_say (d := lotD (.tuple ds)) rfl (lt ((e3.trans e4).trans e5)) ls H5 (Ex.refl _) _ fun a2 H6 fa2 e6 ha2 => ?_
      refine k _ a2 b H6 (g.e ((x4.trans e5).trans e6)) (.of ((x4.trans e5).trans e6)) (bowl_new (g.bowl.ex (x4.trans e5)) fa2) nb ?_ (near e6)
      unfold dueD
      rw [if_pos hb, if_pos hc]
      exact ha2
    · refine k _ a b H5 (g.e (x4.trans e5)) (.of (x4.trans e5)) na nb ?_ (near (Ex.refl _))
      unfold dueD
      rw [if_pos hb, if_neg (by rw [hc]; decide)]
      exact e5 a _ ha4
  · refine k _ l1 l2 H1 (g.e e1) (.of e1) f1 f2 ?_ ?_
    · unfold dueD
      rw [if_neg (by rw [hb]; decide)]
      exact e1 l1 _ h1
    · unfold nearD
      rw [if_neg (by rw [hb]; decide)]
      exact e1 l2 _ h2
end
/-- != of lists of answers that are alike -/
def Alike (K : PySem.W.Frag) (H : Hp) (x y : V) : Prop := ∃ a b r t, x = .ref a ∧ y = .ref b ∧ SqL K H a [.str r, .str t] ∧ SqL K H b [.str r, .str t]
def rNeS (K : PySem.W.Frag) : R2 := fun x y H Q => ∃ a b xs ys, x = .ref a ∧ y = .ref b ∧ SqL K H a xs ∧ SqL K H b ys ∧ Paired (Alike K H) xs ys ∧ Q (.bl false) H
section
variable {A : Around} {X : Cx} {pins : List (Addr × Obj)} {σ : L2.St} {H : Hp} {s : Shared}
theorem alike_eq (I : Inv X pins σ H s) (hu : A.units < cLine) {x y : V} {v u : Value} (h : Alike X.K H x y) (rx : RelV x v) (ry : RelV y u) : SeqAt.EqAt A s v u true := by
  obtain ⟨a, b, r, t, rfl, rfl, h1, h2⟩ := h
  cases (show v = Value.ref a from rx)
  cases (show u = Value.ref b from ry)
  by_cases e : a = b
  · subst e
    exact SeqAt.EqAt.same _
  obtain ⟨us, w1, p1, _⟩ := I.list h1
  obtain ⟨ws, w2, p2, _⟩ := I.list h2
  cases w1 with
  | cons q1 w1 =>
  cases w1 with
  | cons q2 w1 =>
  cases w1
  cases w2 with
  | cons q3 w2 =>
  cases w2 with
  | cons q4 w2 =>
  cases w2
  obtain ⟨t1, rfl⟩ := q1
  obtain ⟨t2, rfl⟩ := q2
  obtain ⟨t3, rfl⟩ := q3
  obtain ⟨t4, rfl⟩ := q4
  have k := SeqAt.RcAt.lists (A := A) (e := fun _ => true) (plain_is p1) (plain_is p2) rfl hu fun j h1 h2 => by
    match j, h1 with
    | 0, _ =>
      have := SeqAt.EqAt.str_str (A := A.in1) (s := s) r t1 r t3
      rw [beq_self_eq_true] at this
      exact this
    | 1, _ =>
      have := SeqAt.EqAt.str_str (A := A.in1) (s := s) t t2 t t4
      rw [beq_self_eq_true] at this
      exact this
    | n + 2, h => exact absurd h (by simp)
  exact SeqAt.EqAt.of_refs e k
theorem alikes_at (I : Inv X pins σ H s) (hu : A.units < cLine) {xs ys : List V} (hp : Paired (Alike X.K H) xs ys) : ∀ {us ws : List Value}, Vals xs us → Vals ys ws → us.length = ws.length ∧ ∀ j (h1 : j < us.length) (h2 : j < ws.length), SeqAt.EqAt A s us[j] ws[j] true := by
  induction hp with
  | nil =>
    intro us ws r1 r2
    cases r1
    cases r2
    exact ⟨rfl, fun j h => absurd h (Nat.not_lt_zero j)⟩
  | cons h _ ih =>
    intro us ws r1 r2
    cases r1 with
    | cons a1 b1 =>
    cases r2 with
    | cons a2 b2 =>
    obtain ⟨l, k⟩ := ih b1 b2
    refine ⟨congrArg Nat.succ l, fun j h1 h2 => ?_⟩
    match j with
    | 0 => exact alike_eq I hu h a1 a2
    | j + 1 => exact k j (Nat.lt_of_succ_lt_succ h1) (Nat.lt_of_succ_lt_succ h2)
theorem op_neS (hu : X.A.units + 2 < cLine) : OpR X (compareOp .NotEq) (rNeS X.K) := by
  intro pins s σ H x y v u Q I rx ry h
  obtain ⟨a, b, xs, ys, rfl, rfl, h1, h2, hp, q⟩ := h
  cases (show v = Value.ref a from rx)
  cases (show u = Value.ref b from ry)
  obtain ⟨us, w1, p1, _⟩ := I.list h1
  obtain ⟨ws, w2, p2, _⟩ := I.list h2
  obtain ⟨l, k⟩ := alikes_at I (A := X.A.in1) (show X.A.units + 1 < cLine by omega) hp w1 w2
  refine SeqAt.RcNeAt.lists (e := fun _ => true) (plain_is p1) (plain_is p2) (by simpa using l) (by omega) (fun j h1 h2 => ?_) _ _ _ _ ⟨.bl false, H, I, ?_, q⟩
  · have := k j (by simpa using h1) (by simpa using h2)
    simpa using this
  · have every : ((List.range us.toArray.size).all fun _ => true) = true := List.all_eq_true.mpr fun _ _ => rfl
    rw [every]
    rfl
theorem kop_neS {K : PySem.W.Frag} (h : X.K = K) (hu : X.A.units + 2 < cLine) : OpR X (compareOp .NotEq) (rNeS K) := by rw [← h]; exact op_neS hu
theorem kop_eqV {K : PySem.W.Frag} (h : X.K = K) (hu : X.A.units + 64 < cLine) : OpR X (compareOp .Eq) (rEqV K) := by rw [← h]; exact op_eqV hu
end
end K35
set_option maxHeartbeats 4000000
/-! P23c: the four answers in a list -/
namespace K35
open PySem PySem.Spec PyProof.Rows L2 Evl LamX
def tCallZ (m : Nat) (sp : Sp) (E : XK) (tk : TA) : TE := fun σ H Q => tk σ H fun zs H1 => zs.length = m ∧ sp zs H1 Q E
theorem lst1b {te : TE} {σ : L2.St} {H : Hp} {Q : VK} (h : te σ H fun v H1 => [v].length ≤ sizeLine ∧ ∀ p, H1 p = none → Q (.ref p) (upd H1 p (.lst [v]))) : tLst (tCons te tNil) σ H Q := h
section
variable {K : PySem.W.Frag} {σ : L2.St} {H H1 H9 H10 : Hp} {D : Ends} {tz : TS} {p tb L CB CW CT : Addr} {q : Str} {ms xs ys : List V} {t : XK → TE} {r : Str × Str}
theorem tabs_upd {T : List (Addr × Str)} (h : Tabs T H) (hL : H L = some (.lst xs)) : Tabs T (upd H L (.lst ys)) := fun x hx => by
  obtain ⟨ps, h1, h2, h3⟩ := h x hx
  refine ⟨ps, by rw [upd_ne (fun z => by rw [z, hL] at h1; cases h1)]; exact h1, h2, fun pos cv hc => ?_⟩
  obtain ⟨c, e1, e2⟩ := h3 pos cv hc
  refine ⟨c, e1, ?_⟩
  rw [upd_ne (fun z => by
    rw [z, hL] at e2
    unfold CodeO at e2
    cases e2)]
  exact e2
theorem Good.app (g : Good p tb q H H1) (f0 : Exw p H H10) (nL : H10 L = none) (np : L ≠ p) (hL : H1 L = some (.lst xs)) : Good p tb q H (upd H1 L (.lst ys)) := by
  refine ⟨fun a o n m h => ?_, upd_bowl g.bowl np, tabs_upd g.tabs hL⟩
  rw [upd_ne (fun z => by
    have := f0 a o n m h
    rw [z, nL] at this
    cases this)]
  exact g.ex a o n m h
theorem app_go (g : Good p tb q H H1) (f0 : Exw p H H10) (nL : H10 L = none) (np : L ≠ p) (hL : H1 L = some (.lst ms)) (lm : ms.length ≤ 10) (hne : ms ≠ [.str r.1, .str r.2]) (hσ : σ[7]? = some (some (.ref L)))
    (hx : ∀ H2, Good p tb q H H2 → ∀ Q V' : VK, (∀ u H2, vTold CB Q u H2 → V' u H2) → Says r.1 r.2 H2 Q → t (eTold CW CT Q) σ H2 V')
    (k : ∀ m H2, Good p tb q H H2 → H2 L = some (.lst (ms ++ [.ref m])) → m ≠ L → m ≠ p → H2 m = some (.lst [.str r.1, .str r.2]) → (∀ a o, a ≠ p → a ≠ L → (∀ ps, o ≠ .tbl ps) → H1 a = some o → H2 a = some o) → tz D σ H2) :
    tSeq (tDrop (tBM K "list" rAppend (tVar 7) (tCons (tLam [(tb, q)] (TTt CB CW CT) t) tNil))) tz D σ H1 := by
  refine ⟨_, hσ, .inl ⟨rfl, _, sq_of hL⟩, ?_⟩
  refine ⟨g.tabs, fun G1 e1 T1 V' hV => hx G1 (g.n e1 T1) _ V' hV fun m H2 e2 h2 => ?_⟩
  have g2 : Good p tb q H H2 := (g.n e1 T1).e e2
  have x2 : ExtN H1 H2 := e1.trans (.of e2)
  have hL2 : H2 L = some (.lst ms) := x2 L _ hL fun _ z => by cases z
  have mL : m ≠ L := fun z => hne (by
    rw [z, hL2] at h2
    cases h2
    rfl)
  have mp : m ≠ p := fun z => by
    obtain ⟨i, j, l, hp⟩ := g2.bowl
    rw [z, hp] at h2
    cases h2
  refine ⟨L, ms, .ref m, rfl, rfl, hL2, sz_lt (by omega), ?_⟩
  refine k m _ (g2.app f0 nL np hL2) upd_same mL mp (by rw [upd_ne mL]; exact h2) fun a o n1 n2 n3 h => ?_
  rw [upd_ne n2]
  exact x2 a o h n3
theorem first_go (g : Good p tb q H H1) (hx : ∀ H2, Good p tb q H H2 → ∀ Q V' : VK, (∀ u H2, vTold CB Q u H2 → V' u H2) → Says r.1 r.2 H2 Q → t (eTold CW CT Q) σ H2 V')
    (k : ∀ m L H2 H3, Exw p H H2 → H2 L = none → L ≠ p → Good p tb q H H3 → H3 L = some (.lst [.ref m]) → m ≠ L → m ≠ p → H3 m = some (.lst [.str r.1, .str r.2]) → tz D (σ.set 7 (some (.ref L))) H3) :
    tSeq (tAsg (tLst (tCons (tLam [(tb, q)] (TTt CB CW CT) t) tNil)) (gName 7)) tz D σ H1 := by
  refine seq_asg (lst1b ⟨g.tabs, fun G1 e1 T1 V' hV => hx G1 (g.n e1 T1) _ V' hV fun m H2 e2 h2 => ⟨show 1 ≤ sizeLine by decide, fun L nL => ?_⟩⟩)
  have g2 : Good p tb q H H2 := (g.n e1 T1).e e2
  have mp : m ≠ p := fun z => by
    obtain ⟨i, j, l, hp⟩ := g2.bowl
    rw [z, hp] at h2
    cases h2
  exact k m L H2 _ g2.ex nL (bowl_new g2.bowl nL) (g2.e (Ex.new nL)) upd_same (ne_of_none h2 nL) mp (Ex.new nL m _ h2)
theorem gtk_go {σ : L2.St} {H : Hp} {Q V' : VK} {v : V} {d : PyData} {i : Nat} (hv : σ[i]? = some (some v)) (hd : DT p H v d) (hs : Small d) (S : Says (nearD d).1 (nearD d).2 H Q) (hV : ∀ u H2, vTold CB Q u H2 → V' u H2) : tCallZ 1 (spGT CW) (eTold CW CT Q) (tCons (tVar i) tNil) σ H V' :=
  ⟨v, hv, rfl, gt_sp hd hs S hV⟩
theorem ev_neS {ta tb : TE} (h : Ev ta σ H (.ref L)) (hb : EvL tb σ H ys) (hL : H L = some (.lst xs)) (hp : ∀ H1, Ex H H1 → Paired (Alike K H1) xs ys) : Ev (tOp (rNeS K) ta tb) σ H (.bl false) := fun H1 e Q q =>
  h H1 e _ fun H2 e2 => hb H2 (e.trans e2) _ fun c H3 _ e3 h3 => ⟨L, c, xs, ys, rfl, rfl, sq_of (((e.trans e2).trans e3) L _ hL), sq_of h3, hp H3 ((e.trans e2).trans e3), q H3 (e2.trans e3)⟩
/-! ### the last rows -/
def bareD (n m : Int) : PyData := .tuple [.tuple [.str "a", .str "chance", .tuple [.tuple [.str "x", .tuple [.int n, .int m]]]], .tuple [.str "x", .str "end", .tuple [.int 0, .int 1]]]
def three (n m : Int) : Prop := (n = 1 ∧ m = 2) ∨ (n = 1 ∧ m = 3) ∨ (n = 3 ∧ m = 4)
theorem lf1 {a : PyData} (h : Lf a) : Lf (.tuple [a]) := .tup fun d hd => by rw [List.mem_singleton.mp hd]; exact h
theorem lf2 {a b : PyData} (h : Lf a) (k : Lf b) : Lf (.tuple [a, b]) := .tup fun d hd => by
  simp only [List.mem_cons, List.not_mem_nil, or_false] at hd
  rcases hd with rfl | rfl
  · exact h
  · exact k
theorem lf3 {a b c : PyData} (h : Lf a) (k : Lf b) (l : Lf c) : Lf (.tuple [a, b, c]) := .tup fun d hd => by
  simp only [List.mem_cons, List.not_mem_nil, or_false] at hd
  rcases hd with rfl | rfl | rfl
  · exact h
  · exact k
  · exact l
theorem bare_rows {n m : Int} (h : three n m) : isRows (bareD n m) = false := by
  rcases h with ⟨rfl, rfl⟩ | ⟨rfl, rfl⟩ | ⟨rfl, rfl⟩ <;> decide +kernel
theorem bare_small {n m : Int} (h : three n m) : Small (bareD n m) := by
  have s1 : Lf (.str "a") := .str _ (by decide +kernel) (by decide +kernel)
  have s2 : Lf (.str "chance") := .str _ (by decide +kernel) (by decide +kernel)
  have s3 : Lf (.str "x") := .str _ (by decide +kernel) (by decide +kernel)
  have s4 : Lf (.str "end") := .str _ (by decide +kernel) (by decide +kernel)
  refine ⟨lf2 (lf3 s1 s2 (lf1 (lf2 s3 (lf2 (.int _ ?_) (.int _ ?_))))) (lf3 s3 s4 (lf2 (.int _ (by decide)) (.int _ (by decide)))), ?_, ?_⟩ <;> rcases h with ⟨rfl, rfl⟩ | ⟨rfl, rfl⟩ | ⟨rfl, rfl⟩ <;> decide +kernel
theorem bare_due {n m : Int} (h : three n m) : dueD (bareD n m) = (("web" : Str), (bareD n m).shown) := by
  unfold dueD
  rw [bare_rows h]
  rfl
theorem dt1 {a : Addr} {x : V} {e : PyData} (n : a ≠ p) (h : H a = some (.tup [x])) (h1 : DT p H x e) : DT p H (.ref a) (.tuple [e]) := .tup n h (.cons h1 .nil)
theorem dt2 {a : Addr} {x y : V} {e f : PyData} (n : a ≠ p) (h : H a = some (.tup [x, y])) (h1 : DT p H x e) (h2 : DT p H y f) : DT p H (.ref a) (.tuple [e, f]) := .tup n h (.cons h1 (.cons h2 .nil))
theorem dt3 {a : Addr} {x y z : V} {e f g : PyData} (n : a ≠ p) (h : H a = some (.tup [x, y, z])) (h1 : DT p H x e) (h2 : DT p H y f) (h3 : DT p H z g) : DT p H (.ref a) (.tuple [e, f, g]) := .tup n h (.cons h1 (.cons h2 (.cons h3 .nil)))
abbrev tOne : TE := tCall spOne [] C8.E0 (tCons (tVar 0) (tCons (tLst (tCons (tTup (tCons (tC (.int 1)) (tCons (tC (.int 2)) tNil))) (tCons (tTup (tCons (tC (.int 1)) (tCons (tC (.int 3)) tNil))) (tCons (tTup (tCons (tC (.int 3)) (tCons (tC (.int 4)) tNil))) tNil)))) tNil))
theorem one_go {Q : VK} (hσ : σ[0]? = some (some (.ref p))) (g : Good p tb q H9 H) (k : ∀ (b : Addr) (n m : Int) H1, three n m → Good p tb q H9 H1 → H1 b = some (.tup [.int n, .int m]) → Q (.ref b) H1) : tOne σ H Q := by
  refine ⟨_, hσ, sz_of (by simp), fun a1 f1 => ⟨sz_of (by simp), fun a2 f2 => ⟨sz_of (by simp), fun a3 f3 => ⟨sz_of (by simp), fun l fl => ?_⟩⟩⟩⟩
  have e3 := (Ex.new f1 (o := .tup [.int 1, .int 2])).trans ((Ex.new f2 (o := .tup [.int 1, .int 3])).trans (Ex.new f3 (o := .tup [.int 3, .int 4])))
  have h1 := (Ex.new f2 (o := .tup [.int 1, .int 3])).trans (Ex.new f3 (o := .tup [.int 3, .int 4])) a1 _ upd_same
  have h2 := (Ex.new f3 (o := .tup [.int 3, .int 4])) a2 _ upd_same
  have h3 : upd (upd (upd H a1 (.tup [.int 1, .int 2])) a2 (.tup [.int 1, .int 3])) a3 (.tup [.int 3, .int 4]) a3 = some (.tup [.int 3, .int 4]) := upd_same
  have gl := (g.e e3).e (Ex.new fl (o := .lst [.ref a1, .ref a2, .ref a3]))
  have nl : l ≠ p := bowl_new (g.bowl.ex e3) fl
  have np : ∀ {a : Addr} {ys : List V} {o : HO}, upd (upd (upd (upd H a1 (.tup [.int 1, .int 2])) a2 (.tup [.int 1, .int 3])) a3 (.tup [.int 3, .int 4])) l o a = some (.tup ys) → bowlAt p (upd (upd (upd (upd H a1 (.tup [.int 1, .int 2])) a2 (.tup [.int 1, .int 3])) a3 (.tup [.int 3, .int 4])) l o) → a ≠ p := fun h b => tup_ne b h
  refine ⟨p, l, [.ref a1, .ref a2, .ref a3], rfl, nl, upd_same, by simp, by simp, gl.bowl, fun v H2 hv e2 b2 => ?_⟩
  have g2 := gl.b e2 b2
  replace h1 := Ex.new fl (o := .lst [.ref a1, .ref a2, .ref a3]) a1 _ h1
  replace h2 := Ex.new fl (o := .lst [.ref a1, .ref a2, .ref a3]) a2 _ h2
  replace h3 := Ex.new fl (o := .lst [.ref a1, .ref a2, .ref a3]) a3 _ h3
  simp only [List.mem_cons, List.not_mem_nil, or_false] at hv
  rcases hv with rfl | rfl | rfl
  · exact k a1 1 2 H2 (.inl ⟨rfl, rfl⟩) g2 (e2 a1 _ (np h1 gl.bowl) h1)
  · exact k a2 1 3 H2 (.inr (.inl ⟨rfl, rfl⟩)) g2 (e2 a2 _ (np h2 gl.bowl) h2)
  · exact k a3 3 4 H2 (.inr (.inr ⟨rfl, rfl⟩)) g2 (e2 a3 _ (np h3 gl.bowl) h3)
theorem bare_go {Q : VK} (hσ : σ[0]? = some (some (.ref p))) (g : Good p tb q H9 H) (k : ∀ (b : Addr) (n m : Int) H1, three n m → Good p tb q H9 H1 → DT p H1 (.ref b) (bareD n m) → Q (.ref b) H1) :
    tTup (tCons (tTup (tCons (tC (.str "a")) (tCons (tC (.str "chance")) (tCons (tTup (tCons (tTup (tCons (tC (.str "x")) (tCons tOne tNil))) tNil)) tNil)))) (tCons (tTup (tCons (tC (.str "x")) (tCons (tC (.str "end")) (tCons (tTup (tCons (tC (.int 0)) (tCons (tC (.int 1)) tNil))) tNil)))) tNil)) σ H Q := by
  refine one_go hσ g fun b n m H1 h3 g1 hb => ⟨sz_of (by simp), fun a1 f1 => ⟨sz_of (by simp), fun a2 f2 => ⟨sz_of (by simp), fun a3 f3 => ⟨sz_of (by simp), fun a4 f4 => ⟨sz_of (by simp), fun a5 f5 => ⟨sz_of (by simp), fun a6 f6 => ?_⟩⟩⟩⟩⟩⟩
  have n0 : b ≠ p := tup_ne g1.bowl hb
  have nw : ∀ {H' : Hp} {c : Addr}, bowlAt p H' → H' c = none → c ≠ p := fun h f => bowl_new h f
  have e1 := Ex.new f1 (o := .tup [.str "x", .ref b])
  have e2 := Ex.new f2 (o := .tup [.ref a1])
  have e3 := Ex.new f3 (o := .tup [.str "a", .str "chance", .ref a2])
  have e4 := Ex.new f4 (o := .tup [.int 0, .int 1])
  have e5 := Ex.new f5 (o := .tup [.str "x", .str "end", .ref a4])
  have e6 := Ex.new f6 (o := .tup [.ref a3, .ref a5])
  have b1 := g1.bowl.ex e1
  have b2 := b1.ex e2
  have b3 := b2.ex e3
  have b4 := b3.ex e4
  have b5 := b4.ex e5
  have d0 := dt2 n0 hb (.int n) (.int m)
  have d1 := dt2 (nw g1.bowl f1) upd_same (.str "x") (d0.ex e1)
  have d2 := dt1 (nw b1 f2) upd_same (d1.ex e2)
  have d3 := dt3 (nw b2 f3) upd_same (.str "a") (.str "chance") (d2.ex e3)
  have d5 := dt3 (nw b4 f5) upd_same (.str "x") (.str "end") ((dt2 (nw b3 f4) upd_same (.int 0) (.int 1)).ex e5)
  exact k a6 n m _ h3 (g1.e (((((e1.trans e2).trans e3).trans e4).trans e5).trans e6)) (dt2 (nw b5 f6) upd_same ((((d3.ex e4).ex e5)).ex e6) (d5.ex e6))
end
end K35
set_option maxHeartbeats 4000000
/-! P23: lambdas handed to _law_told; _law_right -/
namespace K35
open PySem PySem.Spec PyProof.Rows L2 Evl LamX
/-! ### keywords -/
section
variable {K : PySem.W.Frag} {x qual : Str} {params : Arguments} {body : List Stmt} {scope : Scope} {f : Addr} {fd : FuncData} {ps : List Str}
theorem kb_all (F : FunD K x qual params body scope [] [] f fd) (n : Nat) (ks : List Str)
    (h : ∀ (kV doc pm : Value) (an : Option Addr) (cdv ct : Value) (us ws : List Value), us.length = n → ws.length = ks.length → bindArgs (PySem.W.fnOf x qual params body scope .none kV doc pm an cdv ct) ⟨us, ks.zip ws⟩ = pure (ps.zip (us ++ ws))) :
    KBn K fd ps n ks (fun us ws => us ++ ws) (fun vs zs => vs ++ zs) := by
  obtain ⟨oc, od, dV, kV, doc, pm, an, cdv, ct, osl, rfl, lk, hcd, hD, _⟩ := F.ex
  rcases hD with ⟨_, rfl⟩ | ⟨e, _⟩
  · exact ⟨fun s us ws _ l1 l2 => .of_eq (h kV doc pm an cdv ct us ws l1 l2), fun a b => a.append b⟩
  · exact absurd rfl e
end
section
variable {X : Cx} {CX : CXT} {k : Nat} {f : Addr} {fd : FuncData} {ps ks : List Str} {sp : Sp} {E : XK} {x : Str} {p pos : Pos} {kws : List Keyword} {tk : TA}
theorem pe_callZ (F : FnOk X.prog X.w X.K X.mg X.base CX k f fd ps sp) (hr : Room k X.A) (hg : Gl X x) (hm : X.mg x = some (.ref f)) (hk : PySem.W.keepIn X.K (.ref f) = true) (hb : KBn X.K fd ps 0 ks (fun us ws => us ++ ws) (fun vs zs => vs ++ zs)) (hx : Passes CX X E) (hkw : PK X kws tk)
    (named : (backToKw pos (keywordEach kws X.env)).all (fun q => q.1.isSome) = true := by rfl) (words : (backToKw pos (keywordEach kws X.env)).filterMap (fun q => q.1) = ks := by rfl) (hdb : (x == ("__debug__" : Str)) = false := by decide)
    (hpl : ((backTo pos (starEach [] X.env)).any (·.1) || (backToKw pos (keywordEach kws X.env)).any (·.1.isNone)) = false := by rfl) : PE X (.Call (.Name x p) [] kws pos) (tCallZ ks.length sp E tk) := by
  refine ⟨fun pins s σ H Q I h => wpAny_Call_Name_kw (ld_glob I hg hm ?_ hdb)⟩
  refine PySem.W.callWith_KW0 (h₀ := X.base) I.ok.mod.kin hk named (thn (hkw.run pos pins s σ H _ I h) fun ws s2 hh => ?_) hpl
  obtain ⟨zs, H2, I2, rz, l2, q2⟩ := hh
  rw [words]
  exact ⟨I2.kIn, run_fnN (us := []) (vs := []) F hr hb hx I2 .nil rz rfl l2 q2⟩
theorem pe_or2 {e : Expr} {t1 t2 : TE} (h1 : PE X e t1) (h2 : PE X e t2) : PE X e (fun σ H Q => t1 σ H Q ∨ t2 σ H Q) := ⟨fun pins s σ H Q I h => h.elim (h1.run pins s σ H Q I) (h2.run pins s σ H Q I)⟩
end
/-! ### the lambda that _law_told gets -/
/-- the classes and defs that the lambdas ask for -/
structure LamK (P : Program) (w : World) (K : PySem.W.Frag) (mg : Str → Option Value) (base : Heap) (CB CW CT : Addr) : Prop where
  told : ∃ c1 c2, ToldK P w K mg base CB CW CT c1 c2
  f61 : ∃ g fd, FnP K "_law_told" (topS 61) g fd ∧ mg "_law_told" = some (.ref g)
  mkB : ∃ f fd, Mk K CB f ∧ FunD K "__init__" "Web.__init__" (defArgs inW) (defBody inW) (defScope inW) [] [] f fd ∧ FnOk P w K mg base (L2.CX P w) 7 f fd ["self", "rows"] (spWeb CB CW CT)
  gt : ∃ f fd, FnP K "greatest_trap" (topS 42) f fd ∧ mg "greatest_trap" = some (.ref f) ∧ FnOk P w K mg base (L2.CX P w) 7 f fd ["rows"] (spGT CW)
theorem sc_told : FnScope tN61 ["_law_act"] (defScope (topS 61)) := ⟨rfl, rfl, rfl, by decide +kernel, rfl, by decide +kernel, by decide +kernel⟩
section
variable {X : Cx} {CB CW CT c P : Addr} {params : Arguments} {body : Expr} {scope : Scope} {t : XK → TE} {p lpos pos : Pos}
theorem pe_tl (T : LamK X.prog X.w X.K X.mg X.base CB CW CT) (G : Nm X.K X.mg) (hgs : X.A.guards = some []) (hg : Gl X "_law_told") (TB : TabB X.base X.mg c P) (hcode : X.env.code = .ref c) (hr : Room 10 X.A) (L : LamS X.env.scope scope) (hdef : defaultsOf params X.env = ([], []))
    (hbind : ∀ (qn : Str) (clo : List (Str × Addr)) (m1 m2 m3 : Value), bindArgs (PySem.W.kla_fn "<lambda>" qn params body scope clo m1 m2 m3) ⟨[], []⟩ = pure [])
    (hbody : ∀ (A : Around) (outer : List Env) (s : Shared) (H : Hp) (E : XK) (f c' : Addr), Room 8 (A.deeper (lamEnv X scope s.heap.objs.size f c')) → PE (lamCx X A outer s H E scope f c') body (t E)) :
    PE X (.Call (.Name "_law_told" p) [.Lambda params body scope lpos] [] pos) (tLam [(P, X.env.qual ++ "<lambda>")] (TTt CB CW CT) t) := by
  obtain ⟨c1, c2, TK⟩ := T.told
  obtain ⟨g, fd, F, hm⟩ := T.f61
  have hb := F.bindsN (ps := ["_law_act"]) (fun _ _ _ _ _ _ us hl => match us, hl with | [_], _ => rfl)
  have kp := F.kp
  obtain ⟨oc, od, dV, kV, doc, pm, an, cdv, ct, osl, rfl, lk, hcd, _, _⟩ := F.ex
  exact pe_lamcall (c := c) (P := P) (k := 8) hg hm kp lk hcd hb sc_told rfl (Or.inl rfl) (told_gives TK G hgs (hr.mono (by decide))) TB hcode List.mem_cons_self (fun q hq _ => by rw [List.mem_singleton.mp hq]) hr L hdef hbind hbody
end
/-! ### _law_right -/
abbrev lamQ : Str := (envOfC "_law_right" (defScope (topS 65)) 0 0 .none).qual ++ "<lambda>"
structure FunC (K : PySem.W.Frag) (x : Str) (st : Stmt) (f c : Addr) : Prop where
  ex : ∃ (oc : Value) (od : Option Addr) (kV doc pm : Value) (an : Option Addr) (ct : Value) (osl : Array (Option Value)), K.lookup f = some ⟨oc, od, .func (PySem.W.fnOf x x (defArgs st) (defBody st) (defScope st) .none kV doc pm an (.ref c) ct), osl⟩
  cd : PySem.W.codeIn K (.ref c) x = true
/-- a def's promise where nothing is being told (repr) -/
def RunG (P : Program) (w : World) (K : PySem.W.Frag) (mg : Str → Option Value) (base : Heap) (k : Nat) (f : Addr) (sp : Sp) : Prop := ∀ (A : Around) (outer : List Env) (s : Shared) (H : Hp) (us : List Value) (vs : List V) (Q : VK) (E : XK), Room k A → A.guards = some [] → Env0 P w K mg base A outer s H → Vals vs us → sp vs H Q E →
  codeAny (model P w) A (.call (.ref f) ⟨us, []⟩) (CR C8.CX0 outer P w H s Q E) s
def spRight (P : Addr) (q : Str) : Sp := fun vs H Q _ => ∃ p, vs = [.ref p] ∧ bowlAt p H ∧ Tabs [(P, q)] H ∧ ∀ H2, Good p P q H H2 → Q (.bl true) H2
section
variable {P : Program} {w : World} {K : PySem.W.Frag} {mg : Str → Option Value} {base : Heap} {f c tb CB CW CT : Addr}
theorem sc__law_right : FnScope ["_law_bowl_here", "_law_turn", "_law_table", "_law_again", "_law_due", "_law_near", "_law_lot", "_law_told_here", "_law_bare"] ["_law_bowl_here"] (defScope (topS 65)) :=
  ⟨rfl, rfl, rfl, by decide +kernel, rfl, by decide +kernel, by decide +kernel⟩
theorem r__law_right (F : FunC K "_law_right" (topS 65) f c) (G : Nm K mg) (T : LamK P w K mg base CB CW CT) (TB : TabB base mg c tb)
    (c__law_pull : C8.Cal P w K mg base 1 "_law_pull" spPull []) (c__law_one_of : C8.Cal P w K mg base 2 "_law_one_of" spOne []) (c__law_any_rows : C8.Cal P w K mg base 4 "_law_any_rows" (PrU preAny) []) (c__law_wide : C8.Cal P w K mg base 3 "_law_wide" (PrU preWide) [])
    (c__law_bent : ∀ m, C8.Cal P w K mg base (m + 5) "_law_bent" (PrZ (preBent m)) []) (c__law_are_rows : C8.Cal P w K mg base 4 "_law_are_rows" (PrV (preB isRows)) []) (c__law_trap : C8.Cal P w K mg base 2 "_law_trap" (PrW (preRowsW trapD)) []) (c__law_are_coins : C8.Cal P w K mg base 3 "_law_are_coins" (PrV (preRowsB coinsD)) []) :
    RunG P w K mg base 14 f (spRight tb lamQ) := by
  have nd := sc__law_right.nd
  intro A outer s H us vs Q E hr0 hgs e0 hv h
  obtain ⟨p, rfl, hB, hT, hQ⟩ := h
  obtain ⟨oc, od, kV, doc, pm, an, ct, osl, lk⟩ := F.ex
  obtain ⟨uB, rfl⟩ : ∃ uB, us = [uB] := by
    cases hv with
    | cons a b => cases b; exact ⟨_, rfl⟩
  refine run_ofS (N := ["_law_bowl_here", "_law_turn", "_law_table", "_law_again", "_law_due", "_law_near", "_law_lot", "_law_told_here", "_law_bare"]) (ps := ["_law_bowl_here"]) (us := [uB]) lk F.cd sc__law_right hr0 e0 (.of_eq rfl) hv rfl fun hr => ?_
  obtain ⟨fB, fdB, MB, DB, OB⟩ := T.mkB
  obtain ⟨fG, fdG, DG, mG, OG⟩ := T.gt
  obtain ⟨c1, c2, TK⟩ := T.told
  have gB := TK.gB
  have bnB := DB.bindsN (ps := ["self", "rows"]) (fun _ _ _ _ _ _ us hl => match us, hl with | [_, _], _ => rfl)
  have kbB := kb_all (ps := ["self", "rows"]) DB 1 ["rows"] (fun _ _ _ _ _ _ us ws h1 h2 => match us, ws, h1, h2 with | [_], [_], _, _ => rfl)
  have bnG := DG.bindsN (ps := ["rows"]) (fun _ _ _ _ _ _ us hl => match us, hl with | [_], _ => rfl)
  have kbG := kb_all (ps := ["rows"]) DG 0 ["rows"] (fun _ _ _ _ _ _ us ws h1 h2 => match us, ws, h1, h2 with | [], [_], _, _ => rfl)
  have yg : (A.deeper (envOfC "_law_right" (defScope (topS 65)) s.heap.objs.size f (.ref c))).guards = some [] := hgs
  have yu : (A.deeper (envOfC "_law_right" (defScope (topS 65)) s.heap.objs.size f (.ref c))).units + 100 < cLine := by have := hr.un; omega
  have y2 : (A.deeper (envOfC "_law_right" (defScope (topS 65)) s.heap.objs.size f (.ref c))).units + 2 < cLine := by omega
  have y64 : (A.deeper (envOfC "_law_right" (defScope (topS 65)) s.heap.objs.size f (.ref c))).units + 64 < cLine := by omega
  suffices hh : ∃ t, PSs (cxOf C8.CX0 P w K mg base ["_law_bowl_here", "_law_turn", "_law_table", "_law_again", "_law_due", "_law_near", "_law_lot", "_law_told_here", "_law_bare"] "_law_right" (defScope (topS 65)) f (.ref c) A outer s H E).nox (defBody (topS 65)) t ∧ t { nx := fun _ H' => Q .non H', rt := Q } (L2.start ["_law_bowl_here", "_law_turn", "_law_table", "_law_again", "_law_due", "_law_near", "_law_lot", "_law_told_here", "_law_bare"] [V.ref p]) H from
    let ⟨t, h1, h2⟩ := hh
    ⟨t, h1.nox, h2⟩
  refine ⟨_, (pss_cons (ps_for PassesOwn.never rfl (pi_range1 (by rfl) G.n_range (pa_cons pe_int pa_nil)) (pg_name (i := 1) nd rfl (Or.inl rfl)) (pss_cons (ps_set (i := 2) nd rfl (Or.inr rfl) (C8.pe_c c__law_any_rows hr (by decide) rfl (pa_cons (pv 0) (pa_cons (pe_lst (pa_cons pe_str (pa_cons pe_str (pa_cons pe_str (pa_cons pe_str (pa_cons pe_str pa_nil)))))) pa_nil))))
  (pss_cons (ps_for PassesOwn.never rfl (pi_range1 (by rfl) G.n_range (pa_cons (C8.pe_c c__law_pull hr (by decide) rfl (pa_cons (pv 0) (pa_cons pe_int pa_nil))) pa_nil)) (pg_name (i := 3) nd rfl (Or.inl rfl)) (pss_one (ps_set (i := 2) nd rfl (Or.inr rfl) (pe_or2 (C8.pe_c (c__law_bent 5) hr (by decide) rfl (pa_cons (pv 0) (pa_cons (pv 2) pa_nil))) (C8.pe_c (c__law_bent 8) hr (by decide) rfl (pa_cons (pv 0) (pa_cons (pv 2) pa_nil)))))))
  (pss_cons (ps_set (i := 2) nd rfl (Or.inr rfl) (pe_ifExp (pt_cmpR op_eq (C8.pe_c c__law_pull hr (by decide) rfl (pa_cons (pv 0) (pa_cons pe_int pa_nil))) pe_int (nomark _)) (C8.pe_c c__law_wide hr (by decide) rfl (pa_cons (pv 0) pa_nil)) (pv 2)))
  (pss_cons (ps_par (i := 4) (j := 5) (by rfl) nd rfl rfl (by decide) rfl rfl (pa_cons (pe_lst (pa_cons pe_str (pa_cons (pe_callB (call_reprD yg yu) (by rfl) G.n_repr PyProof.Rows.boot_repr (pa_cons (pv 2) pa_nil)) pa_nil))) (pa_cons (pe_lst (pa_cons pe_str (pa_cons (pe_callB (call_reprD yg yu) (by rfl) G.n_repr PyProof.Rows.boot_repr (pa_cons (pv 2) pa_nil)) pa_nil))) pa_nil)) (by rfl))
  (pss_cons (ps_if (pt_val (C8.pe_c c__law_are_rows hr (by decide) rfl (pa_cons (pv 2) pa_nil))) (pss_cons (ps_set (i := 6) nd rfl (Or.inl rfl) (C8.pe_c c__law_trap hr (by decide) rfl (pa_cons (pv 2) pa_nil)))
  (pss_cons (ps_par (i := 4) (j := 5) (by rfl) nd rfl rfl (by decide) rfl rfl (pa_cons (pe_lst (pa_cons pe_str (pa_cons (pe_callB (call_reprD yg yu) (by rfl) G.n_repr PyProof.Rows.boot_repr (pa_cons (pv 2) pa_nil)) pa_nil))) (pa_cons (pe_lst (pa_cons pe_str (pa_cons (pe_callB (call_reprD yg yu) (by rfl) G.n_repr PyProof.Rows.boot_repr (pa_cons (pv 6) pa_nil)) pa_nil))) pa_nil)) (by rfl))
  (pss_one (ps_set (i := 4) nd rfl (Or.inl rfl) (pe_ifExp (PW.pt (pw_and (pt_cmpR (kop_neE (K := K) rfl (u0 hr)) (pv 6) (pe_tup pa_nil) (nomark _)) (pw_and1 (pt_not (pt_val (C8.pe_c c__law_are_coins hr (by decide) rfl (pa_cons (pv 2) pa_nil))))))) (pe_lst (pa_cons pe_str (pa_cons (pe_callB (call_reprD yg yu) (by rfl) G.n_repr PyProof.Rows.boot_repr (pa_cons (pv 6) pa_nil)) pa_nil))) (pv 4)))))) pss_nil)
  (pss_cons (ps_set (i := 7) nd rfl (Or.inl rfl) (pe_lst (pa_cons (pe_tl T G yg rfl TB rfl (hr.mono (by decide)) (lamS_by (by rfl)) rfl (fun _ _ _ _ _ => rfl) (fun A outer s H E f' c' hr8 => (pe_make MB OB hr8 rfl gB bnB .nil (passes_call (takes_of rfl rfl rfl rfl) (fun _ _ _ _ h => h)) (pa_cons (pv 2) pa_nil)))) pa_nil)))
  (pss_cons (ps_expr (pe_bm PySem.F.plainAttrs_list PySem.F.slot_list_append PySem.F.type_list_append mt_append (pv 7) (pa_cons (pe_tl T G yg rfl TB rfl (hr.mono (by decide)) (lamS_by (by rfl)) rfl (fun _ _ _ _ _ => rfl) (fun A outer s H E f' c' hr8 => (pe_makeK0 MB OB hr8 rfl gB kbB (passes_call (takes_of rfl rfl rfl rfl) (fun _ _ _ _ h => h)) (pk_cons (pv 2) pk_nil)))) pa_nil)))
  (pss_cons (ps_expr (pe_bm PySem.F.plainAttrs_list PySem.F.slot_list_append PySem.F.type_list_append mt_append (pv 7) (pa_cons (pe_tl T G yg rfl TB rfl (hr.mono (by decide)) (lamS_by (by rfl)) rfl (fun _ _ _ _ _ => rfl) (fun A outer s H E f' c' hr8 => (pe_call OG (hr8.mono (by decide)) rfl mG DG.kp bnG .nil (passes_call (takes_of rfl rfl rfl rfl) (fun _ _ _ _ h => h)) (pa_cons (pv 2) pa_nil)))) pa_nil)))
  (pss_cons (ps_expr (pe_bm PySem.F.plainAttrs_list PySem.F.slot_list_append PySem.F.type_list_append mt_append (pv 7) (pa_cons (pe_tl T G yg rfl TB rfl (hr.mono (by decide)) (lamS_by (by rfl)) rfl (fun _ _ _ _ _ => rfl) (fun A outer s H E f' c' hr8 => (pe_callZ OG (hr8.mono (by decide)) rfl mG DG.kp kbG (passes_call (takes_of rfl rfl rfl rfl) (fun _ _ _ _ h => h)) (pk_cons (pv 2) pk_nil)))) pa_nil)))
  (pss_one (ps_if (pt_cmpR (kop_neS (K := K) rfl y2) (pv 7) (pe_lst (pa_cons (pv 4) (pa_cons (pv 4) (pa_cons (pv 5) (pa_cons (pv 5) pa_nil))))) (nomark _)) (pss_one (ps_ret pe_bl)) pss_nil))))))))))))
  (pss_cons (ps_set (i := 8) nd rfl (Or.inr rfl) (pe_tup (pa_cons (pe_tup (pa_cons pe_str (pa_cons pe_str (pa_cons (pe_tup (pa_cons (pe_tup (pa_cons pe_str (pa_cons (C8.pe_c c__law_one_of hr (by decide) rfl (pa_cons (pv 0) (pa_cons (pe_lst (pa_cons (pe_tup (pa_cons pe_int (pa_cons pe_int pa_nil))) (pa_cons (pe_tup (pa_cons pe_int (pa_cons pe_int pa_nil))) (pa_cons (pe_tup (pa_cons pe_int (pa_cons pe_int pa_nil))) pa_nil)))) pa_nil))) pa_nil))) pa_nil)) pa_nil)))) (pa_cons (pe_tup (pa_cons pe_str (pa_cons pe_str (pa_cons (pe_tup (pa_cons pe_int (pa_cons pe_int pa_nil))) pa_nil)))) pa_nil))))
  (pss_one (ps_ret (pe_cmpR (kop_eqV (K := K) rfl y64) (pe_tl T G yg rfl TB rfl (hr.mono (by decide)) (lamS_by (by rfl)) rfl (fun _ _ _ _ _ => rfl) (fun A outer s H E f' c' hr8 => (pe_make MB OB hr8 rfl gB bnB .nil (passes_call (takes_of rfl rfl rfl rfl) (fun _ _ _ _ h => h)) (pa_cons (pv 8) pa_nil)))) (pe_lst (pa_cons pe_str (pa_cons (pe_callB (call_reprD yg yu) (by rfl) G.n_repr PyProof.Rows.boot_repr (pa_cons (pv 8) pa_nil)) pa_nil))) (nomark _)))))), ?_⟩
  have small : ∀ {d : PyData} {n k : Nat}, Lf d → szD d ≤ n → d.depth ≤ k → n ≤ 200000 → k ≤ 40 → Small d := fun a b c e f => ⟨a, by omega, by omega⟩
  let nn : Nat → Nat := fun j => if j = 0 then 10200 else if j = 1 then 20800 else 42000
  refine ⟨4, rfl, by decide, by decide, ?_⟩
  refine for_range (lo := 0) (n := 4) (fun i σ' H' => ∃ c1 c2 c3 c4 c5 c6 c7, σ' = [some (.ref p), c1, c2, c3, c4, c5, c6, c7, none] ∧ Good p tb lamQ H H') ⟨none, none, none, none, none, none, none, rfl, Exw.refl, hB, hT⟩ ?_ ?_
  · rintro i σ' H' hi ⟨c1, c2, c3, c4, c5, c6, c7, rfl, g⟩
    -- any rows
    refine seq_asg ?_
    refine ⟨_, rfl, cons_L (xs := (["chance", "ours", "theirs", "coin", "coin"] : List Str).map V.str) (el_lst (ea_cons ev_c (ea_cons ev_c (ea_cons ev_c (ea_cons ev_c (ea_cons ev_c ea_nil))))) (show 5 ≤ 100000 by decide)) fun b H1 fb e1 hb => ?_⟩
    have nbp : b ≠ p := bowl_new g.bowl fb
    refine ⟨p, 10200, 5, ⟨b, _, rfl, nbp, ⟨hb, ?_⟩, by decide, by decide, rfl, rfl⟩, g.bowl.ex e1, fun v H2 e2 b2 z => ?_⟩
    · intro z hz
      have : ((["chance", "ours", "theirs", "coin", "coin"] : List Str).all fun z => decide (z.length ≤ 6) && (z.cps.toList.all fun c => decide (c < 16 ^ 8))) = true := by decide +kernel
      have q := List.all_eq_true.mp this z hz
      rw [Bool.and_eq_true] at q
      exact ⟨of_decide_eq_true q.1, q.2⟩
    replace g := (g.e e1).b e2 b2
    replace z := z.z g.bowl
    -- bent
    refine (go_pull (ev_var rfl) ev_c (by decide) (by decide)) g.bowl _ fun v1 H3 e3 b3 ⟨r, er, r0, r1⟩ => ?_
    subst er
    replace z := z.mono e3
    replace g := g.b e3 b3
    refine ⟨r, rfl, by omega, by omega, ?_⟩
    refine for_range (lo := 0) (n := r.toNat) (fun j σ'' H'' => ∃ c1 c3 v, σ'' = [some (.ref p), c1, some v, c3, c4, c5, c6, c7, none] ∧ Good p tb lamQ H H'' ∧ Dz (nn j) (5 + 3 * j) p H'' v) ⟨_, c3, v, rfl, g, z⟩ ?_ ?_
    · rintro j σ'' H'' hj ⟨c1, c3, v, rfl, g, d, hd, hl, hs, hk⟩
      have : j = 0 ∨ j = 1 := by omega
      rcases this with rfl | rfl
      · exact .inl ⟨_, rfl, _, rfl, p, _, _, ⟨v, d, 10200, rfl, hd, hl, hs, by decide, hk, rfl, rfl⟩, g.bowl, fun v H4 e4 b4 z => ⟨_, _, v, rfl, g.b e4 b4, z.le (by decide) (by decide)⟩⟩
      · exact .inr ⟨_, rfl, _, rfl, p, _, _, ⟨v, d, 20800, rfl, hd, hl, hs, by decide, hk, rfl, rfl⟩, g.bowl, fun v H4 e4 b4 z => ⟨_, _, v, rfl, g.b e4 b4, z.le (by decide) (by decide)⟩⟩
    rintro σ'' H4 ⟨c1', c3', v4, rfl, g, z⟩
    replace z : Dz 42000 11 p H4 v4 := z.le (by show (if r.toNat = 0 then 10200 else if r.toNat = 1 then 20800 else 42000) ≤ 42000; split; decide; split <;> decide) (by omega)
    -- wide
    dsimp only
    refine seq_asg ?_
    refine (go_pull (ev_var rfl) ev_c (by decide) (by decide)) g.bowl _ fun v2 H5 e5 b5 ⟨r2, er, _, _⟩ => ?_
    subst er
    replace z := z.mono e5
    replace g := g.b e5 b5
    refine ⟨rfl, _, rfl, wide_go rfl rfl g z fun v H6 g z => ?_⟩
    obtain ⟨d, hd, hl, hs, hk⟩ := z
    have sm : Small d := small hl hs hk (by decide) (by decide)
    show tSeq (tPar 4 5 _) _ _ _ _
    refine par_go (cons_L (el_say rfl hd sm) fun l1 H7 f1 e7 h1 => cons_L (el_say rfl (hd.ex e7) sm) fun l2 H8 f2 e8 h2 => ⟨_, _, rfl, ?_⟩)
    have n1 : l1 ≠ p := bowl_new g.bowl f1
    have n2 : l2 ≠ p := bowl_new (g.bowl.ex e7) f2
    replace g := (g.e e7).e e8
    replace hd := (hd.ex e7).ex e8
    replace h1 := e8 l1 _ h1
    refine due_go g hd hl sm n1 n2 h1 h2 fun c6 a b H9 g x9 na nb ha hb => ?_
    replace hd := hd.w x9
    have gb : Good p tb lamQ H9 H9 := ⟨Exw.refl, g.bowl, g.tabs⟩
    have hx1 : ∀ H2, Good p tb lamQ H9 H2 → DT p H2 v d := fun H2 g2 => hd.w g2.ex
    refine first_go (r := dueD d) (q := lamQ) gb (fun H2 g2 Q V' hV S => web_go rfl (hx1 H2 g2) sm S hV) fun m1 L H10 H11 f0 nL npL g11 hL hmL1 hmp1 hm1 => ?_
    refine app_go (r := dueD d) (q := lamQ) g11 f0 nL npL hL (by simp) (by simp) rfl (fun H2 g2 Q V' hV S => webk_go rfl (hx1 H2 g2) sm S hV) fun m2 H12 g12 hL2 hmL2 hmp2 hm2 st => ?_
    replace hm1 := st m1 _ hmp1 hmL1 (fun _ z => by cases z) hm1
    refine app_go (r := nearD d) (q := lamQ) g12 f0 nL npL hL2 (by simp) (by simp) rfl (fun H2 g2 Q V' hV S => gt_go rfl (hx1 H2 g2) sm S hV) fun m3 H13 g13 hL3 hmL3 hmp3 hm3 st => ?_
    replace hm1 := st m1 _ hmp1 hmL1 (fun _ z => by cases z) hm1
    replace hm2 := st m2 _ hmp2 hmL2 (fun _ z => by cases z) hm2
    refine app_go (r := nearD d) (q := lamQ) g13 f0 nL npL hL3 (by simp) (by simp) rfl (fun H2 g2 Q V' hV S => gtk_go rfl (hx1 H2 g2) sm S hV) fun m4 H14 g14 hL4 hmL4 hmp4 hm4 st => ?_
    replace hm1 := st m1 _ hmp1 hmL1 (fun _ z => by cases z) hm1
    replace hm2 := st m2 _ hmp2 hmL2 (fun _ z => by cases z) hm2
    replace hm3 := st m3 _ hmp3 hmL3 (fun _ z => by cases z) hm3
    have ha4 := g14.ex a _ na (fun _ z => by cases z) ha
    have hb4 := g14.ex b _ nb (fun _ z => by cases z) hb
    have al : ∀ {x y : Addr} {r : Str × Str} {H1 : Hp}, Ex H14 H1 → H14 x = some (.lst [.str r.1, .str r.2]) → H14 y = some (.lst [.str r.1, .str r.2]) → Alike K H1 (.ref x) (.ref y) := fun e h1 h2 => ⟨_, _, _, _, rfl, rfl, sq_of (e _ _ h1), sq_of (e _ _ h2)⟩
    refine s_when (b := false) (et_test (ev_neS (ys := [.ref a, .ref a, .ref b, .ref b]) (ev_var rfl) (el_lst (ea_cons (ev_var rfl) (ea_cons (ev_var rfl) (ea_cons (ev_var rfl) (ea_cons (ev_var rfl) ea_nil)))) (by simp)) hL4 fun H1 e1 => .cons (al e1 hm1 ha4) (.cons (al e1 hm2 ha4) (.cons (al e1 hm3 hb4) (.cons (al e1 hm4 hb4) .nil))))) (fun z => Bool.noConfusion z) fun _ H15 e15 => ?_
    exact ⟨_, _, _, _, _, _, _, rfl, (⟨g.ex.trans g14.ex, g14.bowl, g14.tabs⟩ : Good p tb lamQ H H14).e e15⟩
  · rintro σ' H' ⟨c1, c2, c3, c4, c5, c6, c7, rfl, g⟩
    dsimp only
    refine seq_asg (bare_go rfl g fun b n m H1 h3 g1 hd => ?_)
    have sm := bare_small h3
    have bd := bare_due h3
    show tRet (tOp (rEqV K) (tLam [(tb, lamQ)] (TTt CB CW CT) fun E => tMake CB (spWeb CB CW CT) [] E (tCons (tVar 8) tNil)) (tSay "web" 8)) _ [some (.ref p), c1, c2, c3, c4, c5, c6, c7, some (.ref b)] H1
    have gb : Good p tb lamQ H1 H1 := ⟨Exw.refl, g1.bowl, g1.tabs⟩
    refine tl_go (r := dueD (bareD n m)) g1.tabs (fun H2 e2 V' hV S => web_go rfl (hd.w (.ofN e2)) sm S hV) fun l H2 e2 t2 hl => ?_
    have g2 := g1.n e2 t2
    rw [bd] at hl
    refine el_say (σ := [some (.ref p), c1, c2, c3, c4, c5, c6, c7, some (.ref b)]) (i := 8) rfl (hd.w (.ofN e2)) sm H2 (Ex.refl _) _ fun c' H3 _ e3 hc => ?_
    exact ⟨1, by decide, .inl ⟨l, c', _, _, rfl, rfl, sq_of (e3 l _ hl), sq_of hc, .cons (.inl ⟨rfl, rfl⟩) (.cons (.inl ⟨rfl, rfl⟩) .nil)⟩, hQ H3 (g2.e e3)⟩
end
end K35
set_option maxHeartbeats 4000000
/-! P24: law -/
namespace K35
open PySem PySem.Spec PyProof.Rows L2 Evl LamX
def tCallG (sp : Sp) (t : TA) : TE := fun σ H Q => t σ H fun vs H1 => sp vs H1 Q C8.E0
section
variable {X : Cx} {k : Nat} {f : Addr} {sp : Sp} {x : Str} {p pos : Pos} {e : Expr} {es : List Expr} {t : TA}
theorem pe_callG (F : RunG X.prog X.w X.K X.mg X.base k f sp) (hgs : X.A.guards = some []) (hr : Room k X.A) (hg : Gl X x) (hm : X.mg x = some (.ref f)) (hk : PySem.W.keepIn X.K (.ref f) = true) (ha : PA X (e :: es) t) (hdb : (x == ("__debug__" : Str)) = false := by decide)
    (he : starEach (e :: es) X.env = (false, eval e X.env) :: starEach es X.env := by rfl) (hpl : (backTo pos (starEach es X.env)).any (·.1) = false := by rfl) : PE X (.Call (.Name x p) (e :: es) [] pos) (tCallG sp t) := by
  refine ⟨fun pins s σ H Q I h => wpAny_Call_Name_kw (ld_glob I hg hm ?_ hdb)⟩
  refine PySem.W.callWith_K (h₀ := X.base) I.ok.mod.kin hk (thn (ha.run pos pins s σ H _ I h) fun us s1 hh => ?_) he hpl
  obtain ⟨vs, H1, J, r, q⟩ := hh
  refine ⟨J.kIn, wpAny_call (codeAny_mono (F X.A X.stack s1 H1 us vs Q C8.E0 hr hgs J.env0 r q) fun res s2 hq => ?_)⟩
  cases res with
  | error x => exact (show False from hq).elim
  | ok fl =>
    cases fl with
    | ret u => exact J.after hq
    | next => exact False.elim hq
    | brk => exact False.elim hq
    | cont => exact False.elim hq
end
def spLaw (K : PySem.W.Frag) (tb : Addr) : Sp := fun vs H Q _ => ∃ (a : Addr) (ns : List Int), vs = [.ref a] ∧ SqL K H a (ns.map V.int) ∧ ns.length ≤ 10000 ∧ Tabs [(tb, lamQ)] H ∧ ∀ H2, Q (.bl true) H2
section
variable {P : Program} {w : World} {K : PySem.W.Frag} {mg : Str → Option Value} {base : Heap} {f g c tb : Addr}
theorem sql_n {H H2 : Hp} {a : Addr} {xs : List V} (h : SqL K H a xs) (e : ExtN H H2) : SqL K H2 a xs := by
  rcases h with (h | ⟨o, h⟩) | h
  · exact .inl (.inl (e a _ h fun _ z => by cases z))
  · exact .inl (.inr ⟨o, e a _ h fun _ z => by cases z⟩)
  · exact .inr h
theorem seq_rng {te : TE} {g : TG} {tb tz : TS} {D : Ends} {σ : L2.St} {H : Hp} {j : Int} (h : Ev te σ H (.int j)) (h1 : -1000 ≤ j) (h2 : j ≤ 1000) (Pv : Nat → L2.St → Hp → Prop) (h0 : ∀ H1, Ex H H1 → Pv 0 σ H1)
    (hs : ∀ i σ' H', i < j.toNat → Pv i σ' H' → g (.int (0 + i)) σ' H' fun σ2 H2 => tb { D with nx := Pv (i + 1), ct := Pv (i + 1), bk := tz D } σ2 H2) (hd : ∀ σ' H', Pv j.toNat σ' H' → tz D σ' H') : tSeq (tFor (iRng1 (tCons te tNil)) g tb) tz D σ H :=
  h H (Ex.refl H) _ fun H1 e1 => ⟨j, rfl, by omega, by omega, for_range (lo := 0) (D := { D with nx := tz D }) Pv (h0 H1 e1) hs hd⟩
theorem ev_max2 {σ : L2.St} {H : Hp} {ta tb : TE} {i j : Int} (ha : Ev ta σ H (.int i)) (hb : Ev tb σ H (.int j)) : Ev (tCB (fun xs H Q => ∃ i j, xs = [.int i, .int j] ∧ Q (.int (if j > i then j else i)) H) (tCons ta (tCons tb tNil))) σ H (.int (if j > i then j else i)) := fun H1 e Q q =>
  ha H1 e _ fun H2 e2 => hb H2 (e.trans e2) _ fun H3 e3 => ⟨i, j, rfl, q H3 (e2.trans e3)⟩
theorem sc_law : FnScope ["_law_cells", "_law_k"] ["_law_cells"] (defScope (topS 66)) :=
  ⟨rfl, rfl, rfl, by decide +kernel, rfl, by decide +kernel, by decide +kernel⟩
theorem r_law {fd : FuncData} (F : FnP K "law" (topS 66) f fd) (G : Nm K mg) (R : RunG P w K mg base 14 g (spRight tb lamQ)) (mR : mg "_law_right" = some (.ref g)) (kR : PySem.W.keepIn K (.ref g) = true)
    (c__law_bowl : C8.Cal P w K mg base 1 "_law_bowl" (spBowl K) []) : RunG P w K mg base 15 f (spLaw K tb) := by
  have nd := sc_law.nd
  intro A outer s H us vs Q E hr0 hgs e0 hv h
  obtain ⟨a, ns, rfl, ha, hn, hT, hQ⟩ := h
  obtain ⟨oc, od, dV, kV, doc, pm, an, cdv, ct, osl, rfl, lk, hcd, hD, _⟩ := F.ex
  obtain rfl : dV = .none := by
    rcases hD with ⟨_, e⟩ | ⟨e, _⟩
    · exact e
    · exact absurd rfl e
  obtain ⟨uB, rfl⟩ : ∃ uB, us = [uB] := by
    cases hv with
    | cons a b => cases b; exact ⟨_, rfl⟩
  refine run_ofS (N := ["_law_cells", "_law_k"]) (ps := ["_law_cells"]) (us := [uB]) lk hcd sc_law hr0 e0 (.of_eq rfl) hv rfl fun hr => ?_
  suffices hh : ∃ t, PSs (cxOf C8.CX0 P w K mg base ["_law_cells", "_law_k"] "law" (defScope (topS 66)) f cdv A outer s H E).nox (defBody (topS 66)) t ∧ t { nx := fun _ H' => Q .non H', rt := Q } (L2.start ["_law_cells", "_law_k"] [V.ref a]) H from
    let ⟨t, h1, h2⟩ := hh
    ⟨t, h1.nox, h2⟩
  have yg : (A.deeper (envOfC "law" (defScope (topS 66)) s.heap.objs.size f cdv)).guards = some [] := hgs
  refine ⟨_, (pss_cons (ps_for PassesOwn.never rfl (pi_range1 (by rfl) G.n_range (pa_cons (pe_callB (call_max2 rfl) (by rfl) G.n_max PyProof.Rows.boot_max (pa_cons pe_int (pa_cons (pe_callB (call_min2 rfl) (by rfl) G.n_min PyProof.Rows.boot_min (pa_cons (pe_callB (kcall_len (K := K) rfl) (by rfl) G.n_len PySem.boot_len (pa_cons (pv 0) pa_nil)) (pa_cons pe_int pa_nil))) pa_nil))) pa_nil)) (pg_name (i := 1) nd rfl (Or.inl rfl)) (pss_one (ps_if (pt_not (pt_val (pe_callG R yg hr rfl mR kR (pa_cons (C8.pe_c c__law_bowl hr (by decide) rfl (pa_cons (pv 0) (pa_cons (pv 1) pa_nil))) pa_nil)))) (pss_one (ps_ret pe_bl)) pss_nil)))
  (pss_one (ps_ret pe_bl))), ?_⟩
  show tSeq _ _ _ [some (V.ref a), none] H
  generalize hm : (if (if (3 : Int) < (ns.length : Int) then 3 else (ns.length : Int)) > 2 then (if (3 : Int) < (ns.length : Int) then 3 else (ns.length : Int)) else 2) = m
  have m3 : 2 ≤ m ∧ m ≤ 3 := by
    rw [← hm]
    split <;> split <;> omega
  refine seq_rng (ev_is (ev_max2 ev_c (ev_min2 (ev_is (ev_lenL (ev_var (i := 0) (σ := [some (.ref a), none]) rfl) ha) (by rw [List.length_map])) ev_c)) (by rw [hm])) (by omega) (by omega) (fun i σ' H' => ∃ c1, σ' = [some (.ref a), c1] ∧ ExtN H H' ∧ Tabs [(tb, lamQ)] H') (fun H1 e1 => ⟨none, rfl, .of e1, hT.ext e1⟩) ?_ ?_
  · rintro i σ' H' hi ⟨c1, rfl, ex, tt⟩
    refine ⟨_, rfl, _, rfl, a, ns, (0 : Int) + i, rfl, sql_n ha ex, hn, by omega, by omega, fun q H2 x y z nq e2 h2 => ?_⟩
    refine ⟨q, rfl, ⟨x, y, z, h2⟩, tt.ext e2, fun H3 g3 => ?_⟩
    refine ⟨true, rfl, ?_⟩
    refine ⟨_, rfl, fun b o h n => ?_, g3.tabs⟩
    have h' := ex b o h n
    exact g3.ex b o (ne_of_none h' nq) n (e2 b o h')
  · rintro σ' H' ⟨c1, rfl, _, _⟩
    exact hQ _
end
end K35
set_option maxHeartbeats 0
/-! P25: what the head is asked for -/
namespace K35
open PySem PySem.Spec PyProof.Rows L2 Evl LamX

def names0 : List PySem.Str := ["_wall", "WrongValue", "WrongName", "NoAnswer", "InvalidWeb", "InvalidText", "UnknownPlace", "Trapped", "ZERO", "ONE", "is_between", "is_one_of", "common", "lowest", "is_fraction", "add", "total", "is_chance", "written", "number_in", "is_digits", "MOST_PLACES", "MOST_ARROWS", "SMALL", "SIGNS", "KINDS", "is_place", "are_places", "are_pairs", "is_what"]
def names1 : List PySem.Str := ["arrows_of", "are_triples", "are_rows", "trap_in", "are_coin_rows", "text_of", "pair_in", "row_in", "Web", "greatest_trap", "_law_bowl", "_law_pull", "_law_one_of", "_law_low", "_law_plus", "_law_number", "_law_tos", "_law_inner", "_law_any_rows", "_law_trap", "_law_led", "_law_is_int", "_law_is_fraction", "_law_are_names", "_law_is_what", "_law_are_rows", "_law_are_coins", "_law_told", "_law_odd", "_law_bent"]
def names2 : List PySem.Str := ["_law_wide", "_law_right"]
def namesA : List PySem.Str := names0 ++ names1 ++ names2
def dD (x : Str) (i : Nat) : He.DefD := ⟨(x, none), x, x, defArgs (topS i), defBody (topS i), defScope (topS i), [], []⟩
def dWeb : He.DefD := ⟨("Web", some "__init__"), "__init__", "Web.__init__", defArgs inW, defBody inW, defScope inW, [], []⟩
def fn : List He.DefD := [dD "is_between" 12, dD "is_one_of" 13, dD "common" 14, dD "lowest" 15, dD "is_fraction" 16, dD "add" 17, dD "total" 18, dD "is_chance" 19, dD "is_place" 29, dD "are_places" 30, dD "are_pairs" 31, dD "is_what" 32, dD "arrows_of" 33, dD "are_triples" 34, dD "are_rows" 35, dD "trap_in" 36, dD "are_coin_rows" 37, dD "greatest_trap" 42, dD "_law_bowl" 44, dD "_law_pull" 45, dD "_law_one_of" 46, dD "_law_low" 47, dD "_law_plus" 48, dD "_law_number" 49, dD "_law_tos" 50, dD "_law_inner" 51, dD "_law_any_rows" 52, dD "_law_trap" 53, dD "_law_led" 54, dD "_law_is_int" 55, dD "_law_is_fraction" 56, dD "_law_are_names" 57, dD "_law_is_what" 58, dD "_law_are_rows" 59, dD "_law_are_coins" 60, dD "_law_told" 61, dD "_law_odd" 62, dD "_law_bent" 63, dD "_law_wide" 64, dD "_law_right" 65, dD "law" 66, dWeb]
def fa : List He.Fa := [.glo "is_between", .glo "is_one_of", .glo "common", .glo "lowest", .glo "is_fraction", .glo "add", .glo "total", .glo "is_chance", .glo "is_place", .glo "are_places", .glo "are_pairs", .glo "is_what", .glo "arrows_of", .glo "are_triples", .glo "are_rows", .glo "trap_in", .glo "are_coin_rows", .glo "greatest_trap", .glo "_law_bowl", .glo "_law_pull", .glo "_law_one_of", .glo "_law_low", .glo "_law_plus", .glo "_law_number", .glo "_law_tos", .glo "_law_inner", .glo "_law_any_rows", .glo "_law_trap", .glo "_law_led", .glo "_law_is_int", .glo "_law_is_fraction", .glo "_law_are_names", .glo "_law_is_what", .glo "_law_are_rows", .glo "_law_are_coins", .glo "_law_told", .glo "_law_odd", .glo "_law_bent", .glo "_law_wide", .glo "_law_right", .glo "law", .glo "WrongValue", .glo "NoAnswer", .glo "InvalidWeb", .glo "Trapped", .glo "Web", .glo "ZERO", .glo "ONE", .glo "KINDS", .free "len", .free "isinstance", .free "abs", .free "min", .free "max", .free "sum", .free "all", .free "any", .free "sorted", .free "repr", .free "int", .free "bool", .free "str", .free "list", .free "tuple", .free "dict", .free "range", .free "ValueError", .free "ArithmeticError", .free "super", .str "SMALL" smallS, .str "SIGNS" signsS, .int "MOST_PLACES" 24, .int "MOST_ARROWS" 8, .cls "Web", .noat "Web" "lines", .noat "Web" "trap", .noat "Web" "by_place", .mkr "Web"]
abbrev bmV2 : List Value := bmV
def CB (K : PySem.W.Frag) : Addr := He.ga K "Web"
def CW (K : PySem.W.Frag) : Addr := He.ga K "InvalidWeb"
def CT (K : PySem.W.Frag) : Addr := He.ga K "Trapped"
def C1 (K : PySem.W.Frag) : Addr := He.ga K "WrongValue"
def C2 (K : PySem.W.Frag) : Addr := He.ga K "NoAnswer"
def fW (K : PySem.W.Frag) : Addr := He.ma K (CW K) "__init__"
def fT (K : PySem.W.Frag) : Addr := He.ma K (CT K) "__init__"
def pR (K : PySem.W.Frag) : Addr := He.ma K (CB K) "rows"
def gR (K : PySem.W.Frag) : Addr := match PySem.W.recIn K (pR K) "property" with
  | some (.ref g :: _) => g
  | _ => 0
def cR (K : PySem.W.Frag) : Addr := He.codeOf K ("_law_right", none)
def tR (K : PySem.W.Frag) : Addr := He.tabOf K (cR K)
def propB (K : PySem.W.Frag) (p : Addr) : Bool := match PySem.W.recIn K p "property" with
  | some (.ref _ :: _) => true
  | _ => false
def exT (K : PySem.W.Frag) (C : Addr) (newId initId : String) (bmB : List Value) : Bool := match K.lookup C with
  | some ⟨.type t, _, .cls cd, sl⟩ => (match cd.mro, sl.toList with
    | .ref C1 :: bm, [_, _, _, _, some (.builtin n), _] => decide (t = "type") && (decide (C1 = C) && (decide (n = newId) && ((!cd.hasDel) && (cd.hasDict && (PySem.W.excTail bmB bm && (bm.contains (.type "object") && decide (PySem.W.alongIn K "__init__" bm = some (some (.builtin initId)))))))))
    | _, _ => false)
  | _ => false
def cellB (K : PySem.W.Frag) (f C : Addr) : Bool := match K.lookup f with
  | some ⟨_, _, .func fd, _⟩ => (match fd.closure with
    | [(_, cc)] => (match K.lookup cc with
      | some ⟨_, _, .cell (some (.ref D)), _⟩ => decide (D = C)
      | _ => false)
    | _ => false)
  | _ => false
def codeB (K : PySem.W.Frag) (f : Addr) : Bool := match K.lookup f with
  | some ⟨_, _, .func fd, _⟩ => (match fd.code with
    | .ref c => (match K.lookup c with
      | some ⟨_, _, .fields vs, _⟩ => (match (vs[2]? : Option Value) with
        | some (.str file _) => (prg.main.file : Str) == file
        | _ => false)
      | _ => false)
    | _ => false)
  | _ => false
def tupB (K : PySem.W.Frag) (a : Addr) (xs : List V) : Bool := match K.lookup a with
  | some ⟨.type c, _, .seq its _, _⟩ => decide (c = "tuple") && (decide (its.size ≤ 100) && He.relAll xs its.toList)
  | _ => false
/-- a function object by its address -/
abbrev FnZ : Type := Option (Str × Str × Arguments × FuncBody × Scope × Addr × List Str × Value × Value × Addr × Bool)
def fnZ (K : PySem.W.Frag) (a : Addr) : FnZ := match K.lookup a with
  | some ⟨_, _, .func fd, _⟩ => some (fd.name, fd.qualname, fd.params, fd.body, fd.scope, fd.globals, fd.closure.map (·.1), fd.defaults, fd.kwdefaults, fd.builtins, PySem.W.codeIn K fd.code fd.qualname)
  | _ => none
def zOf (x q : Str) (st : Stmt) (cl : List Str) : FnZ := some (x, q, defArgs st, .stmts (defBody st), defScope st, mainGlobals, cl, .none, .none, builtinsNs, true)
abbrev iR : Stmt := inClass (topS 41) 2
def exL (K : PySem.W.Frag) : List Bool := [exT K (CW K) "ValueError.__new__" "ValueError.__init__" bmV,
  decide (PySem.W.findIn K (.ref (CW K)) "__setattr__" = some (some (.builtin "object.__setattr__"))),
  decide (PySem.W.findIn K (.ref (CW K)) "given" = some none),
  decide (PySem.W.findIn K (.ref (CW K)) "__init__" = some (some (.ref (fW K)))),
  decide (PySem.W.typeIn K (.ref (fW K)) = some (.type "function")),
  PySem.W.keepIn K (.ref (CW K)),
  decide (PySem.W.subIn K (.ref (CW K)) (.type "BaseException") = some true),
  decide (PySem.W.typeIn K (.ref (CW K)) = some (.type "type")),
  decide (PySem.W.subIn K (.ref (CW K)) (.type "ValueError") = some true),
  decide (PySem.W.mroIn K (CW K) (.ref (CW K)) = some true),
  cellB K (fW K) (CW K),
  codeB K (fW K),
  decide (PySem.W.findIn K (.ref (CW K)) "__getattribute__" = some (some (.builtin "BaseException.__getattribute__"))),
  decide (PySem.W.findIn K (.ref (CW K)) "__getattr__" = some none),
  decide (PySem.W.findIn K (.ref (CW K)) "__class__" = some (some (.builtin "object.__class__"))),
  decide (PySem.W.mroIn K (CW K) (.type "object") = some true),
  PySem.W.hasDictIn K (CW K),
  (PySem.W.clsIn K (CW K)).isSome,
  decide (PySem.W.exmAny K (.ref (CW K)) [.ref (C1 K), .ref (C2 K)] = some true),
  exT K (CT K) "ArithmeticError.__new__" "ArithmeticError.__init__" bmA,
  decide (PySem.W.findIn K (.ref (CT K)) "__setattr__" = some (some (.builtin "object.__setattr__"))),
  decide (PySem.W.findIn K (.ref (CT K)) "lot" = some none),
  decide (PySem.W.findIn K (.ref (CT K)) "__init__" = some (some (.ref (fT K)))),
  decide (PySem.W.typeIn K (.ref (fT K)) = some (.type "function")),
  PySem.W.keepIn K (.ref (CT K)),
  decide (PySem.W.subIn K (.ref (CT K)) (.type "BaseException") = some true),
  decide (PySem.W.typeIn K (.ref (CT K)) = some (.type "type")),
  decide (PySem.W.subIn K (.ref (CT K)) (.type "ArithmeticError") = some true),
  decide (PySem.W.mroIn K (CT K) (.ref (CT K)) = some true),
  cellB K (fT K) (CT K),
  codeB K (fT K),
  decide (PySem.W.findIn K (.ref (CT K)) "__getattribute__" = some (some (.builtin "BaseException.__getattribute__"))),
  decide (PySem.W.findIn K (.ref (CT K)) "__getattr__" = some none),
  decide (PySem.W.findIn K (.ref (CT K)) "__class__" = some (some (.builtin "object.__class__"))),
  decide (PySem.W.mroIn K (CT K) (.type "object") = some true),
  PySem.W.hasDictIn K (CT K),
  (PySem.W.clsIn K (CT K)).isSome,
  decide (PySem.W.exmAny K (.ref (CT K)) [.ref (C1 K), .ref (C2 K)] = some true),
  decide (PySem.W.specialIn K (.builtin "object.__class__") "__get__" = some (some (.builtin "getset_descriptor.__get__"))),
  decide (PySem.W.takesIn K (.builtin "object.__class__") = some true),
  decide (PySem.W.nsIn K cStatics "thirdparty.any" = some none),
  decide (PySem.W.kitOne K (.ref (CT K)) (.ref (CT K)) = some true),
  decide (PySem.W.kitOne K (.ref (CT K)) (.type "ArithmeticError") = some true),
  decide (PySem.W.kitOne K (.ref (CT K)) (.ref (C1 K)) = some false),
  decide (PySem.W.kitOne K (.ref (CW K)) (.ref (CT K)) = some false),
  decide (PySem.W.kitOne K (.ref (CW K)) (.ref (CW K)) = some true),
  decide (PySem.W.kitOne K (.ref (CW K)) (.type "ValueError") = some true),
  decide (PySem.W.kitOne K (.ref (CB K)) (.ref (CB K)) = some true),
  decide (PySem.W.kitOne K (.type "tuple") (.ref (CB K)) = some false),
  decide (PySem.W.findIn K (.ref (CB K)) "__class__" = some (some (.builtin "object.__class__"))),
  decide (PySem.W.mroIn K (CB K) (.type "object") = some true),
  decide (PySem.W.findIn K (.ref (CB K)) "rows" = some (some (.ref (pR K)))),
  decide (PySem.W.specialIn K (.ref (pR K)) "__get__" = some (some (.builtin "property.__get__"))),
  decide (PySem.W.takesIn K (.ref (pR K)) = some true),
  propB K (pR K),
  tupB K (He.ga K "ZERO") [.int 0, .int 1],
  tupB K (He.ga K "ONE") [.int 1, .int 1],
  tupB K (He.ga K "KINDS") (kindsL.map V.str),
  PySem.W.codeHdIn K (cR K) (tR K)]
def exB (K : PySem.W.Frag) : Bool := (exL K).all id
abbrev AlY : Type := He.AlD × Bool × FnZ × FnZ × FnZ
def asY (g : Addr → Option Obj) : List Addr := cStatics :: He.asD g 5
def kY (g : Addr → Option Obj) : PySem.W.Frag := He.frT g (asY g)
def emB (g : Addr → Option Obj) (a : Addr) : Bool := match g a with
  | some o => He.emptyTab o
  | none => false
def obsY (g : Addr → Option Obj) : AlY := (He.obsD fa fn (kY g), exB (kY g) && emB g (tR (kY g)), fnZ (kY g) (fW (kY g)), fnZ (kY g) (fT (kY g)), fnZ (kY g) (gR (kY g)))
def valY : AlY := (He.valD fn, true, zOf "__init__" "InvalidWeb.__init__" iW ["__class__"], zOf "__init__" "Trapped.__init__" iT ["__class__"], zOf "rows" "Web.rows" iR [])
structure SaysY (h : Heap) (K : PySem.W.Frag) : Prop where
  d : He.SaysD fa fn K
  more : exB K = true
  out : K.lookup (tR K) = none
  empty : h.get? (tR K) = some { cls := .none, data := .fields #[] }
  z1 : fnZ K (fW K) = zOf "__init__" "InvalidWeb.__init__" iW ["__class__"]
  z2 : fnZ K (fT K) = zOf "__init__" "Trapped.__init__" iT ["__class__"]
  z3 : fnZ K (gR K) = zOf "rows" "Web.rows" iR []
theorem saysY_of {h : Heap} (e : obsY h.get? = valY) : SaysY h (kY h.get?) := by
  have e1 : He.obsD fa fn (kY h.get?) = He.valD fn := congrArg (fun z : AlY => z.1) e
  have e2 : (exB (kY h.get?) && emB h.get? (tR (kY h.get?))) = true := congrArg (fun z : AlY => z.2.1) e
  rw [Bool.and_eq_true] at e2
  obtain ⟨m, t⟩ := e2
  obtain ⟨ot, g1, g2⟩ : ∃ ot, h.get? (tR (kY h.get?)) = some ot ∧ He.emptyTab ot = true := by
    unfold emB at t
    split at t
    · rename_i ot q
      exact ⟨ot, q, t⟩
    · cases t
  exact ⟨e1, m, He.frT_none g1 g2, by rw [g1, He.emptyTab_eq g2], congrArg (fun z : AlY => z.2.2.1) e, congrArg (fun z : AlY => z.2.2.2.1) e, congrArg (fun z : AlY => z.2.2.2.2) e⟩
def hkY : PySem.W.Hook where
  α := AlY
  obs := fun s => obsY s.heap.get?
  val := fun _ => valY
  says := fun _ h => ∃ K : PySem.W.Frag, K.In h ∧ SaysY h K
  of := fun _ _ e => ⟨_, He.frT_in, saysY_of e⟩
  keeps := fun _ _ _ hh k => by
    obtain ⟨K, X, c⟩ := hh
    exact ⟨K, X.keeps k, ⟨c.d, c.more, c.out, k _ _ c.empty, c.z1, c.z2, c.z3⟩⟩
def obY (s : PySem.W.SharedT) : AlY := obsY (HandSHeadRun.getT s)
theorem obY_eq (s : PySem.W.SharedT) : obY s = hkY.obs s.abs := by
  unfold obY
  rw [show HandSHeadRun.getT s = s.abs.heap.get? from funext (HandSHeadRun.getT_eq s)]
  rfl
abbrev R : PySem.W.OpenRow := PySem.W.OpenLaw.row PySem.Challenge.rw_placeworths_k35_whole_rows_judged
end K35
set_option maxHeartbeats 0
/-! P26: the head's run -/
namespace K35
open PySem PySem.Spec PyProof.Rows L2
theorem runY (w : World) : HandSHeadRun.RunEq R (PySem.W.view R.prog [66]) hkY obY 6000 namesA w := by
  intro os
  kernel_rfl
end K35
set_option maxHeartbeats 4000000
/-! P27: the head's facts as the walk wants them -/
namespace K35
open PySem PySem.Spec PyProof.Rows L2 Evl LamX PySem.K35X
theorem all_at {l : List Bool} (h : l.all id = true) {i : Nat} {b : Bool} (hb : l[i]? = some b) : b = true := List.all_eq_true.mp h b (List.mem_of_getElem? hb)
section
variable {K : PySem.W.Frag}
theorem fnZ_ok {a : Addr} {x q : Str} {st : Stmt} {cl : List Str} (e : fnZ K a = zOf x q st cl) : ∃ (oc : Value) (od : Option Addr) (doc pm : Value) (an : Option Addr) (cdv ct : Value) (osl : Array (Option Value)) (clo : List (Str × Addr)),
    K.lookup a = some ⟨oc, od, .func (PySem.W.fnX x q (defArgs st) (defBody st) (defScope st) clo .none .none doc pm an cdv ct), osl⟩ ∧ clo.map (·.1) = cl ∧ PySem.W.codeIn K cdv q = true := by
  unfold fnZ zOf at e
  split at e
  · rename_i oc od fd osl lk
    obtain ⟨n1, n2, n3, n4, n5, n6, n7, n8, n9, n10, n11, n12, n13, n14, nB⟩ := fd
    simp only [Prod.mk.injEq, Option.some.injEq] at e
    obtain ⟨h1, h2, h3, h4, h5, h6, h7, h8, h9, h10, h11⟩ := e
    subst h1 h2 h3 h4 h5 h6 h8 h9 h10
    exact ⟨oc, od, n10, n11, n12, n13, n14, osl, n7, lk, h7, h11⟩
  · cases e
theorem excT_of {C f : Addr} {q fld B newId initId : String} {bm : List Value} {st : Stmt} (hx : exT K C newId initId bm = true) (hp : ∀ self, refuseLoop self "__setattr__" bm = pure ()) (sa : PySem.W.findIn K (.ref C) "__setattr__" = some (some (.builtin "object.__setattr__")))
    (noN : PySem.W.findIn K (.ref C) fld = some none) (iC : PySem.W.findIn K (.ref C) "__init__" = some (some (.ref f))) (tC : PySem.W.typeIn K (.ref f) = some (.type "function")) (kC : PySem.W.keepIn K (.ref C) = true) (exC : PySem.W.subIn K (.ref C) (.type "BaseException") = some true)
    (tyC : PySem.W.typeIn K (.ref C) = some (.type "type")) (suB : PySem.W.subIn K (.ref C) (.type B) = some true) (mrC : PySem.W.mroIn K C (.ref C) = some true) (hc : cellB K f C = true) (hk : codeB K f = true) (hz : fnZ K f = zOf "__init__" q st ["__class__"])
    (ho : PySem.W.nsIn K cStatics "thirdparty.any" = some none) : ∃ cc cda, ExcT prg K C f cc cda q fld B initId newId bm (defArgs st) (defBody st) (defScope st) := by
  obtain ⟨oc, od, doc, pm, an, cdv, ct, osl, clo, lk, hcl, hcd⟩ := fnZ_ok hz
  obtain ⟨cc, rfl⟩ : ∃ cc, clo = [(("__class__" : Str), cc)] := by
    match clo, hcl with
    | [(n, cc)], h =>
      have : n = ("__class__" : Str) := by simpa using h
      exact ⟨cc, by rw [this]⟩
  unfold cellB at hc
  rw [lk] at hc
  dsimp only at hc
  unfold codeB at hk
  rw [lk] at hk
  dsimp only at hk
  obtain ⟨cda, rfl⟩ : ∃ cda, cdv = .ref cda := by
    cases cdv with
    | ref c => exact ⟨c, rfl⟩
    | _ => cases hcd
  dsimp only at hk
  refine ⟨cc, cda, ?_, sa, noN, iC, tC, kC, exC, tyC, suB, mrC, ⟨oc, od, doc, pm, an, ct, osl, lk, hcd⟩, ?_, ?_, ho⟩
  · unfold exT at hx
    split at hx
    · rename_i t dd cd sl hl
      split at hx
      · rename_i D bm' k0 k1 k2 k3 n k5 hm hs
        simp only [Bool.and_eq_true, decide_eq_true_eq, Bool.not_eq_true'] at hx
        obtain ⟨rfl, rfl, rfl, hdel, hdi, ht, hob, hal⟩ := hx
        obtain ⟨nm, bs, chain, ns, qn, hd, sn, sub, ab, col, del⟩ := cd
        dsimp only at hm hdel hdi
        subst hm hdel hdi
        obtain ⟨sll⟩ := sl
        dsimp only at hs
        subst hs
        exact ⟨nm, qn, ns, bs, bm', sn, sub, ab, col, dd, k0, k1, k2, k3, k5, hl, fun X => PySem.W.excTail_contains X _ ht, fun self => PySem.W.excTail_pass self (hp self) _ (show PySem.W.excTail bm (.ref D :: bm') = true from ht), hob, hal⟩
      · cases hx
    · cases hx
  · split at hc
    · rename_i cl cld D csl hl
      rw [of_decide_eq_true hc] at hl
      exact ⟨cl, cld, csl, hl⟩
    · cases hc
  · split at hk
    · rename_i ccl cdd vs ccs hl
      split at hk
      · rename_i file tf hv
        exact ⟨ccl, cdd, vs, ccs, file, tf, hl, hv, hk⟩
      · cases hk
    · cases hk
theorem tupB_ok {a : Addr} {xs : List V} (h : tupB K a xs = true) (H : Hp) : SqT K H a xs := by
  unfold tupB at h
  split at h
  · rename_i c od its n sl hl
    simp only [Bool.and_eq_true, decide_eq_true_eq] at h
    obtain ⟨rfl, hz, hr⟩ := h
    exact .inr ⟨_, its, n, hl, rfl, rfl, Nat.le_trans hz (by decide), He.relAll_ok hr⟩
  · cases h
end
end K35
set_option maxHeartbeats 4000000
/-! P28: all defs put together -/
namespace K35
open PySem PySem.Spec PyProof.Rows L2 Evl LamX PySem.K35X
section
variable {w : World} {K : PySem.W.Frag} {mg : Str → Option Value} {h : Heap}
theorem said (c : SaysY h K) {i : Nat} {b : Bool} (hb : (exL K)[i]? = some b) : b = true := all_at c.more hb
theorem rel_refG {a : Addr} (h : mg x = some (.ref a)) : ∃ u, mg x = some u ∧ RelV (.ref a) u := ⟨_, h, rfl⟩
theorem nm_of (X : K.In h) (G : h.Ns mainGlobals mg) (c : SaysY h K) : Nm K mg where
  n_len := He.free_ok X G (c.d.fact 49 (f := .free "len") rfl)
  n_isinstance := He.free_ok X G (c.d.fact 50 (f := .free "isinstance") rfl)
  n_abs := He.free_ok X G (c.d.fact 51 (f := .free "abs") rfl)
  n_min := He.free_ok X G (c.d.fact 52 (f := .free "min") rfl)
  n_max := He.free_ok X G (c.d.fact 53 (f := .free "max") rfl)
  n_sum := He.free_ok X G (c.d.fact 54 (f := .free "sum") rfl)
  n_all := He.free_ok X G (c.d.fact 55 (f := .free "all") rfl)
  n_any := He.free_ok X G (c.d.fact 56 (f := .free "any") rfl)
  n_sorted := He.free_ok X G (c.d.fact 57 (f := .free "sorted") rfl)
  n_repr := He.free_ok X G (c.d.fact 58 (f := .free "repr") rfl)
  n_int := He.free_ok X G (c.d.fact 59 (f := .free "int") rfl)
  n_bool := He.free_ok X G (c.d.fact 60 (f := .free "bool") rfl)
  n_str := He.free_ok X G (c.d.fact 61 (f := .free "str") rfl)
  n_list := He.free_ok X G (c.d.fact 62 (f := .free "list") rfl)
  n_tuple := He.free_ok X G (c.d.fact 63 (f := .free "tuple") rfl)
  n_dict := He.free_ok X G (c.d.fact 64 (f := .free "dict") rfl)
  n_range := He.free_ok X G (c.d.fact 65 (f := .free "range") rfl)
  n_ValueError := He.free_ok X G (c.d.fact 66 (f := .free "ValueError") rfl)
  n_ArithmeticError := He.free_ok X G (c.d.fact 67 (f := .free "ArithmeticError") rfl)
  ZERO := rel_refG (He.glo_ok X G (c.d.fact 46 (f := .glo "ZERO") rfl))
  ONE := rel_refG (He.glo_ok X G (c.d.fact 47 (f := .glo "ONE") rfl))
  KINDS := rel_refG (He.glo_ok X G (c.d.fact 48 (f := .glo "KINDS") rfl))
  SMALL := let ⟨t, e⟩ := He.str_ok X G (c.d.fact 69 (f := .str "SMALL" smallS) rfl); ⟨_, e, t, rfl⟩
  SIGNS := let ⟨t, e⟩ := He.str_ok X G (c.d.fact 70 (f := .str "SIGNS" signsS) rfl); ⟨_, e, t, rfl⟩
  MOST_PLACES := let ⟨t, e⟩ := He.int_ok X G (c.d.fact 71 (f := .int "MOST_PLACES" 24) rfl); ⟨_, e, t, rfl⟩
  MOST_ARROWS := let ⟨t, e⟩ := He.int_ok X G (c.d.fact 72 (f := .int "MOST_ARROWS" 8) rfl); ⟨_, e, t, rfl⟩
  tZERO := tupB_ok (said c (i := 55) rfl)
  tONE := tupB_ok (said c (i := 56) rfl)
  tKINDS := tupB_ok (said c (i := 57) rfl)
theorem excW (c : SaysY h K) : ∃ cc cda, ExcT prg K (CW K) (fW K) cc cda "InvalidWeb.__init__" "given" "ValueError" "ValueError.__init__" "ValueError.__new__" bmV (defArgs iW) (defBody iW) (defScope iW) :=
  excT_of (said c (i := 0) rfl) PySem.F.store_ValueError.passes (of_decide_eq_true (said c (i := 1) rfl)) (of_decide_eq_true (said c (i := 2) rfl)) (of_decide_eq_true (said c (i := 3) rfl)) (of_decide_eq_true (said c (i := 4) rfl)) (said c (i := 5) rfl) (of_decide_eq_true (said c (i := 6) rfl)) (of_decide_eq_true (said c (i := 7) rfl)) (of_decide_eq_true (said c (i := 8) rfl)) (of_decide_eq_true (said c (i := 9) rfl)) (said c (i := 10) rfl) (said c (i := 11) rfl) c.z1 (of_decide_eq_true (said c (i := 40) rfl))
theorem excTr (c : SaysY h K) : ∃ cc cda, ExcT prg K (CT K) (fT K) cc cda "Trapped.__init__" "lot" "ArithmeticError" "ArithmeticError.__init__" "ArithmeticError.__new__" bmA (defArgs iT) (defBody iT) (defScope iT) :=
  excT_of (said c (i := 19) rfl) PySem.F.store_ArithmeticError.passes (of_decide_eq_true (said c (i := 20) rfl)) (of_decide_eq_true (said c (i := 21) rfl)) (of_decide_eq_true (said c (i := 22) rfl)) (of_decide_eq_true (said c (i := 23) rfl)) (said c (i := 24) rfl) (of_decide_eq_true (said c (i := 25) rfl)) (of_decide_eq_true (said c (i := 26) rfl)) (of_decide_eq_true (said c (i := 27) rfl)) (of_decide_eq_true (said c (i := 28) rfl)) (said c (i := 29) rfl) (said c (i := 30) rfl) c.z2 (of_decide_eq_true (said c (i := 40) rfl))
theorem excDW (c : SaysY h K) : ExcD K (CW K) := ⟨said c (i := 17) rfl, of_decide_eq_true (said c (i := 12) rfl), of_decide_eq_true (said c (i := 13) rfl), of_decide_eq_true (said c (i := 6) rfl), of_decide_eq_true (said c (i := 14) rfl), of_decide_eq_true (said c (i := 38) rfl), of_decide_eq_true (said c (i := 39) rfl), of_decide_eq_true (said c (i := 15) rfl)⟩
theorem excDT (c : SaysY h K) : ExcD K (CT K) := ⟨said c (i := 36) rfl, of_decide_eq_true (said c (i := 31) rfl), of_decide_eq_true (said c (i := 32) rfl), of_decide_eq_true (said c (i := 25) rfl), of_decide_eq_true (said c (i := 33) rfl), of_decide_eq_true (said c (i := 38) rfl), of_decide_eq_true (said c (i := 39) rfl), of_decide_eq_true (said c (i := 34) rfl)⟩
theorem xfW (c : SaysY h K) : XfC K (CW K) := ⟨of_decide_eq_true (said c (i := 12) rfl), of_decide_eq_true (said c (i := 13) rfl), of_decide_eq_true (said c (i := 6) rfl), said c (i := 16) rfl⟩
theorem xfT (c : SaysY h K) : XfC K (CT K) := ⟨of_decide_eq_true (said c (i := 31) rfl), of_decide_eq_true (said c (i := 32) rfl), of_decide_eq_true (said c (i := 25) rfl), said c (i := 35) rfl⟩
theorem webC (c : SaysY h K) : WebC K (CB K) := ⟨He.cls_ok (c.d.fact 73 (f := .cls "Web") rfl), He.noat_ok (x := "Web") (c.d.fact 74 (f := .noat "Web" "lines") rfl), He.noat_ok (x := "Web") (c.d.fact 75 (f := .noat "Web" "trap") rfl), He.noat_ok (x := "Web") (c.d.fact 76 (f := .noat "Web" "by_place") rfl)⟩
theorem sc_rows : FnScope ["self"] ["self"] (defScope iR) := ⟨rfl, rfl, rfl, by decide +kernel, rfl, by decide +kernel, by decide +kernel⟩
theorem propW {base : Heap} (c : SaysY h K) : ∃ p g fd, PropOf K (CB K) "rows" p g ∧ FnOk prg w K mg base C8.CX0 1 g fd ["self"] (getSp (CB K) "lines") ∧ L2.Binds K fd ["self"] [] := by
  obtain ⟨oc, od, doc, pm, an, cdv, ct, osl, clo, lk, hcl, hcd⟩ := fnZ_ok c.z3
  obtain rfl : clo = [] := by
    cases clo with
    | nil => rfl
    | cons a b => cases hcl
  have hp := said c (i := 54) rfl
  have hr : ∃ rest, PySem.W.recIn K (pR K) "property" = some (.ref (gR K) :: rest) := by
    unfold propB at hp
    unfold gR
    split at hp
    · rename_i g rest e
      rw [e]
      exact ⟨rest, rfl⟩
    · cases hp
  exact ⟨pR K, gR K, _, ⟨of_decide_eq_true (said c (i := 51) rfl), of_decide_eq_true (said c (i := 52) rfl), of_decide_eq_true (said c (i := 53) rfl), hr⟩, fn_getter lk hcd sc_rows rfl rfl (webC c).cl (webC c).lines, .all fun us hl => match us, hl with | [_], _ => rfl⟩
theorem toldW {base : Heap} (X : K.In h) (G : h.Ns mainGlobals mg) (c : SaysY h K) : ToldK prg w K mg base (CB K) (CW K) (CT K) (.ref (C1 K)) (.ref (C2 K)) :=
  ⟨(He.glo_ok X G (c.d.fact 41 (f := .glo "WrongValue") rfl)), (He.glo_ok X G (c.d.fact 42 (f := .glo "NoAnswer") rfl)), (He.glo_ok X G (c.d.fact 43 (f := .glo "InvalidWeb") rfl)), (He.glo_ok X G (c.d.fact 44 (f := .glo "Trapped") rfl)), (He.glo_ok X G (c.d.fact 45 (f := .glo "Web") rfl)), ⟨_, rfl⟩, of_decide_eq_true (said c (i := 18) rfl), of_decide_eq_true (said c (i := 37) rfl), excDW c, excDT c, xfW c, xfT c, of_decide_eq_true (said c (i := 2) rfl), of_decide_eq_true (said c (i := 21) rfl), of_decide_eq_true (said c (i := 41) rfl), of_decide_eq_true (said c (i := 42) rfl), of_decide_eq_true (said c (i := 43) rfl), of_decide_eq_true (said c (i := 44) rfl), of_decide_eq_true (said c (i := 45) rfl), of_decide_eq_true (said c (i := 46) rfl), of_decide_eq_true (said c (i := 47) rfl), of_decide_eq_true (said c (i := 48) rfl), (webC c).cl, of_decide_eq_true (said c (i := 49) rfl), of_decide_eq_true (said c (i := 50) rfl), propW c⟩
theorem law_of {base : Heap} (X : K.In h) (G : h.Ns mainGlobals mg) (c : SaysY h K) (TB : TabB base mg (cR K) (tR K)) : RunG prg w K mg base 15 (He.ga K "law") (spLaw K (tR K)) := by
  have NM := nm_of X G c
  obtain ⟨_, _, eW⟩ := excW c
  obtain ⟨_, _, eT⟩ := excTr c
  have oW : OwnE prg w K mg "InvalidWeb" (CW K) "given" := ownE_web eW (He.free_ok X G (c.d.fact 68 (f := .free "super") rfl)) (He.glo_ok X G (c.d.fact 43 (f := .glo "InvalidWeb") rfl))
  have oT : OwnE prg w K mg "Trapped" (CT K) "lot" := ownE_trap eT (He.free_ok X G (c.d.fact 68 (f := .free "super") rfl)) (He.glo_ok X G (c.d.fact 44 (f := .glo "Trapped") rfl))
  obtain ⟨d0, F0⟩ := c.d.def_ 0 (d := dD "is_between" 12) rfl
  replace F0 : FnP K "is_between" (topS 12) (He.ga K "is_between") d0 := F0
  have m0 := (He.glo_ok X G (c.d.fact 0 (f := .glo "is_between") rfl))
  obtain ⟨d1, F1⟩ := c.d.def_ 1 (d := dD "is_one_of" 13) rfl
  replace F1 : FnP K "is_one_of" (topS 13) (He.ga K "is_one_of") d1 := F1
  have m1 := (He.glo_ok X G (c.d.fact 1 (f := .glo "is_one_of") rfl))
  obtain ⟨d2, F2⟩ := c.d.def_ 2 (d := dD "common" 14) rfl
  replace F2 : FnP K "common" (topS 14) (He.ga K "common") d2 := F2
  have m2 := (He.glo_ok X G (c.d.fact 2 (f := .glo "common") rfl))
  obtain ⟨d3, F3⟩ := c.d.def_ 3 (d := dD "lowest" 15) rfl
  replace F3 : FnP K "lowest" (topS 15) (He.ga K "lowest") d3 := F3
  have m3 := (He.glo_ok X G (c.d.fact 3 (f := .glo "lowest") rfl))
  obtain ⟨d4, F4⟩ := c.d.def_ 4 (d := dD "is_fraction" 16) rfl
  replace F4 : FnP K "is_fraction" (topS 16) (He.ga K "is_fraction") d4 := F4
  have m4 := (He.glo_ok X G (c.d.fact 4 (f := .glo "is_fraction") rfl))
  obtain ⟨d5, F5⟩ := c.d.def_ 5 (d := dD "add" 17) rfl
  replace F5 : FnP K "add" (topS 17) (He.ga K "add") d5 := F5
  have m5 := (He.glo_ok X G (c.d.fact 5 (f := .glo "add") rfl))
  obtain ⟨d6, F6⟩ := c.d.def_ 6 (d := dD "total" 18) rfl
  replace F6 : FnP K "total" (topS 18) (He.ga K "total") d6 := F6
  have m6 := (He.glo_ok X G (c.d.fact 6 (f := .glo "total") rfl))
  obtain ⟨d7, F7⟩ := c.d.def_ 7 (d := dD "is_chance" 19) rfl
  replace F7 : FnP K "is_chance" (topS 19) (He.ga K "is_chance") d7 := F7
  have m7 := (He.glo_ok X G (c.d.fact 7 (f := .glo "is_chance") rfl))
  obtain ⟨d8, F8⟩ := c.d.def_ 8 (d := dD "is_place" 29) rfl
  replace F8 : FnP K "is_place" (topS 29) (He.ga K "is_place") d8 := F8
  have m8 := (He.glo_ok X G (c.d.fact 8 (f := .glo "is_place") rfl))
  obtain ⟨d9, F9⟩ := c.d.def_ 9 (d := dD "are_places" 30) rfl
  replace F9 : FnP K "are_places" (topS 30) (He.ga K "are_places") d9 := F9
  have m9 := (He.glo_ok X G (c.d.fact 9 (f := .glo "are_places") rfl))
  obtain ⟨d10, F10⟩ := c.d.def_ 10 (d := dD "are_pairs" 31) rfl
  replace F10 : FnP K "are_pairs" (topS 31) (He.ga K "are_pairs") d10 := F10
  have m10 := (He.glo_ok X G (c.d.fact 10 (f := .glo "are_pairs") rfl))
  obtain ⟨d11, F11⟩ := c.d.def_ 11 (d := dD "is_what" 32) rfl
  replace F11 : FnP K "is_what" (topS 32) (He.ga K "is_what") d11 := F11
  have m11 := (He.glo_ok X G (c.d.fact 11 (f := .glo "is_what") rfl))
  obtain ⟨d12, F12⟩ := c.d.def_ 12 (d := dD "arrows_of" 33) rfl
  replace F12 : FnP K "arrows_of" (topS 33) (He.ga K "arrows_of") d12 := F12
  have m12 := (He.glo_ok X G (c.d.fact 12 (f := .glo "arrows_of") rfl))
  obtain ⟨d13, F13⟩ := c.d.def_ 13 (d := dD "are_triples" 34) rfl
  replace F13 : FnP K "are_triples" (topS 34) (He.ga K "are_triples") d13 := F13
  have m13 := (He.glo_ok X G (c.d.fact 13 (f := .glo "are_triples") rfl))
  obtain ⟨d14, F14⟩ := c.d.def_ 14 (d := dD "are_rows" 35) rfl
  replace F14 : FnP K "are_rows" (topS 35) (He.ga K "are_rows") d14 := F14
  have m14 := (He.glo_ok X G (c.d.fact 14 (f := .glo "are_rows") rfl))
  obtain ⟨d15, F15⟩ := c.d.def_ 15 (d := dD "trap_in" 36) rfl
  replace F15 : FnP K "trap_in" (topS 36) (He.ga K "trap_in") d15 := F15
  have m15 := (He.glo_ok X G (c.d.fact 15 (f := .glo "trap_in") rfl))
  obtain ⟨d16, F16⟩ := c.d.def_ 16 (d := dD "are_coin_rows" 37) rfl
  replace F16 : FnP K "are_coin_rows" (topS 37) (He.ga K "are_coin_rows") d16 := F16
  have m16 := (He.glo_ok X G (c.d.fact 16 (f := .glo "are_coin_rows") rfl))
  obtain ⟨d17, F17⟩ := c.d.def_ 17 (d := dD "greatest_trap" 42) rfl
  replace F17 : FnP K "greatest_trap" (topS 42) (He.ga K "greatest_trap") d17 := F17
  have m17 := (He.glo_ok X G (c.d.fact 17 (f := .glo "greatest_trap") rfl))
  obtain ⟨d18, F18⟩ := c.d.def_ 18 (d := dD "_law_bowl" 44) rfl
  replace F18 : FnP K "_law_bowl" (topS 44) (He.ga K "_law_bowl") d18 := F18
  have m18 := (He.glo_ok X G (c.d.fact 18 (f := .glo "_law_bowl") rfl))
  obtain ⟨d19, F19⟩ := c.d.def_ 19 (d := dD "_law_pull" 45) rfl
  replace F19 : FnP K "_law_pull" (topS 45) (He.ga K "_law_pull") d19 := F19
  have m19 := (He.glo_ok X G (c.d.fact 19 (f := .glo "_law_pull") rfl))
  obtain ⟨d20, F20⟩ := c.d.def_ 20 (d := dD "_law_one_of" 46) rfl
  replace F20 : FnP K "_law_one_of" (topS 46) (He.ga K "_law_one_of") d20 := F20
  have m20 := (He.glo_ok X G (c.d.fact 20 (f := .glo "_law_one_of") rfl))
  obtain ⟨d21, F21⟩ := c.d.def_ 21 (d := dD "_law_low" 47) rfl
  replace F21 : FnP K "_law_low" (topS 47) (He.ga K "_law_low") d21 := F21
  have m21 := (He.glo_ok X G (c.d.fact 21 (f := .glo "_law_low") rfl))
  obtain ⟨d22, F22⟩ := c.d.def_ 22 (d := dD "_law_plus" 48) rfl
  replace F22 : FnP K "_law_plus" (topS 48) (He.ga K "_law_plus") d22 := F22
  have m22 := (He.glo_ok X G (c.d.fact 22 (f := .glo "_law_plus") rfl))
  obtain ⟨d23, F23⟩ := c.d.def_ 23 (d := dD "_law_number" 49) rfl
  replace F23 : FnP K "_law_number" (topS 49) (He.ga K "_law_number") d23 := F23
  have m23 := (He.glo_ok X G (c.d.fact 23 (f := .glo "_law_number") rfl))
  obtain ⟨d24, F24⟩ := c.d.def_ 24 (d := dD "_law_tos" 50) rfl
  replace F24 : FnP K "_law_tos" (topS 50) (He.ga K "_law_tos") d24 := F24
  have m24 := (He.glo_ok X G (c.d.fact 24 (f := .glo "_law_tos") rfl))
  obtain ⟨d25, F25⟩ := c.d.def_ 25 (d := dD "_law_inner" 51) rfl
  replace F25 : FnP K "_law_inner" (topS 51) (He.ga K "_law_inner") d25 := F25
  have m25 := (He.glo_ok X G (c.d.fact 25 (f := .glo "_law_inner") rfl))
  obtain ⟨d26, F26⟩ := c.d.def_ 26 (d := dD "_law_any_rows" 52) rfl
  replace F26 : FnP K "_law_any_rows" (topS 52) (He.ga K "_law_any_rows") d26 := F26
  have m26 := (He.glo_ok X G (c.d.fact 26 (f := .glo "_law_any_rows") rfl))
  obtain ⟨d27, F27⟩ := c.d.def_ 27 (d := dD "_law_trap" 53) rfl
  replace F27 : FnP K "_law_trap" (topS 53) (He.ga K "_law_trap") d27 := F27
  have m27 := (He.glo_ok X G (c.d.fact 27 (f := .glo "_law_trap") rfl))
  obtain ⟨d28, F28⟩ := c.d.def_ 28 (d := dD "_law_led" 54) rfl
  replace F28 : FnP K "_law_led" (topS 54) (He.ga K "_law_led") d28 := F28
  have m28 := (He.glo_ok X G (c.d.fact 28 (f := .glo "_law_led") rfl))
  obtain ⟨d29, F29⟩ := c.d.def_ 29 (d := dD "_law_is_int" 55) rfl
  replace F29 : FnP K "_law_is_int" (topS 55) (He.ga K "_law_is_int") d29 := F29
  have m29 := (He.glo_ok X G (c.d.fact 29 (f := .glo "_law_is_int") rfl))
  obtain ⟨d30, F30⟩ := c.d.def_ 30 (d := dD "_law_is_fraction" 56) rfl
  replace F30 : FnP K "_law_is_fraction" (topS 56) (He.ga K "_law_is_fraction") d30 := F30
  have m30 := (He.glo_ok X G (c.d.fact 30 (f := .glo "_law_is_fraction") rfl))
  obtain ⟨d31, F31⟩ := c.d.def_ 31 (d := dD "_law_are_names" 57) rfl
  replace F31 : FnP K "_law_are_names" (topS 57) (He.ga K "_law_are_names") d31 := F31
  have m31 := (He.glo_ok X G (c.d.fact 31 (f := .glo "_law_are_names") rfl))
  obtain ⟨d32, F32⟩ := c.d.def_ 32 (d := dD "_law_is_what" 58) rfl
  replace F32 : FnP K "_law_is_what" (topS 58) (He.ga K "_law_is_what") d32 := F32
  have m32 := (He.glo_ok X G (c.d.fact 32 (f := .glo "_law_is_what") rfl))
  obtain ⟨d33, F33⟩ := c.d.def_ 33 (d := dD "_law_are_rows" 59) rfl
  replace F33 : FnP K "_law_are_rows" (topS 59) (He.ga K "_law_are_rows") d33 := F33
  have m33 := (He.glo_ok X G (c.d.fact 33 (f := .glo "_law_are_rows") rfl))
  obtain ⟨d34, F34⟩ := c.d.def_ 34 (d := dD "_law_are_coins" 60) rfl
  replace F34 : FnP K "_law_are_coins" (topS 60) (He.ga K "_law_are_coins") d34 := F34
  have m34 := (He.glo_ok X G (c.d.fact 34 (f := .glo "_law_are_coins") rfl))
  obtain ⟨d35, F35⟩ := c.d.def_ 35 (d := dD "_law_told" 61) rfl
  replace F35 : FnP K "_law_told" (topS 61) (He.ga K "_law_told") d35 := F35
  have m35 := (He.glo_ok X G (c.d.fact 35 (f := .glo "_law_told") rfl))
  obtain ⟨d36, F36⟩ := c.d.def_ 36 (d := dD "_law_odd" 62) rfl
  replace F36 : FnP K "_law_odd" (topS 62) (He.ga K "_law_odd") d36 := F36
  have m36 := (He.glo_ok X G (c.d.fact 36 (f := .glo "_law_odd") rfl))
  obtain ⟨d37, F37⟩ := c.d.def_ 37 (d := dD "_law_bent" 63) rfl
  replace F37 : FnP K "_law_bent" (topS 63) (He.ga K "_law_bent") d37 := F37
  have m37 := (He.glo_ok X G (c.d.fact 37 (f := .glo "_law_bent") rfl))
  obtain ⟨d38, F38⟩ := c.d.def_ 38 (d := dD "_law_wide" 64) rfl
  replace F38 : FnP K "_law_wide" (topS 64) (He.ga K "_law_wide") d38 := F38
  have m38 := (He.glo_ok X G (c.d.fact 38 (f := .glo "_law_wide") rfl))
  obtain ⟨d39, F39⟩ := c.d.def_ 39 (d := dD "_law_right" 65) rfl
  replace F39 : FnP K "_law_right" (topS 65) (He.ga K "_law_right") d39 := F39
  have m39 := (He.glo_ok X G (c.d.fact 39 (f := .glo "_law_right") rfl))
  obtain ⟨d40, F40⟩ := c.d.def_ 40 (d := dD "law" 66) rfl
  replace F40 : FnP K "law" (topS 66) (He.ga K "law") d40 := F40
  have m40 := (He.glo_ok X G (c.d.fact 40 (f := .glo "law") rfl))
  obtain ⟨dW, FW⟩ := c.d.def_ 41 (d := dWeb) rfl
  replace FW : FunD K "__init__" "Web.__init__" (defArgs inW) (defBody inW) (defScope inW) [] [] (He.ma K (CB K) "__init__") dW := FW
  have k_common := K35.c_common (P := prg) (w := w) (base := base) F2 m2 NM 
  have k_is_between := K35.c_is_between (P := prg) (w := w) (base := base) F0 m0 NM 
  have k_is_fraction := K35.c_is_fraction (P := prg) (w := w) (base := base) F4 m4 NM k_is_between k_common
  have k_lowest := K35.c_lowest (P := prg) (w := w) (base := base) F3 m3 NM k_common
  have k_add := K35.c_add (P := prg) (w := w) (base := base) F5 m5 NM k_lowest
  have k_total := K35.c_total (P := prg) (w := w) (base := base) F6 m6 NM k_add
  have k_is_chance := K35.c_is_chance (P := prg) (w := w) (base := base) F7 m7 NM k_is_fraction
  have k_is_place := K35.c_is_place (P := prg) (w := w) (base := base) F8 m8 NM 
  have k_are_places := K35.c_are_places (P := prg) (w := w) (base := base) F9 m9 NM k_is_place
  have k_are_pairs := K35.c_are_pairs (P := prg) (w := w) (base := base) F10 m10 NM 
  have k_is_one_of := K35.c_is_one_of (P := prg) (w := w) (base := base) F1 m1 NM 
  have k_is_what := K35.c_is_what (P := prg) (w := w) (base := base) F11 m11 NM k_is_fraction k_are_places k_are_pairs k_is_chance k_total
  have k_arrows_of := K35.c_arrows_of (P := prg) (w := w) (base := base) F12 m12 NM 
  have k_are_triples := K35.c_are_triples (P := prg) (w := w) (base := base) F13 m13 NM k_are_places
  have k_are_rows := K35.c_are_rows (P := prg) (w := w) (base := base) F14 m14 NM k_are_triples k_is_one_of k_is_what k_arrows_of
  have k_trap_in := K35.c_trap_in (P := prg) (w := w) (base := base) F15 m15 NM k_arrows_of
  have k_are_coin_rows := K35.c_are_coin_rows (P := prg) (w := w) (base := base) F16 m16 NM k_arrows_of
  have k__law_low := K35.c__law_low (P := prg) (w := w) (base := base) F21 m21 NM 
  have k__law_plus := K35.c__law_plus (P := prg) (w := w) (base := base) F22 m22 NM k__law_low
  have k__law_is_int := K35.c__law_is_int (P := prg) (w := w) (base := base) F29 m29 NM 
  have k__law_is_fraction := K35.c__law_is_fraction (P := prg) (w := w) (base := base) F30 m30 NM k__law_is_int k__law_low
  have k__law_are_names := K35.c__law_are_names (P := prg) (w := w) (base := base) F31 m31 NM 
  have k__law_is_what := K35.c__law_is_what (P := prg) (w := w) (base := base) F32 m32 NM k__law_is_fraction k__law_are_names k__law_plus
  have k__law_tos := K35.c__law_tos (P := prg) (w := w) (base := base) F24 m24 NM 
  have k__law_are_rows := K35.c__law_are_rows (P := prg) (w := w) (base := base) F33 m33 NM k__law_are_names k__law_is_what k__law_tos
  have k__law_trap := K35.c__law_trap (P := prg) (w := w) (base := base) F27 m27 NM k__law_tos
  have k__law_led := K35.c__law_led (P := prg) (w := w) (base := base) F28 m28 NM k__law_tos
  have k__law_are_coins := K35.c__law_are_coins (P := prg) (w := w) (base := base) F34 m34 NM k__law_led
  have k__law_pull := K35.c__law_pull (P := prg) (w := w) (base := base) F19 m19 NM 
  have k__law_one_of := K35.c__law_one_of (P := prg) (w := w) (base := base) F20 m20 NM k__law_pull
  have k__law_number := K35.c__law_number (P := prg) (w := w) (base := base) F23 m23 NM k__law_pull k__law_one_of k__law_low
  have k__law_inner := K35.c__law_inner (P := prg) (w := w) (base := base) F25 m25 NM k__law_pull k__law_one_of k__law_low
  have k__law_odd := K35.c__law_odd (P := prg) (w := w) (base := base) F36 m36 NM k__law_one_of
  have k__law_bent := K35.c__law_bent (P := prg) (w := w) (base := base) F37 m37 NM k__law_pull k__law_odd
  have k__law_any_rows := K35.c__law_any_rows (P := prg) (w := w) (base := base) F26 m26 NM k__law_pull k__law_one_of k__law_number k__law_inner
  have k__law_wide := K35.c__law_wide (P := prg) (w := w) (base := base) F38 m38 NM k__law_one_of
  have k__law_bowl := K35.c__law_bowl (P := prg) (w := w) (base := base) F18 m18 NM 
  have LK : LamK prg w K mg base (CB K) (CW K) (CT K) := ⟨⟨_, _, toldW X G c⟩, ⟨_, _, F35, m35⟩, ⟨_, _, He.mkr_ok (x := "Web") (c.d.fact 77 (f := .mkr "Web") rfl), FW, c_Web FW NM oW oT (webC c) k_are_rows k_trap_in k_are_coin_rows⟩,
    ⟨_, _, F17, m17, c_greatest_trap F17 NM oW k_are_rows k_trap_in⟩⟩
  have FC : FunC K "_law_right" (topS 65) (He.ga K "_law_right") (cR K) := by
    obtain ⟨oc, od, dV, kV, doc, pm, an, cdv, ct, osl, e, lk, hcd, hD, _⟩ := F39.ex
    obtain rfl : dV = .none := by
      rcases hD with ⟨_, e⟩ | ⟨e, _⟩
      · exact e
      · exact absurd rfl e
    obtain ⟨c1, rfl⟩ := He.codeIn_ref hcd
    have e1 : cR K = c1 := He.codeOf_eq (p := ("_law_right", none)) (fd := d39) lk (by rw [e])
    rw [e1]
    rw [e] at lk
    exact ⟨⟨oc, od, kV, doc, pm, an, ct, osl, lk⟩, hcd⟩
  have RR := r__law_right FC NM LK TB k__law_pull k__law_one_of k__law_any_rows k__law_wide k__law_bent k__law_are_rows k__law_trap k__law_are_coins
  exact r_law F40 NM RR m39 F39.kp k__law_bowl
end
end K35
set_option maxHeartbeats 4000000
/-! P29: the law's call, nothing being told -/
namespace K35
open PySem PySem.Spec PyProof.Rows L2 Evl LamX
section
variable {P : Program} {w : World} {K : PySem.W.Frag} {mg mb : Str → Option Value} {k : Nat} {fa a c tb : Addr} {sp : Sp} {s1 : Shared} {vs : List Value} {ns : List Int}
/-- what is tracked at the law's call: its table, and the script unless the written part holds it -/
def startH (K : PySem.W.Frag) (tb a : Addr) (vs : List Value) (ns : List Int) : Hp := fun b => if b = tb then some (.tbl #[]) else if b = a then (match K.lookup a with
  | some _ => none
  | none => some (.frz { cls := .type "list", data := .seq vs.toArray } (.lst (ns.map V.int)))) else none
theorem law_end (KX : K.In s1.heap) (hns : s1.heap.Ns mainGlobals mg) (hb : s1.heap.Ns builtinsNs mb) (hbb : ∀ x : Str, x ≠ "__name__" → mb x = bootBuiltins x) (hlim : s1.heap.NoLimit) (hg : s1.gens = #[])
    (hT : s1.heap.get? tb = some { cls := .none, data := .fields #[] }) (nT : K.lookup tb = none) (C : PySem.W.CodeHd s1.heap c tb)
    (hbm : ∃ (bm : Addr) (ob : Obj), mg "__builtins__" = some (.ref bm) ∧ bm ≠ builtinsNs ∧ s1.heap.get? bm = some ob ∧ ob.cls = .type "module" ∧ ob.dict = some builtinsNs ∧ ob.data = .plain)
    (ha : s1.heap.get? a = some { cls := .type "list", data := .seq vs.toArray }) (hi : IntsAre vs ns) (hl : ns.length ≤ sizeLine) (hr : Room k callerA)
    (F : ∀ base : Heap, K.In base → base.Ns mainGlobals mg → TabB base mg c tb → RunG P w K mg base k fa sp)
    (hsp : ∀ H : Hp, H tb = some (.tbl #[]) → SqL K H a (ns.map V.int) → sp [.ref a] H (fun v _ => v = .bl true) C8.E0) :
    codeAny (model P w) callerA (.call (.ref fa) ⟨[.ref a], []⟩) (fun r s' => r = .ok (.ret (.bool true)) ∧ OldK s1.heap s'.heap ∧ s'.os = s1.os ∧ AllBare s'.gens) s1 := by
  obtain ⟨H, hH⟩ : ∃ H : Hp, H = startH K tb a vs ns := ⟨_, rfl⟩
  have rel := vals_ints hi
  have ne : a ≠ tb := fun z => by
    subst z
    rw [ha] at hT
    cases hT
  have atT : H tb = some (.tbl #[]) := by
    rw [hH]
    exact if_pos rfl
  have atA : H a = (match K.lookup a with
      | some _ => none
      | none => some (.frz { cls := .type "list", data := .seq vs.toArray } (.lst (ns.map V.int)))) := by
    rw [hH]
    exact (if_neg ne).trans (if_pos rfl)
  have atO : ∀ b, b ≠ tb → b ≠ a → H b = none := fun b n1 n2 => by
    rw [hH]
    exact (if_neg n1).trans (if_neg n2)
  have sq : SqL K H a (ns.map V.int) := by
    cases e : K.lookup a with
    | none =>
      rw [e] at atA
      exact .inl (.inr ⟨_, atA⟩)
    | some o =>
      cases (KX a o e).symm.trans ha
      exact .inr ⟨_, vs.toArray, _, e, rfl, rfl, rfl, by rw [List.size_toArray, hi.length]; exact hl, by simpa using rel⟩
  have okH : HOk P w H s1.heap := fun b u e => by
    by_cases n1 : b = tb
    · subst n1
      cases atT.symm.trans e
      exact hT
    by_cases n2 : b = a
    · subst n2
      rw [atA] at e
      split at e
      · cases e
      · cases e
        exact ⟨ha, by rw [List.length_map]; exact hl, vs, _, rel, ha⟩
    · rw [atO b n1 n2] at e
      cases e
  have off : ∀ {b : Addr} {o : Obj}, s1.heap.get? b = some o → (∀ us n, o.data ≠ .seq us n) → o.data ≠ .fields #[] → (hidT s1.heap H).get? b = some o := fun {b o} e d1 d2 => by
    refine hidT_get e (atO b (fun z => ?_) fun z => ?_)
    · subst z
      cases hT.symm.trans e
      exact d2 rfl
    · subst z
      cases ha.symm.trans e
      exact d1 _ _ rfl
  have offD : ∀ {b : Addr} {m : Str → Option Value}, s1.heap.Ns b m → (hidT s1.heap H).Ns b m := fun {b m} x => by
    obtain ⟨o, es, ep, e, d, r⟩ := x
    exact ⟨o, es, ep, off e (fun us n z => by rw [d] at z; cases z) (fun z => by rw [d] at z; cases z), d, r⟩
  have KB : K.In (hidT s1.heap H) := fun b o e => hidT_get (KX b o e) (by
    by_cases n1 : b = tb
    · subst n1
      rw [nT] at e
      cases e
    by_cases n2 : b = a
    · subst n2
      rw [atA, e]
    · exact atO b n1 n2)
  have md : L2.Mod K mg (hidT s1.heap H) := ⟨KB, offD hns, ⟨mb, offD hb, hbb⟩, by
    obtain ⟨mc, q1, q2⟩ := hlim
    exact ⟨mc, offD q1, q2⟩⟩
  have TB : TabB (hidT s1.heap H) mg c tb := by
    refine ⟨?_, ?_, fun z => ?_⟩
    · obtain ⟨o, us, file, tf, flags, tg, inF, text, tt, e1, r1, r2, r3, rest⟩ := C
      refine ⟨o, us, file, tf, flags, tg, inF, text, tt, off e1 (fun us n z => ?_) (fun z => ?_), r1, r2, r3, rest⟩
      · rw [r2] at z
        cases z
      · rw [r2] at z
        cases z
        simp at r3
    · obtain ⟨aB, ob, b1, b2, b3, b4, b5, b6⟩ := hbm
      refine ⟨aB, ob, b1, b2, fun z => ?_, fun z => ?_, off b3 (fun us n z => by rw [b6] at z; cases z) (fun z => by rw [b6] at z; cases z), b4, b5, b6⟩
      · obtain ⟨o, es, ep, e, d, _⟩ := hns
        subst z
        cases e.symm.trans b3
        rw [d] at b6
        cases b6
      · subst z
        cases hT.symm.trans b3
        cases b6
    · obtain ⟨o, es, ep, e, d, _⟩ := hns
      subst z
      cases hT.symm.trans e
      cases d
  have env0 : Env0 P w K mg (hidT s1.heap H) callerA [] s1 H := ⟨rfl, md, fun b o e => of_hidT e, Nat.le_of_eq (hidT_size _ _), trivial, fun b z => absurd (show b ∈ ([] : List Addr) from z) (by simp), okH, .of_eq hg⟩
  refine codeAny_mono (F _ KB (offD hns) TB callerA [] s1 H [.ref a] [.ref a] _ _ hr rfl env0 (.cons rfl .nil) (hsp H atT sq)) fun r s' q => ?_
  cases r with
  | error e => exact (show False from q).elim
  | ok fl =>
    cases fl with
    | next => exact q.elim
    | brk => exact q.elim
    | cont => exact q.elim
    | ret u =>
      obtain ⟨v, H', hos, bare, un, okE, rv, rfl⟩ := q
      obtain rfl : u = Value.bool true := rv
      have stay : ∀ b o, b ≠ tb → s1.heap.get? b = some o → s'.heap.get? b = some o := fun b o n e => by
        cases z : H b with
        | none => exact un.keep b o e z (fun m => absurd (show b ∈ ([] : List Addr) from m) (by simp)) (by simp)
        | some u =>
          have n2 : b = a := Decidable.byContradiction fun y => by
            rw [atO b n y] at z
            cases z
          subst n2
          rw [atA] at z
          split at z
          · cases z
          · cases z
            rename_i hn
            rw [hn] at atA
            have z2 := okE b _ (un.frzs b _ _ atA)
            cases ha.symm.trans e
            exact z2.1
      obtain ⟨more, hm⟩ := un.tbls tb #[] atT
      have grown := okE tb _ hm
      refine ⟨rfl, ⟨fun b o e => ?_, fun b o e => ?_⟩, hos, bare⟩
      · by_cases n : b = tb
        · subst n
          cases hT.symm.trans e
          exact .inr (.inl ⟨(C.tab hT).isCodeTable, rfl, #[], more, rfl, by rw [Array.empty_append]; rw [Array.empty_append] at grown; exact grown⟩)
        · exact .inl (stay b o n e)
      · by_cases n : b = tb
        · subst n
          exact ⟨_, grown⟩
        · exact ⟨o, stay b o n e⟩
end
end K35
set_option maxHeartbeats 0
/-! P30: the law -/
namespace K35
open PySem PySem.Spec PyProof.Rows L2 LamX
theorem walkY {q : Program} {loose : List Str} {XP : (Str → Option Value) → Heap → Prop} {d : DefRec} (hdf : d.params.defaults = []) (hnm : d.name = ("law" : Str)) :
    PySem.W.WalkO q loose XP hkY.says PySem.Challenge.rw_placeworths_k35_whole_rows_judged.row.toRowW d [] (fun f vs => PySem.call f vs) := by
  refine Att.attach_callB (l := PySem.Challenge.rw_placeworths_k35_whole_rows_judged) (n := 63) rfl hdf fun w s0 s1 mg mb fa o pm cd doc a vs ns G Y ho hd hcd hmg hobj hints hlen hbits hg => ?_
  obtain ⟨K, X, c⟩ := Y
  rw [hnm] at hmg
  have eL := hmg.symm.trans (He.glo_ok X G.T.g (c.d.fact 40 (f := .glo "law") rfl))
  cases eL
  refine law_end (k := 15) (sp := spLaw K (tR K)) (c := cR K) (tb := tR K) X G.T.g G.T.b G.T.builtins G.T.nolimit hg c.empty c.out (PySem.W.codeHd_of_K X (said c (i := 58) rfl)) G.T.bmain hobj hints (Nat.le_trans hlen (by decide)) ⟨rfl, by decide, by decide⟩ (fun base KB GB TB => law_of X G.T.g c TB) fun H hT hS => ?_
  refine ⟨a, ns, rfl, hS, Nat.le_trans hlen (by decide), fun x hx => ?_, fun _ => rfl⟩
  rw [List.mem_singleton.mp hx]
  exact TabS.nil hT
end K35
open PySem PySem.W PySem.Calls PyProof.Rows
theorem PySem.Challenge.cw_placeworths_k35_whole_rows_judged_holds : PySem.Challenge.rw_placeworths_k35_whole_rows_judged.Holds := by
  w_on; o_law
  refine HandSHeadRun.head_any (r := K35.R) (q := view K35.R.prog [66]) (H := K35.hkY) (ob := K35.obY) (M := 6000) (loose := K35.namesA) (d := HandSHeadRun.topDef K35.R.prog 66) (kwd := []) K35.obY_eq (by kernel_rfl) (fun s => by kernel_rfl) K35.runY (by kernel_rfl) (by kernel_rfl) (by kernel_rfl) (by rfl) (by first | assumption | decide +kernel) (by decide +kernel) ⟨rfl, rfl, rfl, rfl, rfl, by decide +kernel⟩ ?hw ?hc
  case hw => w_witness2
  case hc => exact K35.walkY (by kernel_rfl) (by kernel_rfl)
