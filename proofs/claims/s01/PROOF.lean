import PyProof.Rows.All
import Wide.All
import OpenK.AllK
import Wide.FinOn
import PyProof.EqAt
import PyProof.EqKinds
import PyProof.TupleCall
import Open.SpecLaws
import KE.OsGo
import PySem.Challenge.RW_paperposts_s01_answers
import HandS.ForSpec
import HandS.Comp
import HandS.Iter
import HandS.CallSlots
import KE.DataMinMax
import HandS.SortKw
import HandS.Style
set_option Elab.async false
set_option linter.all false
set_option maxRecDepth 100000
set_option maxHeartbeats 2000000
namespace PySem
namespace LowX
open PySem.W PySem.Calls PyProof.Rows PySem.HandSPX
/-! ### the text of __init__ -/
def iA (p1 p2 : Pos) : Arguments := { posonlyargs := [], args := [{ arg := "self", annotation := none, pos := p1 }, { arg := "number", annotation := none, pos := p2 }], vararg := none, kwonlyargs := [], kw_defaults := [], kwarg := none, defaults := [] }
def iB (q1 q2 q3 q4 : Pos) : List Stmt := [.Assign [.Attribute (.Name "self" q1) "number" q2] (.Name "number" q3) q4]
def iS : Scope := { kind := .function, names := [(PySem.Str.ofString "self", .local), (PySem.Str.ofString "number", .local)], isGenerator := false, isCoroutine := false, more := [] }
/-- what the written part says of Low, at C, and of its __init__, at fI -/
structure LowTxt (K : Frag) (mg : Str → Option Value) (C fI : Addr) : Prop where
  gC : mg "Refused" = some (.ref C)
  cls : ∃ nm q N bs bm sn sub ab col dd k0 k1 k2 k3 k5, K.lookup C = some (excClassObj nm q C N bs bm true sn sub ab col dd k0 k1 k2 k3 k5 "ValueError.__new__") ∧ refsVE bm = true
  sa : findIn K (.ref C) "__setattr__" = some (some (.builtin "object.__setattr__"))
  ga : findIn K (.ref C) "__getattribute__" = some (some (.builtin "BaseException.__getattribute__"))
  gg : findIn K (.ref C) "__getattr__" = some none
  noN : findIn K (.ref C) "number" = some none
  iC : findIn K (.ref C) "__init__" = some (some (.ref fI))
  tC : typeIn K (.ref fI) = some (.type "function")
  kC : keepIn K (.ref C) = true
  exC : subIn K (.ref C) (.type "BaseException") = some true
  tyC : typeIn K (.ref C) = some (.type "type")
  hdC : hasDictIn K C = true
  te : exmOne K (.ref C) (.ref C) = some true
  fn : ∃ (oc : Value) (od : Option Addr) (doc pm : Value) (an : Option Addr) (cdv ct : Value) (osl : Array (Option Value)) (p1 p2 q1 q2 q3 q4 : Pos),
    K.lookup fI = some ⟨oc, od, .func (fnOf "__init__" "Refused.__init__" (iA p1 p2) (iB q1 q2 q3 q4) iS .none .none doc pm an cdv ct), osl⟩ ∧ codeIn K cdv "Refused.__init__" = true
theorem one_size (v : Value) : [v].length ≤ sizeLine := by
  rw [sizeLine_eq]
  exact (by decide : 1 ≤ 16777216)
theorem kept_but {K : Frag} {h h' : Heap} {x : Addr} (X : K.In h) (hx : K.lookup x = none) (k : ∀ b o, b ≠ x → h.get? b = some o → h'.get? b = some o) : K.In h' := fun a o e =>
  k a o (fun z => by rw [z, hx] at e; cases e) (X a o e)
theorem ldC {M : Model} {s : Shared} {name : Str} {scope : Scope} {L a : Addr} {cd : Value} {m : Str → Option Value} {x : Str} {pos : Pos} {v : Value} {Q : Value → Shared → Prop} {A : Around} {E : Value → Shared → Prop} (hn : s.heap.Ns L m) (hv : m x = some v) (h : Q v s)
    (hk : scope.kind = .function := by rfl) (hl : (envOfC name scope L a cd).kindOf x = some .local := by rfl) (hd : (x == ("__debug__" : Str)) = false := by decide) :
    wpAny M A (eval (.Name x pos) (envOfC name scope L a cd)) Q E s := wpAny_Name (wpAny_loadName_local hk hl hn hv h) hd
/-- what __init__ leaves of a fresh exception at x -/
structure InitEnd (h h' : Heap) (x C dx t1 : Addr) (v : Value) : Prop where
  keep : ∀ b o, b ≠ x → h.get? b = some o → h'.get? b = some o
  obj : h'.get? x = some { cls := .ref C, dict := some dx, data := .fields #[.ref t1, .none, .none, .none, .bool false, .none] }
  dbig : h.objs.size ≤ dx
  dne : dx ≠ x
  ns : h'.Ns1 dx (fun y => if y = "number" then some v else none)
/-- a made Low -/
structure OwnMade (h h' : Heap) (e C d : Addr) (v : Value) : Prop where
  keep : ∀ b o, h.get? b = some o → h'.get? b = some o
  new : h.objs.size ≤ e
  obj : ∃ oe vs, h'.get? e = some oe ∧ oe.cls = .ref C ∧ oe.dict = some d ∧ oe.data = .fields vs ∧ vs[1]? = some .none
  dbig : h.objs.size ≤ d
  dne : d ≠ e
  ns : h'.Ns1 d (fun y => if y = "number" then some v else none)
section
variable {prog : Program} {w : World} {A : Around} {E : Value → Shared → Prop} {R : Result → Shared → Prop} {s : Shared} {K : Frag} {mg : Str → Option Value} {C fI : Addr}
theorem low_init (T : LowTxt K mg C fI) {x t0 : Addr} {v : Value} (X : K.In s.heap) (hlim : s.heap.NoLimit) (hx : s.heap.get? x = some (excO C t0)) (hnx : K.lookup x = none) (hroom : A.depth < recursionLimit)
    (hq : ∀ h' tk dx, InitEnd s.heap h' x C dx t0 v → R (.ok (.ret .none)) { s with heap := h', toks := tk }) :
    codeAny (model prog w) A (.call (.ref fI) ⟨[.ref x, v], []⟩) R s := by
  obtain ⟨oc, od, doc, pm, an, cdv, ct, osl, p1, p2, q1, q2, q3, q4, ho, hcd⟩ := T.fn
  obtain ⟨nm, q, N, bs, bm, sn, sub, ab, col, dd, k0, k1, k2, k3, k5, hC, hbm⟩ := T.cls
  have hcl : clsIn K C = some { name := nm, bases := bs, mro := .ref C :: bm, ns := N, qualname := q, hasDict := true, slotNames := sn, subclasses := sub, abstract := ab, collection := col, hasDel := false } := by unfold clsIn; rw [hC] <;> rfl
  refine Att.call_fn (binds := [("self", .ref x), ("number", v)]) X hlim ho hcd hroom (BindsTo.of_eq (by first | rfl | with_unfolding_all rfl)) (by first | rfl | decide | with_unfolding_all rfl) (fun s₁ IC => ?_) rfl rfl rfl
  obtain ⟨h₁, tk₁, rfl⟩ := IC.toInCall.same
  have k : ∀ b o, s.heap.get? b = some o → h₁.get? b = some o := IC.toInCall.keep
  have hn := IC.toInCall.ns
  have hxL : s.heap.objs.size ≠ x := Nat.ne_of_gt (Heap.lt_size hx)
  have X₁ : K.In h₁ := X.keeps k
  have hx₁ := k _ _ hx
  -- self.by = by
  show wpAny _ _ (execs _ _) _ _ _
  refine wpAny_execs_cons (plainObj_wpAny_Assign_Attribute ?_)
  refine ldC (v := v) hn (by first | rfl | with_unfolding_all rfl | kernel_rfl) (ldC (v := .ref x) hn (by first | rfl | with_unfolding_all rfl | kernel_rfl) ?_)
  refine set_plain X₁ (ox := excO C t0) (od := none) ⟨hx₁, rfl, rfl, trivial⟩ T.sa ?_
  refine exc_osa X₁ hx₁ hcl (show refsVE (.ref C :: bm) = true from hbm) rfl T.noN (fun h₃ tk₃ dx k₃ dn dne hx₃ hn₃ => ?_)
  show wpAny _ _ (execs _ _) _ _ _
  have z : s.heap.objs.size < h₁.objs.size := hn.lt
  exact wpAny_execs_nil (hq h₃ tk₃ dx ⟨fun b o hb e => k₃ b o hb (k b o e), hx₃, Nat.le_of_lt (Nat.lt_of_lt_of_le z dn), dne, hn₃⟩)
theorem low_made (T : LowTxt K mg C fI) {v : Value} (X : K.In s.heap) (hlim : s.heap.NoLimit) (hroom : A.depth + 1 < recursionLimit)
    (hq : ∀ h' tk e d, OwnMade s.heap h' e C d v → R (.ok (.ret (.ref e))) { s with heap := h', toks := tk }) :
    codeAny (model prog w) A (.call (.ref C) ⟨[v], []⟩) R s := by
  obtain ⟨nm, q, N, bs, bm, sn, sub, ab, col, dd, k0, k1, k2, k3, k5, hC, hbm⟩ := T.cls
  obtain ⟨hp, g, dr, tk, os⟩ := s
  have k : ∀ b o, hp.get? b = some o → ((hp.push (kdv_tup [v])).push (excO C hp.objs.size)).get? b = some o := fun b o e => Heap.get?_push_of_some _ (Heap.get?_push_of_some _ e)
  have hget : ((hp.push (kdv_tup [v])).push (excO C hp.objs.size)).get? (hp.objs.size + 1) = some (excO C hp.objs.size) := by heap_get
  have hnx : K.lookup (hp.objs.size + 1) = none := by
    cases e : K.lookup (hp.objs.size + 1) with
    | none => rfl
    | some o =>
      have z : hp.get? (hp.objs.size + 1) = some o := X _ _ e
      exact absurd (Nat.lt_of_succ_lt (Heap.lt_size z)) (Nat.lt_irrefl _)
  refine call_own F.excBase_ValueError (fun X => refsVE_contains X bm hbm) (X _ _ hC) (looks_findIn X T.iC) (fun self => bind_fn X self T.tC) (one_size v) ?_
  refine low_init (s := ⟨(hp.push (kdv_tup [v])).push (excO C hp.objs.size), g, dr, tk, os⟩) T (X.keeps k) (hlim.keeps k) hget hnx ?_ fun h' tk' dx ⟨k', hx, dn, dne, hns⟩ => ?_
  · show A.depth + 1 < recursionLimit
    exact hroom
  · have old : ∀ b o, hp.get? b = some o → h'.get? b = some o := fun b o e => k' b o (Nat.ne_of_lt (Nat.lt_succ_of_lt (Heap.lt_size e))) (k b o e)
    have z : hp.objs.size + 1 + 1 ≤ dx := by
      first
        | (simpa only [Heap.size_push] using dn)
        | exact dn
        | (have q := dn; rw [Heap.size_push, Heap.size_push] at q; exact q)
    exact ⟨rfl, hq h' tk' (hp.objs.size + 1) dx ⟨old, Nat.le_succ _, ⟨_, _, hx, rfl, rfl, rfl, rfl⟩, Nat.le_trans (Nat.le_trans (Nat.le_succ _) (Nat.le_succ _)) z, dne, hns⟩⟩
end
end LowX
end PySem
namespace L2
open PySem PySem.Spec PyProof.Rows
theorem relO_low {v : V} {v' : Value} (r : RelV v v') (f : Str) : RelO (List.lookup f [(("number" : Str), v)]) (if f = "number" then some v' else none) := by
  by_cases hw : f = "number"
  · subst hw
    rw [if_pos rfl]
    have q : List.lookup ("number" : Str) [(("number" : Str), v)] = some v := by simp [List.lookup]
    rw [q]
    exact r
  · rw [if_neg hw]
    have qw : (f == ("number" : Str)) = false := by simpa using hw
    have q2 : List.lookup f [(("number" : Str), v)] = none := by simp [List.lookup, qw]
    rw [q2]
    trivial
section
variable {X : Cx} {C fI : Addr}
/-- Low(e) -/
def tMkLow (C : Addr) (ta : TA) : St → Hp → XK → Prop := fun σ H Q => ta σ H fun vs H1 => ∃ v, vs = [v] ∧ ∀ d, H1 d = none → Q (.ref C) (some d) (upd H1 d (.xd [(("number" : Str), v)]))
theorem pmk_low {a : Expr} {ta : TA} {p pos : Pos} {k : Nat} (T : PySem.LowX.LowTxt X.K X.mg C fI) (hr : Room k X.A) (ha : PA X [a] ta) (hg : Gl X "Refused" := by rfl)
    (he : starEach (a :: []) X.env = (false, eval a X.env) :: starEach [] X.env := by rfl) (hpl : (backTo pos (starEach [] X.env)).any (·.1) = false := by rfl) :
    PMk X (.Call (.Name "Refused" p) [a] [] pos) (tMkLow C ta) := by
  intro pins s σ H Q I h
  refine wpAny_Call_Name_kw (ld_glob I hg T.gC ?_)
  refine PySem.W.callWith_K (h₀ := X.base) I.ok.mod.kin T.kC (thn (ha.run pos pins s σ H _ I h) fun us s1 hh => ?_) he hpl
  obtain ⟨vs, H1, I1, r1, v, ev, q1⟩ := hh
  subst ev
  refine ⟨I1.kIn, ?_⟩
  cases r1 with
  | cons rv rn =>
    rename_i v' us'
    cases rn
    show wpAny _ _ (call (.ref C) [v']) _ _ _
    have hlim := I1.nolimit
    obtain ⟨hp, g, dr, tk, os⟩ := s1
    refine wpAny_call (PySem.LowX.low_made T I1.kIn hlim (by have := hr.dp; omega) fun h' tk' e d M => ?_)
    show MkP X pins σ Q (.ref e) ⟨h', g, dr, tk', os⟩
    obtain ⟨oe, fv, hoe, hc, hd, hdat, h1⟩ := M.obj
    have hns := M.ns
    obtain ⟨G', g1, g2⟩ := restrict h' fun b => decide (b ≠ e)
    have gk : ∀ b, b ≠ e → G'.get? b = h'.get? b := fun b hb => g1 b (decide_eq_true hb)
    have ge : G'.get? e = none := g2 e (by simp)
    have old : ∀ b o, hp.get? b = some o → G'.get? b = some o := fun b o q => (gk b (Nat.ne_of_lt (Nat.lt_of_lt_of_le (Heap.lt_size q) M.new))).trans (M.keep b o q)
    have ob : ObjOk X.prog X.w (upd H1 d (.xd [(("number" : Str), v)])) G' d (.xd [(("number" : Str), v)]) :=
      ⟨_, hns.at (fun o q => (gk d M.dne).trans q), fun f => relO_low rv f⟩
    have J : Inv X pins σ (upd H1 d (.xd [(("number" : Str), v)])) ⟨G', g, dr, tk', os⟩ := I1.laid (t' := tk') old M.dbig ob
    refine ⟨e, oe, fv, ⟨G', g, dr, tk', os⟩, _, .ref C, some d, rfl, J, fun b o q => ?_, ge, hoe, ⟨hc, hd⟩, hdat, h1, ?_, rfl, I1.bare, raises_own T.exC T.tyC, q1 d (I1.hok.fresh M.dbig)⟩
    · by_cases hb : b = e
      · have q' : G'.get? b = some o := q
        rw [hb, ge] at q'; cases q'
      · exact (gk b hb).symm.trans q
    · rw [upd_ne (Ne.symm M.dne)]
      exact I1.hok.fresh M.new
/-- raise Low(e) -/
def tRaiseLow (C : Addr) (W : WX) (ta : TA) : TS := fun _ σ H => tMkLow C ta σ H fun cls d H' => W cls d σ H'
theorem ps_raiseLow {a : Expr} {ta : TA} {W : WX} {p pos pos2 : Pos} {k : Nat} (hc : X.calm = true) (T : PySem.LowX.LowTxt X.K X.mg C fI) (hr : Room k X.A) (tk : Takes X W) (ha : PA X [a] ta) (hg : Gl X "Refused" := by rfl)
    (he : starEach (a :: []) X.env = (false, eval a X.env) :: starEach [] X.env := by rfl) (hpl : (backTo pos (starEach [] X.env)).any (·.1) = false := by rfl) :
    PS X (.Raise (some (.Call (.Name "Refused" p) [a] [] pos)) none pos2) (tRaiseLow C W ta) := ps_raise hc tk (pmk_low T hr ha hg he hpl)
/-- low.by, low the exception that the suite holds (at a; its class cls, its dict d) -/
def tByLow (C : Addr) (a : Addr) (cls : Value) (d : Option Addr) (te : TE) : TE := fun σ H Q => te σ H fun x H1 => x = .ref a ∧ cls = .ref C ∧ ∃ (dd : Addr) (v : V), d = some dd ∧ H1 dd = some (.xd [(("number" : Str), v)]) ∧ Q v H1
theorem pe_byLow {a : Addr} {oe : Obj} {cls : Value} {d : Option Addr} {pn : List (Addr × Obj)} {e : Expr} {te : TE} {pos : Pos} (T : PySem.LowX.LowTxt X.K X.mg C fI) (hz : Zc cls d oe) (hf : ∃ vs, oe.data = .fields vs) (he : PE (X.suite a ((a, oe) :: pn)) e te)
    (hb : attributeBase e "number" X.env (eval e X.env) = eval e X.env := by rfl) :
    PE (X.suite a ((a, oe) :: pn)) (.Attribute e "number" pos) (tByLow C a cls d te) := by
  refine ⟨fun pins s σ H Q I h => ?_⟩
  refine attr_of hb (thn (he.run pins s σ H _ I h) fun u s1 hh => ?_)
  obtain ⟨x, H1, I1, rx, ex, ec, dd, v, ed, ea, q⟩ := hh
  subst ex
  obtain rfl : u = Value.ref a := rx
  subst ec
  subst ed
  obtain ⟨ha, _⟩ := I1.pin (a, oe) (List.mem_append_left _ List.mem_cons_self)
  obtain ⟨vs, hd⟩ := hf
  have hx : ObjOk X.prog X.w H1 s1.heap dd (.xd [(("number" : Str), v)]) := I1.hok dd _ ea
  obtain ⟨mA, hns, hr⟩ := hx
  obtain ⟨od, ho, hl⟩ := lookIn_ns hns
  have l : List.lookup ("number" : Str) [(("number" : Str), v)] = some v := by simp [List.lookup]
  obtain ⟨u, hu, ru⟩ := RelO.some_of (v := v) (o := mA "number") (by rw [← l]; exact hr "number")
  have J : PySem.W.InstAt s1.heap a oe C (some od) := ⟨ha, hz.1, by unfold PySem.W.notCls; rw [hd] <;> rfl, by rw [hz.2]; exact ho⟩
  exact HandSPX.exc_get I1.kIn J T.ga T.gg T.exC (PySem.W.findObj_own T.hdC T.noN rfl (by rw [hl, hu])) (handed_of ru) ⟨v, H1, I1.tok _, ru, q⟩
end
end L2

namespace L2
open PySem PySem.Spec PyProof.Rows
/-- an if whose test is known -/
theorem if_true_of {c : Bool} {A B : Prop} (hc : c = true) (h : A) : if c = true then A else B := by
  rw [if_pos hc]
  exact h
theorem if_false_of {c : Bool} {A B : Prop} (hc : c = false) (h : B) : if c = true then A else B := by
  rw [hc, if_neg Bool.false_ne_true]
  exact h
end L2
namespace Pp
open PySem PySem.Spec PyProof.Rows L2

/-! ### 0. rules of mine -/
/-- a module's constant that is an int -/
theorem pe_gint {X : Cx} {x : Str} {i : Int} {pos : Pos} (hg : Gl X x) (h : ∃ t, X.mg x = some (.int i t)) (hd : (x == ("__debug__" : Str)) = false := by decide) (hcd : (x == ("__classdict__" : Str)) = false := by decide) :
    PE X (.Name x pos) (tC (.int i)) := by
  obtain ⟨t, e⟩ := h
  exact pe_glob (v := .int i) hg e ⟨_, rfl⟩ hd
/-- a def that may raise, from within: what a callee lets out is let out -/
theorem xpass {P : Program} {w : World} {K : PySem.W.Frag} {mg : Str → Option Value} {base : Heap} {N : List Str} {qual : Str} {scope : Scope} {f : Addr} {cd : Value} {A : Around} {outer : List Env} {s : Shared} {H : Hp} {E : XK} :
    Passes (L2.CX P w) (cxOf (L2.CX P w) P w K mg base N qual scope f cd A outer s H E) E :=
  passes_call (takes_of rfl rfl rfl rfl) (fun _ _ _ _ h => h)
theorem xown {P : Program} {w : World} {K : PySem.W.Frag} {mg : Str → Option Value} {base : Heap} {N : List Str} {qual : Str} {scope : Scope} {f : Addr} {cd : Value} {A : Around} {outer : List Env} {s : Shared} {H : Hp} {E : XK} :
    PassesOwn (model P w) (cxOf (L2.CX P w) P w K mg base N qual scope f cd A outer s H E).A (cxOf (L2.CX P w) P w K mg base N qual scope f cd A outer s H E).env (cxOf (L2.CX P w) P w K mg base N qual scope f cd A outer s H E).xe :=
  passes_of rfl

/-! ### 1. the text by places -/
def top (i : Nat) : Stmt := PySem.Challenge.pw_paperposts_s01_answers.main.body.getD i (.Pass ⟨0, 0, 0, 0⟩)
abbrev s_demand : Stmt := top 2
abbrev N_demand : List Str := ["is_good", "number"]
theorem sc_demand : FnScope N_demand ["is_good", "number"] (defScope s_demand) := ⟨rfl, rfl, rfl, by decide +kernel, rfl, by decide +kernel, by decide +kernel⟩
abbrev s_demand_in : Stmt := top 3
abbrev N_demand_in : List Str := ["number", "low", "high"]
theorem sc_demand_in : FnScope N_demand_in ["number", "low", "high"] (defScope s_demand_in) := ⟨rfl, rfl, rfl, by decide +kernel, rfl, by decide +kernel, by decide +kernel⟩
abbrev s_Station_init : Stmt := inClass (top 6) 0
abbrev N_Station_init : List Str := ["self"]
theorem sc_Station_init : FnScope N_Station_init ["self"] (defScope s_Station_init) := ⟨rfl, rfl, rfl, by decide +kernel, rfl, by decide +kernel, by decide +kernel⟩
abbrev s_Station_has_room : Stmt := inClass (top 6) 1
abbrev N_Station_has_room : List Str := ["self"]
theorem sc_Station_has_room : FnScope N_Station_has_room ["self"] (defScope s_Station_has_room) := ⟨rfl, rfl, rfl, by decide +kernel, rfl, by decide +kernel, by decide +kernel⟩
abbrev s_Station_record : Stmt := inClass (top 6) 2
abbrev N_Station_record : List Str := ["self", "row"]
theorem sc_Station_record : FnScope N_Station_record ["self", "row"] (defScope s_Station_record) := ⟨rfl, rfl, rfl, by decide +kernel, rfl, by decide +kernel, by decide +kernel⟩
abbrev s_Station_make_safe : Stmt := inClass (top 6) 3
abbrev N_Station_make_safe : List Str := ["self", "many"]
theorem sc_Station_make_safe : FnScope N_Station_make_safe ["self", "many"] (defScope s_Station_make_safe) := ⟨rfl, rfl, rfl, by decide +kernel, rfl, by decide +kernel, by decide +kernel⟩
abbrev s_Station_lose_unsafe : Stmt := inClass (top 6) 4
abbrev N_Station_lose_unsafe : List Str := ["self"]
theorem sc_Station_lose_unsafe : FnScope N_Station_lose_unsafe ["self"] (defScope s_Station_lose_unsafe) := ⟨rfl, rfl, rfl, by decide +kernel, rfl, by decide +kernel, by decide +kernel⟩
abbrev s_Station_safe_records : Stmt := inClass (top 6) 5
abbrev N_Station_safe_records : List Str := ["self"]
theorem sc_Station_safe_records : FnScope N_Station_safe_records ["self"] (defScope s_Station_safe_records) := ⟨rfl, rfl, rfl, by decide +kernel, rfl, by decide +kernel, by decide +kernel⟩
abbrev s_Home_init : Stmt := inClass (top 12) 0
abbrev N_Home_init : List Str := ["self"]
theorem sc_Home_init : FnScope N_Home_init ["self"] (defScope s_Home_init) := ⟨rfl, rfl, rfl, by decide +kernel, rfl, by decide +kernel, by decide +kernel⟩
abbrev s_Home_all_leases : Stmt := inClass (top 12) 1
abbrev N_Home_all_leases : List Str := ["self", "found", "at", "record"]
theorem sc_Home_all_leases : FnScope N_Home_all_leases ["self"] (defScope s_Home_all_leases) := ⟨rfl, rfl, rfl, by decide +kernel, rfl, by decide +kernel, by decide +kernel⟩
abbrev s_Home_ended_at : Stmt := inClass (top 12) 2
abbrev N_Home_ended_at : List Str := ["self", "lease", "at", "record"]
theorem sc_Home_ended_at : FnScope N_Home_ended_at ["self", "lease"] (defScope s_Home_ended_at) := ⟨rfl, rfl, rfl, by decide +kernel, rfl, by decide +kernel, by decide +kernel⟩
abbrev s_end_of : Stmt := top 13
abbrev N_end_of : List Str := ["home", "number", "lease", "place"]
theorem sc_end_of : FnScope N_end_of ["home", "number", "lease"] (defScope s_end_of) := ⟨rfl, rfl, rfl, by decide +kernel, rfl, by decide +kernel, by decide +kernel⟩
abbrev s_asked : Stmt := top 14
abbrev N_asked : List Str := ["home", "wire", "post", "book", "day", "length", "ends", "number", "row", "lease", "is_sure", "end"]
theorem sc_asked : FnScope N_asked ["home", "wire", "post", "book", "day", "length"] (defScope s_asked) := ⟨rfl, rfl, rfl, by decide +kernel, rfl, by decide +kernel, by decide +kernel⟩
abbrev s_given_back : Stmt := top 15
abbrev N_given_back : List Str := ["home", "wire", "lease", "last", "place"]
theorem sc_given_back : FnScope N_given_back ["home", "wire", "lease", "last"] (defScope s_given_back) := ⟨rfl, rfl, rfl, by decide +kernel, rfl, by decide +kernel, by decide +kernel⟩
abbrev s_take_in : Stmt := top 16
abbrev N_take_in : List Str := ["home", "wire", "post", "frame", "day", "length"]
theorem sc_take_in : FnScope N_take_in ["home", "wire", "post", "frame", "day", "length"] (defScope s_take_in) := ⟨rfl, rfl, rfl, by decide +kernel, rfl, by decide +kernel, by decide +kernel⟩
abbrev s_Post_init : Stmt := inClass (top 22) 0
abbrev N_Post_init : List Str := ["self"]
theorem sc_Post_init : FnScope N_Post_init ["self"] (defScope s_Post_init) := ⟨rfl, rfl, rfl, by decide +kernel, rfl, by decide +kernel, by decide +kernel⟩
abbrev s_Post_forget : Stmt := inClass (top 22) 1
abbrev N_Post_forget : List Str := ["self"]
theorem sc_Post_forget : FnScope N_Post_forget ["self"] (defScope s_Post_forget) := ⟨rfl, rfl, rfl, by decide +kernel, rfl, by decide +kernel, by decide +kernel⟩
abbrev s_Post_grants : Stmt := inClass (top 22) 2
abbrev N_Post_grants : List Str := ["self", "record"]
theorem sc_Post_grants : FnScope N_Post_grants ["self"] (defScope s_Post_grants) := ⟨rfl, rfl, rfl, by decide +kernel, rfl, by decide +kernel, by decide +kernel⟩
abbrev s_Post_has_back : Stmt := inClass (top 22) 3
abbrev N_Post_has_back : List Str := ["self", "lease", "record"]
theorem sc_Post_has_back : FnScope N_Post_has_back ["self", "lease"] (defScope s_Post_has_back) := ⟨rfl, rfl, rfl, by decide +kernel, rfl, by decide +kernel, by decide +kernel⟩
abbrev s_Post_learn : Stmt := inClass (top 22) 4
abbrev N_Post_learn : List Str := ["self", "frame", "lease"]
theorem sc_Post_learn : FnScope N_Post_learn ["self", "frame"] (defScope s_Post_learn) := ⟨rfl, rfl, rfl, by decide +kernel, rfl, by decide +kernel, by decide +kernel⟩
abbrev s_will_do : Stmt := top 23
abbrev N_will_do : List Str := ["post", "lease", "want", "day", "number", "book", "first", "last"]
theorem sc_will_do : FnScope N_will_do ["post", "lease", "want", "day"] (defScope s_will_do) := ⟨rfl, rfl, rfl, by decide +kernel, rfl, by decide +kernel, by decide +kernel⟩
abbrev s_lease_for : Stmt := top 24
abbrev N_lease_for : List Str := ["post", "want", "day", "lease"]
theorem sc_lease_for : FnScope N_lease_for ["post", "want", "day"] (defScope s_lease_for) := ⟨rfl, rfl, rfl, by decide +kernel, rfl, by decide +kernel, by decide +kernel⟩
abbrev s_has_given : Stmt := top 25
abbrev N_has_given : List Str := ["post", "book", "day", "record"]
theorem sc_has_given : FnScope N_has_given ["post", "book", "day"] (defScope s_has_given) := ⟨rfl, rfl, rfl, by decide +kernel, rfl, by decide +kernel, by decide +kernel⟩
abbrev s_does_go : Stmt := top 26
abbrev N_does_go : List Str := ["post", "want", "day", "lease"]
theorem sc_does_go : FnScope N_does_go ["post", "want", "day"] (defScope s_does_go) := ⟨rfl, rfl, rfl, by decide +kernel, rfl, by decide +kernel, by decide +kernel⟩
abbrev s_last_day : Stmt := top 27
abbrev N_last_day : List Str := ["post", "lease", "ends", "record"]
theorem sc_last_day : FnScope N_last_day ["post", "lease"] (defScope s_last_day) := ⟨rfl, rfl, rfl, by decide +kernel, rfl, by decide +kernel, by decide +kernel⟩
abbrev s_give_back : Stmt := top 28
abbrev N_give_back : List Str := ["post", "lease", "day", "want"]
theorem sc_give_back : FnScope N_give_back ["post", "lease", "day"] (defScope s_give_back) := ⟨rfl, rfl, rfl, by decide +kernel, rfl, by decide +kernel, by decide +kernel⟩
abbrev s_frames_of : Stmt := top 29
abbrev N_frames_of : List Str := ["post", "day", "found", "book", "record", "want"]
theorem sc_frames_of : FnScope N_frames_of ["post", "day"] (defScope s_frames_of) := ⟨rfl, rfl, rfl, by decide +kernel, rfl, by decide +kernel, by decide +kernel⟩
abbrev s_tick_posts : Stmt := top 30
abbrev N_tick_posts : List Str := ["post", "wire", "day", "left", "want", "lease", "frames", "frame"]
theorem sc_tick_posts : FnScope N_tick_posts ["post", "wire", "day"] (defScope s_tick_posts) := ⟨rfl, rfl, rfl, by decide +kernel, rfl, by decide +kernel, by decide +kernel⟩
abbrev s_Wire_init : Stmt := inClass (top 34) 0
abbrev N_Wire_init : List Str := ["self"]
theorem sc_Wire_init : FnScope N_Wire_init ["self"] (defScope s_Wire_init) := ⟨rfl, rfl, rfl, by decide +kernel, rfl, by decide +kernel, by decide +kernel⟩
abbrev s_Wire_send : Stmt := inClass (top 34) 1
abbrev N_Wire_send : List Str := ["self", "frame"]
theorem sc_Wire_send : FnScope N_Wire_send ["self", "frame"] (defScope s_Wire_send) := ⟨rfl, rfl, rfl, by decide +kernel, rfl, by decide +kernel, by decide +kernel⟩
abbrev s_Wire_has : Stmt := inClass (top 34) 2
abbrev N_Wire_has : List Str := ["self", "place"]
theorem sc_Wire_has : FnScope N_Wire_has ["self", "place"] (defScope s_Wire_has) := ⟨rfl, rfl, rfl, by decide +kernel, rfl, by decide +kernel, by decide +kernel⟩
abbrev s_Wire_take : Stmt := inClass (top 34) 3
abbrev N_Wire_take : List Str := ["self", "place", "frame"]
theorem sc_Wire_take : FnScope N_Wire_take ["self", "place"] (defScope s_Wire_take) := ⟨rfl, rfl, rfl, by decide +kernel, rfl, by decide +kernel, by decide +kernel⟩
abbrev s_Wire_is_full : Stmt := inClass (top 34) 4
abbrev N_Wire_is_full : List Str := ["self"]
theorem sc_Wire_is_full : FnScope N_Wire_is_full ["self"] (defScope s_Wire_is_full) := ⟨rfl, rfl, rfl, by decide +kernel, rfl, by decide +kernel, by decide +kernel⟩
abbrev s_Wire_twice : Stmt := inClass (top 34) 5
abbrev N_Wire_twice : List Str := ["self", "place"]
theorem sc_Wire_twice : FnScope N_Wire_twice ["self", "place"] (defScope s_Wire_twice) := ⟨rfl, rfl, rfl, by decide +kernel, rfl, by decide +kernel, by decide +kernel⟩
abbrev s_Wire_take_all : Stmt := inClass (top 34) 6
abbrev N_Wire_take_all : List Str := ["self", "found"]
theorem sc_Wire_take_all : FnScope N_Wire_take_all ["self"] (defScope s_Wire_take_all) := ⟨rfl, rfl, rfl, by decide +kernel, rfl, by decide +kernel, by decide +kernel⟩
abbrev s_Town_init : Stmt := inClass (top 36) 0
abbrev N_Town_init : List Str := ["self", "many", "length", "number"]
theorem sc_Town_init : FnScope N_Town_init ["self", "many", "length"] (defScope s_Town_init) := ⟨rfl, rfl, rfl, by decide +kernel, rfl, by decide +kernel, by decide +kernel⟩
abbrev s_Town_wire : Stmt := inClass (top 36) 1
abbrev N_Town_wire : List Str := ["self", "way", "post"]
theorem sc_Town_wire : FnScope N_Town_wire ["self", "way", "post"] (defScope s_Town_wire) := ⟨rfl, rfl, rfl, by decide +kernel, rfl, by decide +kernel, by decide +kernel⟩
abbrev s_Town_come : Stmt := inClass (top 36) 2
abbrev N_Town_come : List Str := ["self", "way", "post", "frame"]
theorem sc_Town_come : FnScope N_Town_come ["self", "way", "post", "frame"] (defScope s_Town_come) := ⟨rfl, rfl, rfl, by decide +kernel, rfl, by decide +kernel, by decide +kernel⟩
abbrev s_Town_come_all : Stmt := inClass (top 36) 3
abbrev N_Town_come_all : List Str := ["self", "way", "post", "frame"]
theorem sc_Town_come_all : FnScope N_Town_come_all ["self", "way"] (defScope s_Town_come_all) := ⟨rfl, rfl, rfl, by decide +kernel, rfl, by decide +kernel, by decide +kernel⟩
abbrev s_Town_make_all_safe : Stmt := inClass (top 36) 4
abbrev N_Town_make_all_safe : List Str := ["self", "station", "post"]
theorem sc_Town_make_all_safe : FnScope N_Town_make_all_safe ["self"] (defScope s_Town_make_all_safe) := ⟨rfl, rfl, rfl, by decide +kernel, rfl, by decide +kernel, by decide +kernel⟩
abbrev s_Town_tick_post : Stmt := inClass (top 36) 5
abbrev N_Town_tick_post : List Str := ["self", "post"]
theorem sc_Town_tick_post : FnScope N_Town_tick_post ["self", "post"] (defScope s_Town_tick_post) := ⟨rfl, rfl, rfl, by decide +kernel, rfl, by decide +kernel, by decide +kernel⟩
abbrev s_Town_calm_day : Stmt := inClass (top 36) 6
abbrev N_Town_calm_day : List Str := ["self", "post"]
theorem sc_Town_calm_day : FnScope N_Town_calm_day ["self"] (defScope s_Town_calm_day) := ⟨rfl, rfl, rfl, by decide +kernel, rfl, by decide +kernel, by decide +kernel⟩
abbrev s_papers_of : Stmt := top 37
abbrev N_papers_of : List Str := ["town", "found", "number", "post", "record"]
theorem sc_papers_of : FnScope N_papers_of ["town"] (defScope s_papers_of) := ⟨rfl, rfl, rfl, by decide +kernel, rfl, by decide +kernel, by decide +kernel⟩
abbrev s_Desk_init : Stmt := inClass (top 42) 0
abbrev N_Desk_init : List Str := ["self"]
theorem sc_Desk_init : FnScope N_Desk_init ["self"] (defScope s_Desk_init) := ⟨rfl, rfl, rfl, by decide +kernel, rfl, by decide +kernel, by decide +kernel⟩
abbrev s_demand_post : Stmt := top 43
abbrev N_demand_post : List Str := ["desk", "post"]
theorem sc_demand_post : FnScope N_demand_post ["desk", "post"] (defScope s_demand_post) := ⟨rfl, rfl, rfl, by decide +kernel, rfl, by decide +kernel, by decide +kernel⟩
abbrev s_station_of : Stmt := top 44
abbrev N_station_of : List Str := ["desk", "number"]
theorem sc_station_of : FnScope N_station_of ["desk", "number"] (defScope s_station_of) := ⟨rfl, rfl, rfl, by decide +kernel, rfl, by decide +kernel, by decide +kernel⟩
abbrev s_counted : Stmt := top 45
abbrev N_counted : List Str := ["rows", "found", "row"]
theorem sc_counted : FnScope N_counted ["rows"] (defScope s_counted) := ⟨rfl, rfl, rfl, by decide +kernel, rfl, by decide +kernel, by decide +kernel⟩
abbrev s_house : Stmt := top 46
abbrev N_house : List Str := ["desk", "numbers"]
theorem sc_house : FnScope N_house ["desk", "numbers"] (defScope s_house) := ⟨rfl, rfl, rfl, by decide +kernel, rfl, by decide +kernel, by decide +kernel⟩
abbrev s_want : Stmt := top 47
abbrev N_want : List Str := ["desk", "numbers", "number", "book", "days", "post"]
theorem sc_want : FnScope N_want ["desk", "numbers"] (defScope s_want) := ⟨rfl, rfl, rfl, by decide +kernel, rfl, by decide +kernel, by decide +kernel⟩
abbrev s_tick_deeds : Stmt := top 48
abbrev N_tick_deeds : List Str := ["desk", "numbers", "many", "post"]
theorem sc_tick_deeds : FnScope N_tick_deeds ["desk", "numbers"] (defScope s_tick_deeds) := ⟨rfl, rfl, rfl, by decide +kernel, rfl, by decide +kernel, by decide +kernel⟩
abbrev s_safe : Stmt := top 50
abbrev N_safe : List Str := ["desk", "numbers", "station"]
theorem sc_safe : FnScope N_safe ["desk", "numbers"] (defScope s_safe) := ⟨rfl, rfl, rfl, by decide +kernel, rfl, by decide +kernel, by decide +kernel⟩
abbrev s_frame_wire : Stmt := top 51
abbrev N_frame_wire : List Str := ["desk", "numbers", "way", "post", "place", "wire"]
theorem sc_frame_wire : FnScope N_frame_wire ["desk", "numbers"] (defScope s_frame_wire) := ⟨rfl, rfl, rfl, by decide +kernel, rfl, by decide +kernel, by decide +kernel⟩
abbrev s_deliver : Stmt := top 52
abbrev N_deliver : List Str := ["desk", "numbers", "frame"]
theorem sc_deliver : FnScope N_deliver ["desk", "numbers"] (defScope s_deliver) := ⟨rfl, rfl, rfl, by decide +kernel, rfl, by decide +kernel, by decide +kernel⟩
abbrev s_lose : Stmt := top 53
abbrev N_lose : List Str := ["desk", "numbers", "wire"]
theorem sc_lose : FnScope N_lose ["desk", "numbers"] (defScope s_lose) := ⟨rfl, rfl, rfl, by decide +kernel, rfl, by decide +kernel, by decide +kernel⟩
abbrev s_double : Stmt := top 54
abbrev N_double : List Str := ["desk", "numbers", "wire"]
theorem sc_double : FnScope N_double ["desk", "numbers"] (defScope s_double) := ⟨rfl, rfl, rfl, by decide +kernel, rfl, by decide +kernel, by decide +kernel⟩
abbrev s_cut : Stmt := top 55
abbrev N_cut : List Str := ["desk", "numbers", "station"]
theorem sc_cut : FnScope N_cut ["desk", "numbers"] (defScope s_cut) := ⟨rfl, rfl, rfl, by decide +kernel, rfl, by decide +kernel, by decide +kernel⟩
abbrev s_day : Stmt := top 56
abbrev N_day : List Str := ["desk", "numbers"]
theorem sc_day : FnScope N_day ["desk", "numbers"] (defScope s_day) := ⟨rfl, rfl, rfl, by decide +kernel, rfl, by decide +kernel, by decide +kernel⟩
abbrev s_calm : Stmt := top 57
abbrev N_calm : List Str := ["desk", "numbers", "turn"]
theorem sc_calm : FnScope N_calm ["desk", "numbers"] (defScope s_calm) := ⟨rfl, rfl, rfl, by decide +kernel, rfl, by decide +kernel, by decide +kernel⟩
abbrev s_papers : Stmt := top 58
abbrev N_papers : List Str := ["desk", "numbers"]
theorem sc_papers : FnScope N_papers ["desk", "numbers"] (defScope s_papers) := ⟨rfl, rfl, rfl, by decide +kernel, rfl, by decide +kernel, by decide +kernel⟩
abbrev s_good : Stmt := top 59
abbrev N_good : List Str := ["desk", "numbers", "found", "post", "book", "first", "last"]
theorem sc_good : FnScope N_good ["desk", "numbers"] (defScope s_good) := ⟨rfl, rfl, rfl, by decide +kernel, rfl, by decide +kernel, by decide +kernel⟩
abbrev s_leases : Stmt := top 60
abbrev N_leases : List Str := ["desk", "numbers", "home", "found", "number", "row", "lease", "is_sure"]
theorem sc_leases : FnScope N_leases ["desk", "numbers"] (defScope s_leases) := ⟨rfl, rfl, rfl, by decide +kernel, rfl, by decide +kernel, by decide +kernel⟩
abbrev s_told_records : Stmt := top 61
abbrev N_told_records : List Str := ["station", "told"]
theorem sc_told_records : FnScope N_told_records ["station"] (defScope s_told_records) := ⟨rfl, rfl, rfl, by decide +kernel, rfl, by decide +kernel, by decide +kernel⟩
abbrev s_asked_home : Stmt := top 62
abbrev N_asked_home : List Str := ["desk", "numbers"]
theorem sc_asked_home : FnScope N_asked_home ["desk", "numbers"] (defScope s_asked_home) := ⟨rfl, rfl, rfl, by decide +kernel, rfl, by decide +kernel, by decide +kernel⟩
abbrev s_asked_post : Stmt := top 63
abbrev N_asked_post : List Str := ["desk", "numbers", "post", "known"]
theorem sc_asked_post : FnScope N_asked_post ["desk", "numbers"] (defScope s_asked_post) := ⟨rfl, rfl, rfl, by decide +kernel, rfl, by decide +kernel, by decide +kernel⟩
abbrev s_row : Stmt := top 64
abbrev N_row : List Str := ["desk", "numbers"]
theorem sc_row : FnScope N_row ["desk", "numbers"] (defScope s_row) := ⟨rfl, rfl, rfl, by decide +kernel, rfl, by decide +kernel, by decide +kernel⟩
abbrev s_now : Stmt := top 65
abbrev N_now : List Str := ["desk", "numbers"]
theorem sc_now : FnScope N_now ["desk", "numbers"] (defScope s_now) := ⟨rfl, rfl, rfl, by decide +kernel, rfl, by decide +kernel, by decide +kernel⟩
abbrev s_answer : Stmt := top 69
abbrev N_answer : List Str := ["desk", "call", "numbers", "deed", "e"]
theorem sc_answer : FnScope N_answer ["desk", "call", "numbers"] (defScope s_answer) := ⟨rfl, rfl, rfl, by decide +kernel, rfl, by decide +kernel, by decide +kernel⟩
abbrev s_answers : Stmt := top 70
abbrev N_answers : List Str := ["calls", "desk", "place", "found", "call", "behind", "told"]
theorem sc_answers : FnScope N_answers ["calls"] (defScope s_answers) := ⟨rfl, rfl, rfl, by decide +kernel, rfl, by decide +kernel, by decide +kernel⟩

/-! ### 2. rows of ints, labels, what changes -/
abbrev Row := List Int
abbrev tupO (r : Row) : HO := .tup (r.map V.int)
abbrev TupsAt (H : Hp) : List Addr → List Row → Prop := Paired fun t r => H t = some (tupO r)
def RowsAt (H : Hp) (a : Addr) (rows : List Row) : Prop := ∃ ts : List Addr, H a = some (.lst (ts.map V.ref)) ∧ TupsAt H ts rows
abbrev Lab := Addr → Nat
/-- from (l, H) to (l', H'): what is tracked and bears no label of L stands; labels stand; tuples stand -/
structure Ch (L : Nat → Prop) (l : Lab) (H : Hp) (l' : Lab) (H' : Hp) : Prop where
  keep : ∀ b o, H b = some o → ¬ L (l b) → H' b = some o
  lab : ∀ b o, H b = some o → l' b = l b
  tups : ∀ b xs, H b = some (.tup xs) → H' b = some (.tup xs)
  there : ∀ b o, H b = some o → ∃ o', H' b = some o'
theorem Ch.refl {L : Nat → Prop} {l : Lab} {H : Hp} : Ch L l H l H := ⟨fun _ _ h _ => h, fun _ _ _ => rfl, fun _ _ h => h, fun _ o h => ⟨o, h⟩⟩
theorem Ch.trans {L : Nat → Prop} {l l1 l2 : Lab} {H H1 H2 : Hp} (a : Ch L l H l1 H1) (b : Ch L l1 H1 l2 H2) : Ch L l H l2 H2 where
  keep := fun c o h n => b.keep c o (a.keep c o h n) (by rw [a.lab c o h]; exact n)
  lab := fun c o h => by
    obtain ⟨o', h'⟩ := a.there c o h
    exact (b.lab c o' h').trans (a.lab c o h)
  tups := fun c xs h => b.tups c xs (a.tups c xs h)
  there := fun c o h => by
    obtain ⟨o', h'⟩ := a.there c o h
    exact b.there c o' h'
theorem Ch.mono {L L' : Nat → Prop} {l l' : Lab} {H H' : Hp} (a : Ch L l H l' H') (h : ∀ n, L n → L' n) : Ch L' l H l' H' :=
  ⟨fun b o e n => a.keep b o e fun z => n (h _ z), a.lab, a.tups, a.there⟩
theorem Ch.of_same {L : Nat → Prop} {l : Lab} {H H' : Hp} (s : Same H H') : Ch L l H l H' := ⟨fun b o h _ => s b o h, fun _ _ _ => rfl, fun b xs h => s b _ h, fun b o h => ⟨o, s b o h⟩⟩
/-- a new label for one address -/
def setL (l : Lab) (a : Addr) (k : Nat) : Lab := fun b => if b = a then k else l b
theorem setL_same {l : Lab} {a : Addr} {k : Nat} : setL l a k a = k := if_pos rfl
theorem setL_ne {l : Lab} {a b : Addr} {k : Nat} (h : b ≠ a) : setL l a k b = l b := if_neg h
theorem Ch.new {L : Nat → Prop} {l : Lab} {H : Hp} {p : Addr} {o : HO} {k : Nat} (h : H p = none) : Ch L l H (setL l p k) (upd H p o) where
  keep := fun b u e _ => by rw [upd_ne (ne_of_none e h)]; exact e
  lab := fun b u e => setL_ne (ne_of_none e h)
  tups := fun b u e => by rw [upd_ne (ne_of_none e h)]; exact e
  there := fun b u e => ⟨u, by rw [upd_ne (ne_of_none e h)]; exact e⟩
theorem Ch.upd {L : Nat → Prop} {l : Lab} {H : Hp} {p : Addr} {o u : HO} (h : H p = some u) (nt : ∀ xs, u ≠ .tup xs) (hl : L (l p)) : Ch L l H l (upd H p o) where
  keep := fun b v e n => by
    have : b ≠ p := fun z => n (by rw [z]; exact hl)
    rw [upd_ne this]; exact e
  lab := fun _ _ _ => rfl
  tups := fun b xs e => by
    have : b ≠ p := fun z => by
      rw [z, h] at e
      exact nt xs (Option.some.inj e)
    rw [upd_ne this]; exact e
  there := fun b v e => by
    by_cases hb : b = p
    · exact ⟨o, by rw [hb, upd_same]⟩
    · exact ⟨v, by rw [upd_ne hb]; exact e⟩
theorem Same.upd_new {H : Hp} {p : Addr} {o : HO} (h : H p = none) : Same H (upd H p o) := fun b u e => by
  rw [upd_ne (ne_of_none e h)]; exact e

theorem TupsAt.mono {H H' : Hp} (h : ∀ b xs, H b = some (.tup xs) → H' b = some (.tup xs)) {ts : List Addr} {rows : List Row} (r : TupsAt H ts rows) : TupsAt H' ts rows := Paired.mapP r fun t _ e => h t _ e
theorem RowsAt.same {H H' : Hp} {a : Addr} {rows : List Row} (r : RowsAt H a rows) (s : Same H H') : RowsAt H' a rows := by
  obtain ⟨ts, h1, h2⟩ := r
  exact ⟨ts, s _ _ h1, TupsAt.mono (fun b xs e => s _ _ e) h2⟩
theorem RowsAt.keep {L : Nat → Prop} {l l' : Lab} {H H' : Hp} {a : Addr} {rows : List Row} (r : RowsAt H a rows) (c : Ch L l H l' H') (n : ¬ L (l a)) : RowsAt H' a rows := by
  obtain ⟨ts, h1, h2⟩ := r
  exact ⟨ts, c.keep _ _ h1 n, TupsAt.mono c.tups h2⟩
theorem RowsAt.there {H : Hp} {a : Addr} {rows : List Row} (r : RowsAt H a rows) : ∃ ts : List Addr, H a = some (.lst (ts.map V.ref)) := by
  obtain ⟨ts, h1, _⟩ := r
  exact ⟨ts, h1⟩

/-- pairs by place -/
theorem pairedAt {α β : Type} {F : α → β → Prop} : ∀ {xs : List α} {ys : List β}, Paired F xs ys → ∀ {i : Nat} {x : α}, xs[i]? = some x → ∃ y, ys[i]? = some y ∧ F x y
  | _, _, .nil, i, x, h => by simp at h
  | _, _, .cons e r, 0, x, h => by
    cases h
    exact ⟨_, rfl, e⟩
  | _, _, .cons e r, i + 1, x, h => pairedAt r (i := i) (x := x) h
theorem pairedAt2 {α β : Type} {F : α → β → Prop} : ∀ {xs : List α} {ys : List β}, Paired F xs ys → ∀ {i : Nat} {y : β}, ys[i]? = some y → ∃ x, xs[i]? = some x ∧ F x y
  | _, _, .nil, i, x, h => by simp at h
  | _, _, .cons e r, 0, x, h => by
    cases h
    exact ⟨_, rfl, e⟩
  | _, _, .cons e r, i + 1, x, h => pairedAt2 r (i := i) (y := x) h
theorem paired_app {α β : Type} {F : α → β → Prop} : ∀ {xs xs' : List α} {ys ys' : List β}, Paired F xs ys → Paired F xs' ys' → Paired F (xs ++ xs') (ys ++ ys')
  | _, _, _, _, .nil, h => h
  | _, _, _, _, .cons e r, h => .cons e (paired_app r h)
theorem paired_take {α β : Type} {F : α → β → Prop} : ∀ {xs : List α} {ys : List β} (n : Nat), Paired F xs ys → Paired F (xs.take n) (ys.take n)
  | _, _, 0, _ => by simp only [List.take_zero]; exact .nil
  | _, _, n + 1, .nil => by simp only [List.take_nil]; exact .nil
  | _, _, n + 1, .cons e r => .cons e (paired_take n r)
theorem paired_drop {α β : Type} {F : α → β → Prop} : ∀ {xs : List α} {ys : List β} (n : Nat), Paired F xs ys → Paired F (xs.drop n) (ys.drop n)
  | _, _, 0, h => h
  | _, _, n + 1, .nil => by simp only [List.drop_nil]; exact .nil
  | _, _, n + 1, .cons e r => paired_drop n r
/-- the item of a list of refs -/
theorem refs_at {ts : List Addr} {i : Nat} {y : V} (h : (ts.map V.ref)[i]? = some y) : ∃ t, ts[i]? = some t ∧ y = .ref t := by
  rw [List.getElem?_map] at h
  cases e : ts[i]? with
  | none => rw [e] at h; cases h
  | some t => rw [e] at h; exact ⟨t, rfl, (Option.some.inj h).symm⟩
theorem ints_at {ns : List Int} {i : Nat} {y : V} (h : (ns.map V.int)[i]? = some y) : ∃ t, ns[i]? = some t ∧ y = .int t := by
  rw [List.getElem?_map] at h
  cases e : ns[i]? with
  | none => rw [e] at h; cases h
  | some t => rw [e] at h; exact ⟨t, rfl, (Option.some.inj h).symm⟩
/-- an item of a row that is written -/
theorem rix {r : Row} {i : Int} {j : Nat} {v : Int} (e : i = (j : Int)) (h : r[j]? = some v) : atI (r.map V.int) i = some (.int v) := at_of e (by rw [List.getElem?_map, h] <;> rfl)
theorem take_succ_at {α : Type} : ∀ {l : List α} {i : Nat} {x : α}, l[i]? = some x → l.take (i + 1) = l.take i ++ [x]
  | [], i, x, h => by simp at h
  | a :: l, 0, x, h => by
    have e : a = x := Option.some.inj h
    subst e
    rfl
  | a :: l, i + 1, x, h => by
    have ih := take_succ_at (l := l) (i := i) (x := x) h
    show a :: l.take (i + 1) = a :: l.take i ++ [x]
    rw [ih]
    rfl
theorem lt_at {α : Type} {l : List α} {i : Nat} {x : α} (h : l[i]? = some x) : i < l.length := (List.getElem?_eq_some_iff.mp h).1

/-! ### slices -/
theorem cut_to {xs : List V} {k : Nat} : cutV xs none (some (k : Int)) = xs.take k := by
  unfold cutV
  rw [HT.sIx_none, HT.sIx_nat, List.drop_zero, Nat.sub_zero]
  by_cases h : k ≤ xs.length
  · rw [Nat.min_eq_left h]
  · rw [Nat.min_eq_right (by omega), List.take_of_length_le (by omega), List.take_of_length_le (by omega)]
theorem cut_from {xs : List V} {k : Nat} : cutV xs (some (k : Int)) none = xs.drop k := by
  unfold cutV
  rw [HT.sIx_none, HT.sIx_nat]
  by_cases h : k ≤ xs.length
  · rw [Nat.min_eq_left h, List.take_of_length_le (by rw [List.length_drop]; omega)]
  · rw [Nat.min_eq_right (by omega), List.drop_of_length_le (by omega), List.drop_of_length_le (by omega), List.take_nil]
theorem cut_mid {xs : List V} {i j : Nat} : cutV xs (some (i : Int)) (some (j : Int)) = (xs.drop i).take (j - i) := by
  unfold cutV
  rw [HT.sIx_nat, HT.sIx_nat]
  by_cases h : i ≤ xs.length
  · rw [Nat.min_eq_left h]
    by_cases h2 : j ≤ xs.length
    · rw [Nat.min_eq_left h2]
    · rw [Nat.min_eq_right (by omega), List.take_of_length_le (by rw [List.length_drop]; omega), List.take_of_length_le (by rw [List.length_drop]; omega)]
  · have e : min i xs.length = xs.length := Nat.min_eq_right (by omega)
    rw [e, List.drop_of_length_le (Nat.le_refl _), List.drop_of_length_le (by omega), List.take_nil, List.take_nil]

/-! ### 3. classes, fields -/
structure Ad where
  R : Addr
  S : Addr
  H : Addr
  P : Addr
  W : Addr
  T : Addr
  D : Addr
theorem lk_here {k : Str} {v : V} {r : List (Str × V)} : List.lookup k ((k, v) :: r) = some v := by
  have e : (k == k) = true := beq_self_eq_true k
  simp only [List.lookup, e]
theorem lk_past {k g : Str} {v : V} {r : List (Str × V)} (h : (k == g) = false) : List.lookup k ((g, v) :: r) = List.lookup k r := by
  simp only [List.lookup, h]
theorem put_here {f : Str} {v x : V} {r : List (Str × V)} : putF f v ((f, x) :: r) = (f, v) :: r := if_pos rfl
theorem put_past {f g : Str} {v x : V} {r : List (Str × V)} (h : ¬ g = f) : putF f v ((g, x) :: r) = (g, x) :: putF f v r := if_neg h

/-- the fields of a Station -/
abbrev stF (r : Addr) (n : Int) : List (Str × V) := [(("records" : Str), V.ref r), (("sure" : Str), V.int n)]
theorem st_records {r : Addr} {n : Int} : (stF r n).lookup ("records" : Str) = some (V.ref r) := lk_here
theorem st_put_records {r : Addr} {n : Int} {r' : Addr} : putF "records" (V.ref r') (stF r n) = stF r' n := put_here
theorem st_sure {r : Addr} {n : Int} : (stF r n).lookup ("sure" : Str) = some (V.int n) := (lk_past (by decide +kernel)).trans (lk_here)
theorem st_put_sure {r : Addr} {n : Int} {n' : Int} : putF "sure" (V.int n') (stF r n) = stF r n' := (put_past (by decide +kernel)).trans (congrArg _ (put_here))
theorem st_no_has_room {r : Addr} {n : Int} : (stF r n).lookup ("has_room" : Str) = none := (lk_past (by decide +kernel)).trans ((lk_past (by decide +kernel)).trans (rfl))
theorem st_no_record {r : Addr} {n : Int} : (stF r n).lookup ("record" : Str) = none := (lk_past (by decide +kernel)).trans ((lk_past (by decide +kernel)).trans (rfl))
theorem st_no_make_safe {r : Addr} {n : Int} : (stF r n).lookup ("make_safe" : Str) = none := (lk_past (by decide +kernel)).trans ((lk_past (by decide +kernel)).trans (rfl))
theorem st_no_lose_unsafe {r : Addr} {n : Int} : (stF r n).lookup ("lose_unsafe" : Str) = none := (lk_past (by decide +kernel)).trans ((lk_past (by decide +kernel)).trans (rfl))
theorem st_no_safe_records {r : Addr} {n : Int} : (stF r n).lookup ("safe_records" : Str) = none := (lk_past (by decide +kernel)).trans ((lk_past (by decide +kernel)).trans (rfl))
theorem st_mk_records {r : Addr} : putF "records" (V.ref r) ([] : List (Str × V)) = ([(("records" : Str), V.ref r)] : List (Str × V)) := rfl
theorem st_mk_sure {r : Addr} {n : Int} : putF "sure" (V.int n) ([(("records" : Str), V.ref r)] : List (Str × V)) = ([(("records" : Str), V.ref r), (("sure" : Str), V.int n)] : List (Str × V)) := (put_past (by decide +kernel)).trans (congrArg _ (rfl))
/-- the fields of a Home -/
abbrev hoF (s : Addr) : List (Str × V) := [(("station" : Str), V.ref s)]
theorem ho_station {s : Addr} : (hoF s).lookup ("station" : Str) = some (V.ref s) := lk_here
theorem ho_put_station {s : Addr} {s' : Addr} : putF "station" (V.ref s') (hoF s) = hoF s' := put_here
theorem ho_no_all_leases {s : Addr} : (hoF s).lookup ("all_leases" : Str) = none := (lk_past (by decide +kernel)).trans (rfl)
theorem ho_no_ended_at {s : Addr} : (hoF s).lookup ("ended_at" : Str) = none := (lk_past (by decide +kernel)).trans (rfl)
theorem ho_mk_station {s : Addr} : putF "station" (V.ref s) ([] : List (Str × V)) = ([(("station" : Str), V.ref s)] : List (Str × V)) := rfl
/-- the fields of a Post -/
abbrev poF (s : Addr) (e : Addr) (a : Addr) (h : Addr) : List (Str × V) := [(("station" : Str), V.ref s), (("leases" : Str), V.ref e), (("wants" : Str), V.ref a), (("heard" : Str), V.ref h)]
theorem po_station {s : Addr} {e : Addr} {a : Addr} {h : Addr} : (poF s e a h).lookup ("station" : Str) = some (V.ref s) := lk_here
theorem po_put_station {s : Addr} {e : Addr} {a : Addr} {h : Addr} {s' : Addr} : putF "station" (V.ref s') (poF s e a h) = poF s' e a h := put_here
theorem po_leases {s : Addr} {e : Addr} {a : Addr} {h : Addr} : (poF s e a h).lookup ("leases" : Str) = some (V.ref e) := (lk_past (by decide +kernel)).trans (lk_here)
theorem po_put_leases {s : Addr} {e : Addr} {a : Addr} {h : Addr} {e' : Addr} : putF "leases" (V.ref e') (poF s e a h) = poF s e' a h := (put_past (by decide +kernel)).trans (congrArg _ (put_here))
theorem po_wants {s : Addr} {e : Addr} {a : Addr} {h : Addr} : (poF s e a h).lookup ("wants" : Str) = some (V.ref a) := (lk_past (by decide +kernel)).trans ((lk_past (by decide +kernel)).trans (lk_here))
theorem po_put_wants {s : Addr} {e : Addr} {a : Addr} {h : Addr} {a' : Addr} : putF "wants" (V.ref a') (poF s e a h) = poF s e a' h := (put_past (by decide +kernel)).trans (congrArg _ ((put_past (by decide +kernel)).trans (congrArg _ (put_here))))
theorem po_heard {s : Addr} {e : Addr} {a : Addr} {h : Addr} : (poF s e a h).lookup ("heard" : Str) = some (V.ref h) := (lk_past (by decide +kernel)).trans ((lk_past (by decide +kernel)).trans ((lk_past (by decide +kernel)).trans (lk_here)))
theorem po_put_heard {s : Addr} {e : Addr} {a : Addr} {h : Addr} {h' : Addr} : putF "heard" (V.ref h') (poF s e a h) = poF s e a h' := (put_past (by decide +kernel)).trans (congrArg _ ((put_past (by decide +kernel)).trans (congrArg _ ((put_past (by decide +kernel)).trans (congrArg _ (put_here))))))
theorem po_no_forget {s : Addr} {e : Addr} {a : Addr} {h : Addr} : (poF s e a h).lookup ("forget" : Str) = none := (lk_past (by decide +kernel)).trans ((lk_past (by decide +kernel)).trans ((lk_past (by decide +kernel)).trans ((lk_past (by decide +kernel)).trans (rfl))))
theorem po_no_grants {s : Addr} {e : Addr} {a : Addr} {h : Addr} : (poF s e a h).lookup ("grants" : Str) = none := (lk_past (by decide +kernel)).trans ((lk_past (by decide +kernel)).trans ((lk_past (by decide +kernel)).trans ((lk_past (by decide +kernel)).trans (rfl))))
theorem po_no_has_back {s : Addr} {e : Addr} {a : Addr} {h : Addr} : (poF s e a h).lookup ("has_back" : Str) = none := (lk_past (by decide +kernel)).trans ((lk_past (by decide +kernel)).trans ((lk_past (by decide +kernel)).trans ((lk_past (by decide +kernel)).trans (rfl))))
theorem po_no_learn {s : Addr} {e : Addr} {a : Addr} {h : Addr} : (poF s e a h).lookup ("learn" : Str) = none := (lk_past (by decide +kernel)).trans ((lk_past (by decide +kernel)).trans ((lk_past (by decide +kernel)).trans ((lk_past (by decide +kernel)).trans (rfl))))
theorem po_mk_station {s : Addr} : putF "station" (V.ref s) ([] : List (Str × V)) = ([(("station" : Str), V.ref s)] : List (Str × V)) := rfl
theorem po_mk_leases {s : Addr} {e : Addr} : putF "leases" (V.ref e) ([(("station" : Str), V.ref s)] : List (Str × V)) = ([(("station" : Str), V.ref s), (("leases" : Str), V.ref e)] : List (Str × V)) := (put_past (by decide +kernel)).trans (congrArg _ (rfl))
theorem po_mk_wants {s : Addr} {e : Addr} {a : Addr} : putF "wants" (V.ref a) ([(("station" : Str), V.ref s), (("leases" : Str), V.ref e)] : List (Str × V)) = ([(("station" : Str), V.ref s), (("leases" : Str), V.ref e), (("wants" : Str), V.ref a)] : List (Str × V)) := (put_past (by decide +kernel)).trans (congrArg _ ((put_past (by decide +kernel)).trans (congrArg _ (rfl))))
theorem po_mk_heard {s : Addr} {e : Addr} {a : Addr} {h : Addr} : putF "heard" (V.ref h) ([(("station" : Str), V.ref s), (("leases" : Str), V.ref e), (("wants" : Str), V.ref a)] : List (Str × V)) = ([(("station" : Str), V.ref s), (("leases" : Str), V.ref e), (("wants" : Str), V.ref a), (("heard" : Str), V.ref h)] : List (Str × V)) := (put_past (by decide +kernel)).trans (congrArg _ ((put_past (by decide +kernel)).trans (congrArg _ ((put_past (by decide +kernel)).trans (congrArg _ (rfl))))))
/-- the fields of a Wire -/
abbrev wiF (f : Addr) : List (Str × V) := [(("frames" : Str), V.ref f)]
theorem wi_frames {f : Addr} : (wiF f).lookup ("frames" : Str) = some (V.ref f) := lk_here
theorem wi_put_frames {f : Addr} {f' : Addr} : putF "frames" (V.ref f') (wiF f) = wiF f' := put_here
theorem wi_no_send {f : Addr} : (wiF f).lookup ("send" : Str) = none := (lk_past (by decide +kernel)).trans (rfl)
theorem wi_no_has {f : Addr} : (wiF f).lookup ("has" : Str) = none := (lk_past (by decide +kernel)).trans (rfl)
theorem wi_no_take {f : Addr} : (wiF f).lookup ("take" : Str) = none := (lk_past (by decide +kernel)).trans (rfl)
theorem wi_no_is_full {f : Addr} : (wiF f).lookup ("is_full" : Str) = none := (lk_past (by decide +kernel)).trans (rfl)
theorem wi_no_twice {f : Addr} : (wiF f).lookup ("twice" : Str) = none := (lk_past (by decide +kernel)).trans (rfl)
theorem wi_no_take_all {f : Addr} : (wiF f).lookup ("take_all" : Str) = none := (lk_past (by decide +kernel)).trans (rfl)
theorem wi_mk_frames {f : Addr} : putF "frames" (V.ref f) ([] : List (Str × V)) = ([(("frames" : Str), V.ref f)] : List (Str × V)) := rfl
/-- the fields of a Town -/
abbrev toF (h : Addr) (p : Addr) (u : Addr) (d : Addr) (w : Int) (y : Int) : List (Str × V) := [(("home" : Str), V.ref h), (("posts" : Str), V.ref p), (("to_home" : Str), V.ref u), (("to_post" : Str), V.ref d), (("length" : Str), V.int w), (("today" : Str), V.int y)]
theorem to_home {h : Addr} {p : Addr} {u : Addr} {d : Addr} {w : Int} {y : Int} : (toF h p u d w y).lookup ("home" : Str) = some (V.ref h) := lk_here
theorem to_put_home {h : Addr} {p : Addr} {u : Addr} {d : Addr} {w : Int} {y : Int} {h' : Addr} : putF "home" (V.ref h') (toF h p u d w y) = toF h' p u d w y := put_here
theorem to_posts {h : Addr} {p : Addr} {u : Addr} {d : Addr} {w : Int} {y : Int} : (toF h p u d w y).lookup ("posts" : Str) = some (V.ref p) := (lk_past (by decide +kernel)).trans (lk_here)
theorem to_put_posts {h : Addr} {p : Addr} {u : Addr} {d : Addr} {w : Int} {y : Int} {p' : Addr} : putF "posts" (V.ref p') (toF h p u d w y) = toF h p' u d w y := (put_past (by decide +kernel)).trans (congrArg _ (put_here))
theorem to_to_home {h : Addr} {p : Addr} {u : Addr} {d : Addr} {w : Int} {y : Int} : (toF h p u d w y).lookup ("to_home" : Str) = some (V.ref u) := (lk_past (by decide +kernel)).trans ((lk_past (by decide +kernel)).trans (lk_here))
theorem to_put_to_home {h : Addr} {p : Addr} {u : Addr} {d : Addr} {w : Int} {y : Int} {u' : Addr} : putF "to_home" (V.ref u') (toF h p u d w y) = toF h p u' d w y := (put_past (by decide +kernel)).trans (congrArg _ ((put_past (by decide +kernel)).trans (congrArg _ (put_here))))
theorem to_to_post {h : Addr} {p : Addr} {u : Addr} {d : Addr} {w : Int} {y : Int} : (toF h p u d w y).lookup ("to_post" : Str) = some (V.ref d) := (lk_past (by decide +kernel)).trans ((lk_past (by decide +kernel)).trans ((lk_past (by decide +kernel)).trans (lk_here)))
theorem to_put_to_post {h : Addr} {p : Addr} {u : Addr} {d : Addr} {w : Int} {y : Int} {d' : Addr} : putF "to_post" (V.ref d') (toF h p u d w y) = toF h p u d' w y := (put_past (by decide +kernel)).trans (congrArg _ ((put_past (by decide +kernel)).trans (congrArg _ ((put_past (by decide +kernel)).trans (congrArg _ (put_here))))))
theorem to_length {h : Addr} {p : Addr} {u : Addr} {d : Addr} {w : Int} {y : Int} : (toF h p u d w y).lookup ("length" : Str) = some (V.int w) := (lk_past (by decide +kernel)).trans ((lk_past (by decide +kernel)).trans ((lk_past (by decide +kernel)).trans ((lk_past (by decide +kernel)).trans (lk_here))))
theorem to_put_length {h : Addr} {p : Addr} {u : Addr} {d : Addr} {w : Int} {y : Int} {w' : Int} : putF "length" (V.int w') (toF h p u d w y) = toF h p u d w' y := (put_past (by decide +kernel)).trans (congrArg _ ((put_past (by decide +kernel)).trans (congrArg _ ((put_past (by decide +kernel)).trans (congrArg _ ((put_past (by decide +kernel)).trans (congrArg _ (put_here))))))))
theorem to_today {h : Addr} {p : Addr} {u : Addr} {d : Addr} {w : Int} {y : Int} : (toF h p u d w y).lookup ("today" : Str) = some (V.int y) := (lk_past (by decide +kernel)).trans ((lk_past (by decide +kernel)).trans ((lk_past (by decide +kernel)).trans ((lk_past (by decide +kernel)).trans ((lk_past (by decide +kernel)).trans (lk_here)))))
theorem to_put_today {h : Addr} {p : Addr} {u : Addr} {d : Addr} {w : Int} {y : Int} {y' : Int} : putF "today" (V.int y') (toF h p u d w y) = toF h p u d w y' := (put_past (by decide +kernel)).trans (congrArg _ ((put_past (by decide +kernel)).trans (congrArg _ ((put_past (by decide +kernel)).trans (congrArg _ ((put_past (by decide +kernel)).trans (congrArg _ ((put_past (by decide +kernel)).trans (congrArg _ (put_here))))))))))
theorem to_no_wire {h : Addr} {p : Addr} {u : Addr} {d : Addr} {w : Int} {y : Int} : (toF h p u d w y).lookup ("wire" : Str) = none := (lk_past (by decide +kernel)).trans ((lk_past (by decide +kernel)).trans ((lk_past (by decide +kernel)).trans ((lk_past (by decide +kernel)).trans ((lk_past (by decide +kernel)).trans ((lk_past (by decide +kernel)).trans (rfl))))))
theorem to_no_come {h : Addr} {p : Addr} {u : Addr} {d : Addr} {w : Int} {y : Int} : (toF h p u d w y).lookup ("come" : Str) = none := (lk_past (by decide +kernel)).trans ((lk_past (by decide +kernel)).trans ((lk_past (by decide +kernel)).trans ((lk_past (by decide +kernel)).trans ((lk_past (by decide +kernel)).trans ((lk_past (by decide +kernel)).trans (rfl))))))
theorem to_no_come_all {h : Addr} {p : Addr} {u : Addr} {d : Addr} {w : Int} {y : Int} : (toF h p u d w y).lookup ("come_all" : Str) = none := (lk_past (by decide +kernel)).trans ((lk_past (by decide +kernel)).trans ((lk_past (by decide +kernel)).trans ((lk_past (by decide +kernel)).trans ((lk_past (by decide +kernel)).trans ((lk_past (by decide +kernel)).trans (rfl))))))
theorem to_no_make_all_safe {h : Addr} {p : Addr} {u : Addr} {d : Addr} {w : Int} {y : Int} : (toF h p u d w y).lookup ("make_all_safe" : Str) = none := (lk_past (by decide +kernel)).trans ((lk_past (by decide +kernel)).trans ((lk_past (by decide +kernel)).trans ((lk_past (by decide +kernel)).trans ((lk_past (by decide +kernel)).trans ((lk_past (by decide +kernel)).trans (rfl))))))
theorem to_no_tick_post {h : Addr} {p : Addr} {u : Addr} {d : Addr} {w : Int} {y : Int} : (toF h p u d w y).lookup ("tick_post" : Str) = none := (lk_past (by decide +kernel)).trans ((lk_past (by decide +kernel)).trans ((lk_past (by decide +kernel)).trans ((lk_past (by decide +kernel)).trans ((lk_past (by decide +kernel)).trans ((lk_past (by decide +kernel)).trans (rfl))))))
theorem to_no_calm_day {h : Addr} {p : Addr} {u : Addr} {d : Addr} {w : Int} {y : Int} : (toF h p u d w y).lookup ("calm_day" : Str) = none := (lk_past (by decide +kernel)).trans ((lk_past (by decide +kernel)).trans ((lk_past (by decide +kernel)).trans ((lk_past (by decide +kernel)).trans ((lk_past (by decide +kernel)).trans ((lk_past (by decide +kernel)).trans (rfl))))))
theorem to_mk_home {h : Addr} : putF "home" (V.ref h) ([] : List (Str × V)) = ([(("home" : Str), V.ref h)] : List (Str × V)) := rfl
theorem to_mk_posts {h : Addr} {p : Addr} : putF "posts" (V.ref p) ([(("home" : Str), V.ref h)] : List (Str × V)) = ([(("home" : Str), V.ref h), (("posts" : Str), V.ref p)] : List (Str × V)) := (put_past (by decide +kernel)).trans (congrArg _ (rfl))
theorem to_mk_to_home {h : Addr} {p : Addr} {u : Addr} : putF "to_home" (V.ref u) ([(("home" : Str), V.ref h), (("posts" : Str), V.ref p)] : List (Str × V)) = ([(("home" : Str), V.ref h), (("posts" : Str), V.ref p), (("to_home" : Str), V.ref u)] : List (Str × V)) := (put_past (by decide +kernel)).trans (congrArg _ ((put_past (by decide +kernel)).trans (congrArg _ (rfl))))
theorem to_mk_to_post {h : Addr} {p : Addr} {u : Addr} {d : Addr} : putF "to_post" (V.ref d) ([(("home" : Str), V.ref h), (("posts" : Str), V.ref p), (("to_home" : Str), V.ref u)] : List (Str × V)) = ([(("home" : Str), V.ref h), (("posts" : Str), V.ref p), (("to_home" : Str), V.ref u), (("to_post" : Str), V.ref d)] : List (Str × V)) := (put_past (by decide +kernel)).trans (congrArg _ ((put_past (by decide +kernel)).trans (congrArg _ ((put_past (by decide +kernel)).trans (congrArg _ (rfl))))))
theorem to_mk_length {h : Addr} {p : Addr} {u : Addr} {d : Addr} {w : Int} : putF "length" (V.int w) ([(("home" : Str), V.ref h), (("posts" : Str), V.ref p), (("to_home" : Str), V.ref u), (("to_post" : Str), V.ref d)] : List (Str × V)) = ([(("home" : Str), V.ref h), (("posts" : Str), V.ref p), (("to_home" : Str), V.ref u), (("to_post" : Str), V.ref d), (("length" : Str), V.int w)] : List (Str × V)) := (put_past (by decide +kernel)).trans (congrArg _ ((put_past (by decide +kernel)).trans (congrArg _ ((put_past (by decide +kernel)).trans (congrArg _ ((put_past (by decide +kernel)).trans (congrArg _ (rfl))))))))
theorem to_mk_today {h : Addr} {p : Addr} {u : Addr} {d : Addr} {w : Int} {y : Int} : putF "today" (V.int y) ([(("home" : Str), V.ref h), (("posts" : Str), V.ref p), (("to_home" : Str), V.ref u), (("to_post" : Str), V.ref d), (("length" : Str), V.int w)] : List (Str × V)) = ([(("home" : Str), V.ref h), (("posts" : Str), V.ref p), (("to_home" : Str), V.ref u), (("to_post" : Str), V.ref d), (("length" : Str), V.int w), (("today" : Str), V.int y)] : List (Str × V)) := (put_past (by decide +kernel)).trans (congrArg _ ((put_past (by decide +kernel)).trans (congrArg _ ((put_past (by decide +kernel)).trans (congrArg _ ((put_past (by decide +kernel)).trans (congrArg _ ((put_past (by decide +kernel)).trans (congrArg _ (rfl))))))))))
/-- the fields of a Desk -/
abbrev deF (t : Addr) : List (Str × V) := [(("town" : Str), V.ref t)]
theorem de_town {t : Addr} : (deF t).lookup ("town" : Str) = some (V.ref t) := lk_here
theorem de_put_town {t : Addr} {t' : Addr} : putF "town" (V.ref t') (deF t) = deF t' := put_here
theorem de_mk_town {t : Addr} : putF "town" (V.ref t) ([] : List (Str × V)) = ([(("town" : Str), V.ref t)] : List (Str × V)) := rfl
/-- what the top has written of the classes and constants -/
structure Txt (K : PySem.W.Frag) (mg : Str → Option Value) (c : Ad) (fI : Addr) : Prop where
  clS : Cls K c.S
  clH : Cls K c.H
  clP : Cls K c.P
  clW : Cls K c.W
  clT : Cls K c.T
  clD : Cls K c.D
  nS_records : NoAttr K c.S "records"
  nS_sure : NoAttr K c.S "sure"
  nH_station : NoAttr K c.H "station"
  nP_station : NoAttr K c.P "station"
  nP_leases : NoAttr K c.P "leases"
  nP_wants : NoAttr K c.P "wants"
  nP_heard : NoAttr K c.P "heard"
  nW_frames : NoAttr K c.W "frames"
  nT_home : NoAttr K c.T "home"
  nT_posts : NoAttr K c.T "posts"
  nT_to_home : NoAttr K c.T "to_home"
  nT_to_post : NoAttr K c.T "to_post"
  nT_length : NoAttr K c.T "length"
  nT_today : NoAttr K c.T "today"
  nD_town : NoAttr K c.D "town"
  i_MOST_RECORDS : ∃ t, mg "MOST_RECORDS" = some (.int 80 t)
  i_LEASE_homes : ∃ t, mg "LEASE_homes" = some (.int 0 t)
  i_ENDED : ∃ t, mg "ENDED" = some (.int 1 t)
  i_ASK_homes : ∃ t, mg "ASK_homes" = some (.int 0 t)
  i_HEARD : ∃ t, mg "HEARD" = some (.int 1 t)
  i_GRANT : ∃ t, mg "GRANT" = some (.int 0 t)
  i_BACK : ∃ t, mg "BACK" = some (.int 1 t)
  i_ASK_posts : ∃ t, mg "ASK_posts" = some (.int 0 t)
  i_LEASE_posts : ∃ t, mg "LEASE_posts" = some (.int 0 t)
  i_MOST_FRAMES : ∃ t, mg "MOST_FRAMES" = some (.int 8 t)
  i_MOST_WANTS : ∃ t, mg "MOST_WANTS" = some (.int 6 t)
  i_LAST_DAY : ∃ t, mg "LAST_DAY" = some (.int 900 t)
  i_HOME : ∃ t, mg "HOME" = some (.int 3 t)
  z_len : mg "len" = none
  z_max : mg "max" = none
  z_min : mg "min" = none
  z_any : mg "any" = none
  z_all : mg "all" = none
  z_enumerate : mg "enumerate" = none
  z_range : mg "range" = none
  z_list : mg "list" = none
  low : PySem.LowX.LowTxt K mg c.R fI
/-- a def of the module that keeps a promise -/
structure FG (P : Program) (w : World) (K : PySem.W.Frag) (mg : Str → Option Value) (base : Heap) (CX : CXT) (k : Nat) (x : Str) (ps : List Str) (sp : Sp) (f : Addr) (fd : FuncData) : Prop where
  g : mg x = some (.ref f)
  kp : PySem.W.keepIn K (.ref f) = true
  ok : FnOk P w K mg base CX k f fd ps sp
  b : Binds K fd ps []
/-- a method -/
structure MG (P : Program) (w : World) (K : PySem.W.Frag) (mg : Str → Option Value) (base : Heap) (C : Addr) (k : Nat) (x : Str) (ps : List Str) (sp : Sp) (f : Addr) (fd : FuncData) : Prop where
  m : Meth K C x f
  ok : FnOk P w K mg base CX0 k f fd ps sp
  b : Binds K fd ps []
/-- a class with its __init__ -/
structure CG (P : Program) (w : World) (K : PySem.W.Frag) (mg : Str → Option Value) (base : Heap) (C : Addr) (x : Str) (k : Nat) (ps : List Str) (sp : Sp) (f : Addr) (fd : FuncData) : Prop where
  mk_ : Mk K C f
  g : mg x = some (.ref C)
  ok : FnOk P w K mg base CX0 k f fd ps sp
  b : Binds K fd ps []
end Pp

set_option Elab.async false
set_option linter.all false
set_option maxRecDepth 100000
set_option maxHeartbeats 2000000
namespace Pp
open PySem PySem.Spec PyProof.Rows L2
/-! ### 4. a station -/
def StAt (c : Ad) (H : Hp) (l : Lab) (k : Nat) (s : Addr) (rows : List Row) (sure : Nat) : Prop :=
  ∃ dx r, H s = some (.ins c.S dx (stF r (sure : Int))) ∧ RowsAt H r rows ∧ l s = k ∧ l r = k
/-- all but s stands, labels too -/
def NwB (s : Addr) (l : Lab) (H : Hp) (l' : Lab) (H' : Hp) : Prop := ∀ b o, H b = some o → b ≠ s → H' b = some o ∧ l' b = l b
theorem StAt.keep {c : Ad} {L : Nat → Prop} {l l' : Lab} {H H' : Hp} {k : Nat} {s : Addr} {rows : List Row} {sure : Nat} (a : StAt c H l k s rows sure) (ch : Ch L l H l' H') (n : ¬ L k) : StAt c H' l' k s rows sure := by
  obtain ⟨dx, r, h1, h2, h3, h4⟩ := a
  have ⟨ts, ht⟩ := h2.there
  exact ⟨dx, r, ch.keep _ _ h1 (by rw [h3]; exact n), h2.keep ch (by rw [h4]; exact n), (ch.lab _ _ h1).trans h3, (ch.lab _ _ ht).trans h4⟩
theorem StAt.same {c : Ad} {l : Lab} {H H' : Hp} {k : Nat} {s : Addr} {rows : List Row} {sure : Nat} (a : StAt c H l k s rows sure) (sm : Same H H') : StAt c H' l k s rows sure :=
  a.keep (Ch.of_same (L := fun _ => False) sm) id
def spStInit (c : Ad) : Sp := fun vs H Q _ => ∃ (s dx : Addr) (l : Lab) (k : Nat), vs = [.ref s] ∧ H s = some (.ins c.S dx []) ∧ ∀ H' l', StAt c H' l' k s [] 0 → NwB s l H l' H' → Q .non H'
def spHasRoom (c : Ad) : Sp := fun vs H Q _ => ∃ (s : Addr) (l : Lab) (k : Nat) (rows : List Row) (sure : Nat), vs = [.ref s] ∧ StAt c H l k s rows sure ∧ Q (.bl (decide (rows.length < 80))) H
def spRecord (c : Ad) : Sp := fun vs H Q _ => ∃ (s t : Addr) (l : Lab) (k : Nat) (rows : List Row) (sure : Nat) (row : Row), vs = [.ref s, .ref t] ∧ StAt c H l k s rows sure ∧ H t = some (tupO row) ∧ rows.length ≤ 1000 ∧
  ∀ H' l', StAt c H' l' k s (rows ++ [row]) sure → Ch (· = k) l H l' H' → Q .non H'
def spMakeSafe (c : Ad) : Sp := fun vs H Q _ => ∃ (s : Addr) (l : Lab) (k : Nat) (rows : List Row) (sure many : Nat), vs = [.ref s, .int many] ∧ StAt c H l k s rows sure ∧
  ∀ H' l', StAt c H' l' k s rows (max sure (min many rows.length)) → Ch (· = k) l H l' H' → Q .non H'
def spLose (c : Ad) : Sp := fun vs H Q _ => ∃ (s : Addr) (l : Lab) (k : Nat) (rows : List Row) (sure : Nat), vs = [.ref s] ∧ StAt c H l k s rows sure ∧
  ∀ H' l', StAt c H' l' k s (rows.take sure) sure → Ch (· = k) l H l' H' → Q .non H'
def spSafeRecs (c : Ad) : Sp := fun vs H Q _ => ∃ (s : Addr) (l : Lab) (k : Nat) (rows : List Row) (sure : Nat), vs = [.ref s] ∧ StAt c H l k s rows sure ∧
  ∀ H' p, Same H H' → H p = none → RowsAt H' p (rows.take sure) → Q (.ref p) H'
section
variable {P : Program} {w : World} {K : PySem.W.Frag} {mg : Str → Option Value} {base : Heap} {c : Ad} {fI : Addr}
theorem ok_Station_init (T : Txt K mg c fI) {f : Addr} {fd : FuncData} (F : Fun K "__init__" "Station.__init__" s_Station_init f fd) : FnOk P w K mg base CX0 1 f fd ["self"] (spStInit c) := by
  refine F.ok sc_Station_init (fun vs H Q E h => ?_) (fun cdv A outer s H vs Q E hr h => ?_)
  · obtain ⟨s, dx, l, k, rfl, _⟩ := h
    rfl
  · obtain ⟨s, dx, l, k, rfl, hs, q⟩ := h
    refine ⟨_, (pss_cons (ps_fld (pv 0) (pe_lst pa_nil) rfl)
        (pss_one (ps_fld (pv 0) pe_int rfl))), ?_⟩
    refine ⟨Nat.zero_le _, fun r hr => ?_⟩
    have nsr : s ≠ r := ne_of_none hs hr
    refine ⟨_, rfl, s, c.S, dx, [], rfl, (by rw [upd_ne nsr]; exact hs), T.clS, T.nS_records, (by show 0 < 1000; decide), _, rfl, s, c.S, dx, _, rfl, upd_same, T.clS, T.nS_sure, (by show 1 < 1000; decide), ?_⟩
    rw [st_mk_records, st_mk_sure]
    refine q _ (setL (setL l r k) s k) ⟨dx, r, upd_same, ⟨[], ?_, .nil⟩, setL_same, ?_⟩ fun b o e n => ⟨?_, ?_⟩
    · rw [upd_ne nsr.symm, upd_ne nsr.symm, upd_same] <;> rfl
    · rw [setL_ne nsr.symm, setL_same]
    · rw [upd_ne n, upd_ne n, upd_ne (ne_of_none e hr)]; exact e
    · rw [setL_ne n, setL_ne (ne_of_none e hr)]
theorem ok_Station_has_room (T : Txt K mg c fI) {f : Addr} {fd : FuncData} (F : Fun K "has_room" "Station.has_room" s_Station_has_room f fd) : FnOk P w K mg base CX0 1 f fd ["self"] (spHasRoom c) := by
  refine F.ok sc_Station_has_room (fun vs H Q E h => ?_) (fun cdv A outer s H vs Q E hr h => ?_)
  · obtain ⟨s, l, k, rows, sure, rfl, _⟩ := h
    rfl
  · obtain ⟨s, l, k, rows, sure, rfl, ⟨dx, r, hs, ⟨ts, ht, hp⟩, _, _⟩, q⟩ := h
    refine ⟨_, (pss_one (ps_ret (pe_cmpR op_lt (pe_callB (call_len_seq) (by rfl) T.z_len PySem.boot_len (pa_cons (pe_fld (pv 0) rfl) pa_nil)) (pe_gint rfl T.i_MOST_RECORDS) (nomark _)))), ?_⟩
    refine ⟨_, rfl, s, c.S, dx, _, _, rfl, hs, T.clS, T.nS_records, st_records, r, _, rfl, .inl (SqL.of ht), _, _, rfl, rfl, ?_⟩
    rw [List.length_map, hp.length]
    have e : decide (((rows.length : Nat) : Int) < 80) = decide (rows.length < 80) := by
      apply decide_eq_decide.mpr
      omega
    show Q (.bl (decide (((rows.length : Nat) : Int) < 80))) H
    rw [e]
    exact q
theorem ok_Station_record (T : Txt K mg c fI) {f : Addr} {fd : FuncData} (F : Fun K "record" "Station.record" s_Station_record f fd) : FnOk P w K mg base CX0 1 f fd ["self", "row"] (spRecord c) := by
  refine F.ok sc_Station_record (fun vs H Q E h => ?_) (fun cdv A outer s H vs Q E hr h => ?_)
  · obtain ⟨s, t, l, k, rows, sure, row, rfl, _⟩ := h
    rfl
  · obtain ⟨s, t, l, k, rows, sure, row, rfl, ⟨dx, r, hs, ⟨ts, ht, hp⟩, l1, l2⟩, hrow, hlen, q⟩ := h
    refine ⟨_, (pss_one (ps_expr (pe_bm PySem.F.plainAttrs_list PySem.F.slot_list_append PySem.F.type_list_append mt_append (pe_fld (pv 0) rfl) (pa_cons (pv 1) pa_nil)))), ?_⟩
    have nsr : s ≠ r := ne_of hs ht (by intro z; cases z)
    have ch : Ch (· = k) l H l (upd H r (.lst (ts.map V.ref ++ [.ref t]))) := Ch.upd ht (by intro xs z; cases z) l2
    refine ⟨_, rfl, s, c.S, dx, _, _, rfl, hs, T.clS, T.nS_records, st_records, .inl ⟨rfl, _, SqL.of ht⟩, _, rfl, r, _, _, rfl, rfl, ht, small1000 (by rw [List.length_map, hp.length]; exact hlen), ?_⟩
    refine q _ l ⟨dx, r, ?_, ⟨ts ++ [t], ?_, ?_⟩, l1, l2⟩ ch
    · rw [upd_ne nsr]; exact hs
    · rw [upd_same, List.map_append] <;> rfl
    · exact paired_app (TupsAt.mono ch.tups hp) (.cons (ch.tups _ _ hrow) .nil)
theorem ok_Station_make_safe (T : Txt K mg c fI) {f : Addr} {fd : FuncData} (F : Fun K "make_safe" "Station.make_safe" s_Station_make_safe f fd) : FnOk P w K mg base CX0 1 f fd ["self", "many"] (spMakeSafe c) := by
  refine F.ok sc_Station_make_safe (fun vs H Q E h => ?_) (fun cdv A outer s H vs Q E hr h => ?_)
  · obtain ⟨s, l, k, rows, sure, many, rfl, _⟩ := h
    rfl
  · obtain ⟨s, l, k, rows, sure, many, rfl, ⟨dx, r, hs, ⟨ts, ht, hp⟩, l1, l2⟩, q⟩ := h
    refine ⟨_, (pss_one (ps_fld (pv 0) (pe_callB (call_max2 rfl) (by rfl) T.z_max (by decide +kernel) (pa_cons (pe_fld (pv 0) rfl) (pa_cons (pe_callB (call_min2 rfl) (by rfl) T.z_min (by decide +kernel) (pa_cons (pv 1) (pa_cons (pe_callB (call_len_seq) (by rfl) T.z_len PySem.boot_len (pa_cons (pe_fld (pv 0) rfl) pa_nil)) pa_nil))) pa_nil))) rfl)), ?_⟩
    have nsr : s ≠ r := ne_of hs ht (by intro z; cases z)
    refine ⟨_, rfl, s, c.S, dx, _, _, rfl, hs, T.clS, T.nS_sure, st_sure, _, rfl, _, rfl, s, c.S, dx, _, _, rfl, hs, T.clS, T.nS_records, st_records, r, _, rfl, .inl (SqL.of ht), _, _, rfl, _, _, rfl, _, rfl, s, c.S, dx, _, rfl, hs, T.clS, T.nS_sure, (by show 2 < 1000; decide), ?_⟩
    rw [List.length_map, hp.length, st_put_sure]
    have e : (if (if ((rows.length : Nat) : Int) < (many : Int) then ((rows.length : Nat) : Int) else (many : Int)) > (sure : Int) then (if ((rows.length : Nat) : Int) < (many : Int) then ((rows.length : Nat) : Int) else (many : Int)) else (sure : Int)) = ((max sure (min many rows.length) : Nat) : Int) := by
      split <;> split at * <;> omega
    have ch : Ch (· = k) l H l (upd H s (.ins c.S dx (stF r ((max sure (min many rows.length) : Nat) : Int)))) := Ch.upd hs (by intro xs z; cases z) l1
    show Q .non (upd H s (.ins c.S dx (stF r (if (if ((rows.length : Nat) : Int) < (many : Int) then ((rows.length : Nat) : Int) else (many : Int)) > (sure : Int) then (if ((rows.length : Nat) : Int) < (many : Int) then ((rows.length : Nat) : Int) else (many : Int)) else (sure : Int)))))
    rw [e]
    refine q _ l ⟨dx, r, upd_same, ⟨ts, ?_, TupsAt.mono ch.tups hp⟩, l1, l2⟩ ch
    rw [upd_ne nsr.symm]; exact ht
theorem ok_Station_lose_unsafe (T : Txt K mg c fI) {f : Addr} {fd : FuncData} (F : Fun K "lose_unsafe" "Station.lose_unsafe" s_Station_lose_unsafe f fd) : FnOk P w K mg base CX0 1 f fd ["self"] (spLose c) := by
  refine F.ok sc_Station_lose_unsafe (fun vs H Q E h => ?_) (fun cdv A outer s H vs Q E hr h => ?_)
  · obtain ⟨s, l, k, rows, sure, rfl, _⟩ := h
    rfl
  · obtain ⟨s, l, k, rows, sure, rfl, ⟨dx, r, hs, ⟨ts, ht, hp⟩, l1, l2⟩, q⟩ := h
    refine ⟨_, (pss_one (ps_fld (pv 0) (pe_slice sl_list (pe_fld (pv 0) rfl) po_none (po_some (pe_fld (pv 0) rfl))) rfl)), ?_⟩
    refine ⟨_, rfl, s, c.S, dx, _, _, rfl, hs, T.clS, T.nS_records, st_records, _, rfl, s, c.S, dx, _, _, rfl, hs, T.clS, T.nS_sure, st_sure, _, rfl, r, _, rfl, SqL.of ht, fun p hp' => ?_⟩
    have nsp : s ≠ p := ne_of_none hs hp'
    have hs' : upd H p (.lst (cutV (ts.map V.ref) none (some (sure : Int)))) s = some (.ins c.S dx (stF r (sure : Int))) := by rw [upd_ne nsp]; exact hs
    refine ⟨_, rfl, s, c.S, dx, _, rfl, hs', T.clS, T.nS_records, (by show 2 < 1000; decide), ?_⟩
    rw [st_put_records]
    have ch : Ch (· = k) l H (setL l p k) _ := (Ch.new (l := l) (k := k) (o := .lst (cutV (ts.map V.ref) none (some (sure : Int)))) hp').trans (Ch.upd (o := .ins c.S dx (stF p (sure : Int))) hs' (by intro xs z; cases z) (by rw [setL_ne nsp]; exact l1))
    refine q _ _ ⟨dx, p, upd_same, ⟨ts.take sure, ?_, ?_⟩, ?_, setL_same⟩ ch
    · rw [upd_ne nsp.symm, upd_same, cut_to, List.map_take]
    · exact paired_take sure (TupsAt.mono ch.tups hp)
    · rw [setL_ne nsp]; exact l1
theorem ok_Station_safe_records (T : Txt K mg c fI) {f : Addr} {fd : FuncData} (F : Fun K "safe_records" "Station.safe_records" s_Station_safe_records f fd) : FnOk P w K mg base CX0 1 f fd ["self"] (spSafeRecs c) := by
  refine F.ok sc_Station_safe_records (fun vs H Q E h => ?_) (fun cdv A outer s H vs Q E hr h => ?_)
  · obtain ⟨s, l, k, rows, sure, rfl, _⟩ := h
    rfl
  · obtain ⟨s, l, k, rows, sure, rfl, ⟨dx, r, hs, ⟨ts, ht, hp⟩, l1, l2⟩, q⟩ := h
    refine ⟨_, (pss_one (ps_ret (pe_slice sl_list (pe_fld (pv 0) rfl) po_none (po_some (pe_fld (pv 0) rfl))))), ?_⟩
    refine ⟨_, rfl, s, c.S, dx, _, _, rfl, hs, T.clS, T.nS_records, st_records, _, rfl, s, c.S, dx, _, _, rfl, hs, T.clS, T.nS_sure, st_sure, _, rfl, r, _, rfl, SqL.of ht, fun p hp' => ?_⟩
    have sm := Same.upd_new (o := .lst (cutV (ts.map V.ref) none (some (sure : Int)))) hp'
    refine q _ p sm hp' ⟨ts.take sure, ?_, ?_⟩
    · rw [upd_same, cut_to, List.map_take]
    · exact paired_take sure (TupsAt.mono (fun b xs e => sm _ _ e) hp)
end
end Pp

set_option Elab.async false
set_option linter.all false
set_option maxRecDepth 100000
set_option maxHeartbeats 2000000
namespace Pp
open PySem PySem.Spec PyProof.Rows L2
/-! ### 5. a wire -/
def WireAt (c : Ad) (H : Hp) (l : Lab) (k : Nat) (s : Addr) (rows : List Row) : Prop :=
  ∃ dx r, H s = some (.ins c.W dx (wiF r)) ∧ RowsAt H r rows ∧ l s = k ∧ l r = k
theorem WireAt.keep {c : Ad} {L : Nat → Prop} {l l' : Lab} {H H' : Hp} {k : Nat} {s : Addr} {rows : List Row} (a : WireAt c H l k s rows) (ch : Ch L l H l' H') (n : ¬ L k) : WireAt c H' l' k s rows := by
  obtain ⟨dx, r, h1, h2, h3, h4⟩ := a
  have ⟨ts, ht⟩ := h2.there
  exact ⟨dx, r, ch.keep _ _ h1 (by rw [h3]; exact n), h2.keep ch (by rw [h4]; exact n), (ch.lab _ _ h1).trans h3, (ch.lab _ _ ht).trans h4⟩
theorem WireAt.same {c : Ad} {l : Lab} {H H' : Hp} {k : Nat} {s : Addr} {rows : List Row} (a : WireAt c H l k s rows) (sm : Same H H') : WireAt c H' l k s rows :=
  a.keep (Ch.of_same (L := fun _ => False) sm) id
def spWiInit (c : Ad) : Sp := fun vs H Q _ => ∃ (s dx : Addr) (l : Lab) (k : Nat), vs = [.ref s] ∧ H s = some (.ins c.W dx []) ∧ ∀ H' l', WireAt c H' l' k s [] → NwB s l H l' H' → Q .non H'
def spSend (c : Ad) : Sp := fun vs H Q _ => ∃ (s t : Addr) (l : Lab) (k : Nat) (rows : List Row) (row : Row), vs = [.ref s, .ref t] ∧ WireAt c H l k s rows ∧ H t = some (tupO row) ∧
  ∀ H' l', WireAt c H' l' k s (Vbkoah.sendTo row rows) → Ch (· = k) l H l' H' → Q .non H'
def spHas (c : Ad) : Sp := fun vs H Q _ => ∃ (s : Addr) (l : Lab) (k : Nat) (rows : List Row) (i : Int), vs = [.ref s, .int i] ∧ WireAt c H l k s rows ∧ Q (.bl (decide (i < rows.length))) H
def spTake (c : Ad) : Sp := fun vs H Q _ => ∃ (s : Addr) (l : Lab) (k : Nat) (rows : List Row) (i : Nat) (row : Row), vs = [.ref s, .int i] ∧ WireAt c H l k s rows ∧ rows[i]? = some row ∧ rows.length ≤ 1000 ∧
  ∀ H' l' t, H' t = some (tupO row) → WireAt c H' l' k s (rows.eraseIdx i) → Ch (· = k) l H l' H' → Q (.ref t) H'
def spFull (c : Ad) : Sp := fun vs H Q _ => ∃ (s : Addr) (l : Lab) (k : Nat) (rows : List Row), vs = [.ref s] ∧ WireAt c H l k s rows ∧ Q (.bl (decide (8 ≤ rows.length))) H
def spTwice (c : Ad) : Sp := fun vs H Q _ => ∃ (s : Addr) (l : Lab) (k : Nat) (rows : List Row) (i : Nat), vs = [.ref s, .int i] ∧ WireAt c H l k s rows ∧ rows.length ≤ 900 ∧
  ∀ H' l', WireAt c H' l' k s (rows.take (i + 1) ++ rows.drop i) → Ch (· = k) l H l' H' → Q .non H'
def spTakeAll (c : Ad) : Sp := fun vs H Q _ => ∃ (s : Addr) (l : Lab) (k : Nat) (rows : List Row), vs = [.ref s] ∧ WireAt c H l k s rows ∧
  ∀ H' l' p, RowsAt H' p rows → l' p = k → WireAt c H' l' k s [] → Ch (· = k) l H l' H' → Q (.ref p) H'
theorem cut_from1 {xs : List V} {k : Nat} : cutV xs (some ((k : Int) + 1)) none = xs.drop (k + 1) := cut_from (xs := xs) (k := k + 1)
theorem cut_to1 {xs : List V} {k : Nat} : cutV xs none (some ((k : Int) + 1)) = xs.take (k + 1) := cut_to (xs := xs) (k := k + 1)
/-- an instance's field that holds a list is set to a new list -/
theorem ch_two {k : Nat} {l : Lab} {H : Hp} {p s : Addr} {o u v : HO} (hp : H p = none) (hs : H s = some u) (nt : ∀ xs, u ≠ .tup xs) (ls : l s = k) : Ch (· = k) l H (setL l p k) (upd (upd H p o) s v) :=
  (Ch.new hp).trans (Ch.upd (by rw [upd_ne (ne_of_none hs hp)]; exact hs) nt (by rw [setL_ne (ne_of_none hs hp)]; exact ls))
section
variable {P : Program} {w : World} {K : PySem.W.Frag} {mg : Str → Option Value} {base : Heap} {c : Ad} {fI : Addr}
theorem ok_Wire_init (T : Txt K mg c fI) {f : Addr} {fd : FuncData} (F : Fun K "__init__" "Wire.__init__" s_Wire_init f fd) : FnOk P w K mg base CX0 1 f fd ["self"] (spWiInit c) := by
  refine F.ok sc_Wire_init (fun vs H Q E h => ?_) (fun cdv A outer s H vs Q E hr h => ?_)
  · obtain ⟨s, dx, l, k, rfl, _⟩ := h
    rfl
  · obtain ⟨s, dx, l, k, rfl, hs, q⟩ := h
    refine ⟨_, (pss_one (ps_fld (pv 0) (pe_lst pa_nil) rfl)), ?_⟩
    refine ⟨Nat.zero_le _, fun r hr => ?_⟩
    have nsr : s ≠ r := ne_of_none hs hr
    refine ⟨_, rfl, s, c.W, dx, [], rfl, (by rw [upd_ne nsr]; exact hs), T.clW, T.nW_frames, (by show 0 < 1000; decide), ?_⟩
    rw [wi_mk_frames]
    refine q _ (setL (setL l r k) s k) ⟨dx, r, upd_same, ⟨[], ?_, .nil⟩, setL_same, ?_⟩ fun b o e n => ⟨?_, ?_⟩
    · rw [upd_ne nsr.symm, upd_same] <;> rfl
    · rw [setL_ne nsr.symm, setL_same]
    · rw [upd_ne n, upd_ne (ne_of_none e hr)]; exact e
    · rw [setL_ne n, setL_ne (ne_of_none e hr)]
theorem ok_Wire_send (T : Txt K mg c fI) {f : Addr} {fd : FuncData} (F : Fun K "send" "Wire.send" s_Wire_send f fd) : FnOk P w K mg base CX0 1 f fd ["self", "frame"] (spSend c) := by
  refine F.ok sc_Wire_send (fun vs H Q E h => ?_) (fun cdv A outer s H vs Q E hr h => ?_)
  · obtain ⟨s, t, l, k, rows, row, rfl, _⟩ := h
    rfl
  · obtain ⟨s, t, l, k, rows, row, rfl, ⟨dx, r, hs, ⟨ts, ht, hp⟩, l1, l2⟩, hrow, q⟩ := h
    refine ⟨_, (pss_one (ps_if (pt_cmpR op_lt (pe_callB (call_len_seq) (by rfl) T.z_len PySem.boot_len (pa_cons (pe_fld (pv 0) rfl) pa_nil)) (pe_gint rfl T.i_MOST_FRAMES) (nomark _))
        (pss_one (ps_expr (pe_bm PySem.F.plainAttrs_list PySem.F.slot_list_append PySem.F.type_list_append mt_append (pe_fld (pv 0) rfl) (pa_cons (pv 1) pa_nil))))
        pss_nil)), ?_⟩
    have nsr : s ≠ r := ne_of hs ht (by intro z; cases z)
    refine ⟨_, rfl, s, c.W, dx, _, _, rfl, hs, T.clW, T.nW_frames, wi_frames, r, _, rfl, .inl (SqL.of ht), _, _, rfl, rfl, _, rfl, ?_⟩
    rw [List.length_map, hp.length]
    refine ite2 (fun hlt => ?_) (fun hlt => ?_)
    · have hlt' : ((rows.length : Nat) : Int) < 8 := of_decide_eq_true hlt
      have ch : Ch (· = k) l H l (upd H r (.lst (ts.map V.ref ++ [.ref t]))) := Ch.upd ht (by intro xs z; cases z) l2
      refine ⟨_, rfl, s, c.W, dx, _, _, rfl, hs, T.clW, T.nW_frames, wi_frames, .inl ⟨rfl, _, SqL.of ht⟩, _, rfl, r, _, _, rfl, rfl, ht, small1000 (by rw [List.length_map, hp.length]; omega), ?_⟩
      have e : Vbkoah.sendTo row rows = rows ++ [row] := if_neg (show ¬ 8 ≤ rows.length by omega)
      refine q _ l ?_ ch
      rw [e]
      refine ⟨dx, r, ?_, ⟨ts ++ [t], ?_, ?_⟩, l1, l2⟩
      · rw [upd_ne nsr]; exact hs
      · rw [upd_same, List.map_append] <;> rfl
      · exact paired_app (TupsAt.mono ch.tups hp) (.cons (ch.tups _ _ hrow) .nil)
    · have hlt' : ¬ ((rows.length : Nat) : Int) < 8 := fun z => hlt (decide_eq_true z)
      have e : Vbkoah.sendTo row rows = rows := if_pos (show 8 ≤ rows.length by omega)
      refine q _ l ?_ Ch.refl
      rw [e]
      exact ⟨dx, r, hs, ⟨ts, ht, hp⟩, l1, l2⟩
theorem ok_Wire_has (T : Txt K mg c fI) {f : Addr} {fd : FuncData} (F : Fun K "has" "Wire.has" s_Wire_has f fd) : FnOk P w K mg base CX0 1 f fd ["self", "place"] (spHas c) := by
  refine F.ok sc_Wire_has (fun vs H Q E h => ?_) (fun cdv A outer s H vs Q E hr h => ?_)
  · obtain ⟨s, l, k, rows, i, rfl, _⟩ := h
    rfl
  · obtain ⟨s, l, k, rows, i, rfl, ⟨dx, r, hs, ⟨ts, ht, hp⟩, l1, l2⟩, q⟩ := h
    refine ⟨_, (pss_one (ps_ret (pe_cmpR op_lt (pv 1) (pe_callB (call_len_seq) (by rfl) T.z_len PySem.boot_len (pa_cons (pe_fld (pv 0) rfl) pa_nil)) (nomark _)))), ?_⟩
    refine ⟨_, rfl, _, rfl, s, c.W, dx, _, _, rfl, hs, T.clW, T.nW_frames, wi_frames, r, _, rfl, .inl (SqL.of ht), _, _, rfl, rfl, ?_⟩
    rw [List.length_map, hp.length]
    exact q
theorem ok_Wire_is_full (T : Txt K mg c fI) {f : Addr} {fd : FuncData} (F : Fun K "is_full" "Wire.is_full" s_Wire_is_full f fd) : FnOk P w K mg base CX0 1 f fd ["self"] (spFull c) := by
  refine F.ok sc_Wire_is_full (fun vs H Q E h => ?_) (fun cdv A outer s H vs Q E hr h => ?_)
  · obtain ⟨s, l, k, rows, rfl, _⟩ := h
    rfl
  · obtain ⟨s, l, k, rows, rfl, ⟨dx, r, hs, ⟨ts, ht, hp⟩, l1, l2⟩, q⟩ := h
    refine ⟨_, (pss_one (ps_ret (pe_cmpR op_ge (pe_callB (call_len_seq) (by rfl) T.z_len PySem.boot_len (pa_cons (pe_fld (pv 0) rfl) pa_nil)) (pe_gint rfl T.i_MOST_FRAMES) (nomark _)))), ?_⟩
    refine ⟨_, rfl, s, c.W, dx, _, _, rfl, hs, T.clW, T.nW_frames, wi_frames, r, _, rfl, .inl (SqL.of ht), _, _, rfl, rfl, ?_⟩
    rw [List.length_map, hp.length]
    have e : decide ((8 : Int) ≤ ((rows.length : Nat) : Int)) = decide (8 ≤ rows.length) := by
      apply decide_eq_decide.mpr
      omega
    show Q (.bl (decide ((8 : Int) ≤ ((rows.length : Nat) : Int)))) H
    rw [e]
    exact q
theorem ok_Wire_take (T : Txt K mg c fI) {f : Addr} {fd : FuncData} (F : Fun K "take" "Wire.take" s_Wire_take f fd) : FnOk P w K mg base CX0 1 f fd ["self", "place"] (spTake c) := by
  refine F.ok sc_Wire_take (fun vs H Q E h => ?_) (fun cdv A outer s H vs Q E hr h => ?_)
  · obtain ⟨s, l, k, rows, i, row, rfl, _⟩ := h
    rfl
  · obtain ⟨s, l, k, rows, i, row, rfl, ⟨dx, r, hs, ⟨ts, ht, hp⟩, l1, l2⟩, hi, hlen, q⟩ := h
    obtain ⟨t, hti, hrow⟩ := pairedAt2 hp hi
    have tlen : ts.length ≤ 1000 := by rw [hp.length]; exact hlen
    refine ⟨_, (pss_cons (ps_set (i := 2) sc_Wire_take.nd rfl (Or.inl rfl) (pe_ix ix_list (pe_fld (pv 0) rfl) (pv 1) (fun _ _ => rfl)))
        (pss_cons (ps_fld (pv 0) (pe_op op_cat (pe_slice sl_list (pe_fld (pv 0) rfl) po_none (po_some (pv 1))) (pe_slice sl_list (pe_fld (pv 0) rfl) (po_some (pe_op op_add (pv 1) pe_int)) po_none)) rfl)
        (pss_one (ps_ret (pv 2))))), ?_⟩
    refine ⟨_, rfl, s, c.W, dx, _, _, rfl, hs, T.clW, T.nW_frames, wi_frames, _, rfl, r, _, _, _, rfl, rfl, SqL.of ht, atI_nat (by rw [List.getElem?_map, hti] <;> rfl), ?_⟩
    refine ⟨_, rfl, s, c.W, dx, _, _, rfl, hs, T.clW, T.nW_frames, wi_frames, _, rfl, _, rfl, r, _, rfl, SqL.of ht, fun p1 hp1 => ?_⟩
    have n1 : r ≠ p1 := ne_of_none ht hp1
    have ns1 : s ≠ p1 := ne_of_none hs hp1
    refine ⟨_, rfl, s, c.W, dx, _, _, rfl, (by rw [upd_ne ns1]; exact hs), T.clW, T.nW_frames, wi_frames, _, rfl, _, _, rfl, rfl, _, rfl, r, _, rfl, SqL.of (by rw [upd_ne n1]; exact ht), fun p2 hp2 => ?_⟩
    have n12 : p1 ≠ p2 := ne_of_none upd_same hp2
    have hp2' : H p2 = none := by
      rw [upd_ne n12.symm] at hp2; exact hp2
    refine ⟨p1, p2, _, _, rfl, rfl, (by rw [upd_ne n12, upd_same]), upd_same, ?_, fun p3 hp3 => ?_⟩
    · rw [cut_to, cut_from1]
      refine Nat.le_of_lt (small1000 ?_)
      rw [List.length_take, List.length_drop, List.length_map]
      omega
    · rw [cut_to, cut_from1] at *
      have ns2 : s ≠ p2 := ne_of_none hs hp2'
      have n13 : p1 ≠ p3 := ne_of_none (by rw [upd_ne n12, upd_same]) hp3
      have n23 : p2 ≠ p3 := ne_of_none upd_same hp3
      have hp3' : H p3 = none := by
        rw [upd_ne n23.symm, upd_ne n13.symm] at hp3; exact hp3
      have ns3 : s ≠ p3 := ne_of_none hs hp3'
      refine ⟨_, rfl, s, c.W, dx, _, rfl, (by rw [upd_ne ns3, upd_ne ns2, upd_ne ns1]; exact hs), T.clW, T.nW_frames, (by show 1 < 1000; decide), _, rfl, ?_⟩
      rw [wi_put_frames]
      have ch : Ch (· = k) l H (setL (setL (setL l p1 0) p2 0) p3 k) _ := (Ch.new (k := 0) (o := .lst ((ts.map V.ref).take i)) hp1).trans ((Ch.new (k := 0) (o := .lst ((ts.map V.ref).drop (i + 1))) hp2).trans (ch_two (o := .lst ((ts.map V.ref).take i ++ (ts.map V.ref).drop (i + 1))) (v := .ins c.W dx (wiF p3)) hp3 (by rw [upd_ne ns2, upd_ne ns1]; exact hs) (by intro xs z; cases z) (by rw [setL_ne ns2, setL_ne ns1]; exact l1)))
      refine q _ _ t (ch.tups _ _ hrow) ⟨dx, p3, upd_same, ⟨ts.eraseIdx i, ?_, ?_⟩, ?_, setL_same⟩ ch
      · rw [upd_ne ns3.symm, upd_same, List.eraseIdx_eq_take_drop_succ, List.map_append, List.map_take, List.map_drop]
      · rw [List.eraseIdx_eq_take_drop_succ, List.eraseIdx_eq_take_drop_succ]
        exact TupsAt.mono ch.tups (paired_app (paired_take _ hp) (paired_drop _ hp))
      · rw [setL_ne ns3, setL_ne ns2, setL_ne ns1]; exact l1
theorem ok_Wire_twice (T : Txt K mg c fI) {f : Addr} {fd : FuncData} (F : Fun K "twice" "Wire.twice" s_Wire_twice f fd) : FnOk P w K mg base CX0 1 f fd ["self", "place"] (spTwice c) := by
  refine F.ok sc_Wire_twice (fun vs H Q E h => ?_) (fun cdv A outer s H vs Q E hr h => ?_)
  · obtain ⟨s, l, k, rows, i, rfl, _⟩ := h
    rfl
  · obtain ⟨s, l, k, rows, i, rfl, ⟨dx, r, hs, ⟨ts, ht, hp⟩, l1, l2⟩, hlen, q⟩ := h
    have tlen : ts.length ≤ 900 := by rw [hp.length]; exact hlen
    refine ⟨_, (pss_one (ps_fld (pv 0) (pe_op op_cat (pe_slice sl_list (pe_fld (pv 0) rfl) po_none (po_some (pe_op op_add (pv 1) pe_int))) (pe_slice sl_list (pe_fld (pv 0) rfl) (po_some (pv 1)) po_none)) rfl)), ?_⟩
    refine ⟨_, rfl, s, c.W, dx, _, _, rfl, hs, T.clW, T.nW_frames, wi_frames, _, rfl, _, _, rfl, rfl, _, rfl, r, _, rfl, SqL.of ht, fun p1 hp1 => ?_⟩
    have n1 : r ≠ p1 := ne_of_none ht hp1
    have ns1 : s ≠ p1 := ne_of_none hs hp1
    refine ⟨_, rfl, s, c.W, dx, _, _, rfl, (by rw [upd_ne ns1]; exact hs), T.clW, T.nW_frames, wi_frames, _, rfl, _, rfl, r, _, rfl, SqL.of (by rw [upd_ne n1]; exact ht), fun p2 hp2 => ?_⟩
    have n12 : p1 ≠ p2 := ne_of_none upd_same hp2
    have hp2' : H p2 = none := by
      rw [upd_ne n12.symm] at hp2; exact hp2
    refine ⟨p1, p2, _, _, rfl, rfl, (by rw [upd_ne n12, upd_same]), upd_same, ?_, fun p3 hp3 => ?_⟩
    · rw [cut_to1, cut_from]
      refine Nat.le_of_lt (small1000 ?_)
      rw [List.length_take, List.length_drop, List.length_map]
      omega
    · rw [cut_to1, cut_from] at *
      have ns2 : s ≠ p2 := ne_of_none hs hp2'
      have n13 : p1 ≠ p3 := ne_of_none (by rw [upd_ne n12, upd_same]) hp3
      have n23 : p2 ≠ p3 := ne_of_none upd_same hp3
      have hp3' : H p3 = none := by
        rw [upd_ne n23.symm, upd_ne n13.symm] at hp3; exact hp3
      have ns3 : s ≠ p3 := ne_of_none hs hp3'
      refine ⟨_, rfl, s, c.W, dx, _, rfl, (by rw [upd_ne ns3, upd_ne ns2, upd_ne ns1]; exact hs), T.clW, T.nW_frames, (by show 1 < 1000; decide), ?_⟩
      rw [wi_put_frames]
      have ch : Ch (· = k) l H (setL (setL (setL l p1 0) p2 0) p3 k) _ := (Ch.new (k := 0) (o := .lst ((ts.map V.ref).take (i + 1))) hp1).trans ((Ch.new (k := 0) (o := .lst ((ts.map V.ref).drop i)) hp2).trans (ch_two (o := .lst ((ts.map V.ref).take (i + 1) ++ (ts.map V.ref).drop i)) (v := .ins c.W dx (wiF p3)) hp3 (by rw [upd_ne ns2, upd_ne ns1]; exact hs) (by intro xs z; cases z) (by rw [setL_ne ns2, setL_ne ns1]; exact l1)))
      refine q _ _ ⟨dx, p3, upd_same, ⟨ts.take (i + 1) ++ ts.drop i, ?_, ?_⟩, ?_, setL_same⟩ ch
      · rw [upd_ne ns3.symm, upd_same, List.map_append, List.map_take, List.map_drop]
      · exact TupsAt.mono ch.tups (paired_app (paired_take _ hp) (paired_drop _ hp))
      · rw [setL_ne ns3, setL_ne ns2, setL_ne ns1]; exact l1
theorem ok_Wire_take_all (T : Txt K mg c fI) {f : Addr} {fd : FuncData} (F : Fun K "take_all" "Wire.take_all" s_Wire_take_all f fd) : FnOk P w K mg base CX0 1 f fd ["self"] (spTakeAll c) := by
  refine F.ok sc_Wire_take_all (fun vs H Q E h => ?_) (fun cdv A outer s H vs Q E hr h => ?_)
  · obtain ⟨s, l, k, rows, rfl, _⟩ := h
    rfl
  · obtain ⟨s, l, k, rows, rfl, ⟨dx, r, hs, ⟨ts, ht, hp⟩, l1, l2⟩, q⟩ := h
    refine ⟨_, (pss_cons (ps_set (i := 1) sc_Wire_take_all.nd rfl (Or.inl rfl) (pe_fld (pv 0) rfl))
        (pss_cons (ps_fld (pv 0) (pe_lst pa_nil) rfl)
        (pss_one (ps_ret (pv 1))))), ?_⟩
    refine ⟨_, rfl, s, c.W, dx, _, _, rfl, hs, T.clW, T.nW_frames, wi_frames, Nat.zero_le _, fun p hp' => ?_⟩
    have nsp : s ≠ p := ne_of_none hs hp'
    have nrp : r ≠ p := ne_of_none ht hp'
    have nsr : s ≠ r := ne_of hs ht (by intro z; cases z)
    refine ⟨_, rfl, s, c.W, dx, _, rfl, (by rw [upd_ne nsp]; exact hs), T.clW, T.nW_frames, (by show 1 < 1000; decide), _, rfl, ?_⟩
    rw [wi_put_frames]
    have ch : Ch (· = k) l H (setL l p k) _ := ch_two (o := .lst []) (v := .ins c.W dx (wiF p)) hp' hs (by intro xs z; cases z) l1
    refine q _ _ r ⟨ts, ?_, TupsAt.mono ch.tups hp⟩ ?_ ⟨dx, p, upd_same, ⟨[], ?_, .nil⟩, ?_, setL_same⟩ ch
    · rw [upd_ne nsr.symm, upd_ne nrp]; exact ht
    · rw [setL_ne nrp]; exact l2
    · rw [upd_ne nsp.symm, upd_same] <;> rfl
    · rw [setL_ne nsp]; exact l1
end
end Pp

set_option linter.all false
namespace Pp
open Vbkoah (Lease HomeRec PostRec Up Down Want Given numbered endedAt endOf hasBack willDo hasGiven says sendTo homeNums postNums upNums downNums)
abbrev SGiven := Vbkoah.Given
abbrev SPost := Vbkoah.Post
abbrev SState := Vbkoah.State
/-! ### the mirror: what the program computes, over the specification's data -/
def isEnded (m : Nat) : HomeRec → Bool
  | .ended k _ => k == m
  | _ => false
def endIx (recs : List HomeRec) (m : Nat) : Int := match recs.findIdx? (isEnded m) with
  | some i => (i : Int)
  | none => -1
def allFrom (sure : Nat) : Nat → List HomeRec → List (Given × Bool)
  | _, [] => []
  | n, .lease x p a b :: r => (⟨x, p, a, b⟩, decide (n < sure)) :: allFrom sure (n + 1) r
  | n, .ended _ _ :: r => allFrom sure (n + 1) r
def allL (recs : List HomeRec) (sure : Nat) : List (Given × Bool) := allFrom sure 0 recs
def askP (recs : List HomeRec) (p x day : Nat) (t : Nat × (Given × Bool)) : Bool := t.2.1.x == x && (t.2.1.p == p && (decide ((day : Int) ≤ endOf recs t.1 t.2.1) && decide (endIx recs t.1 < 0)))
def askedF (recs : List HomeRec) (sure p x day w : Nat) (down : List Down) : List HomeRec × List Down :=
  match (numbered (allL recs sure)).find? (askP recs p x day) with
  | some t => (recs, if t.2.2 = true then sendTo (.lease ⟨t.1, x, t.2.1.a, t.2.1.b⟩) down else down)
  | none => if (((numbered (allL recs sure)).filter fun t => t.2.1.x == x).all fun t => decide (endOf recs t.1 t.2.1 < (day : Int))) = true ∧ recs.length < 80 then (recs ++ [.lease x p day (day + w - 1)], down) else (recs, down)
def givenBackF (recs : List HomeRec) (sure m : Nat) (e : Int) (down : List Down) : List HomeRec × List Down :=
  match recs.findIdx? (isEnded m) with
  | some i => (recs, if i < sure then sendTo (.heard m) down else down)
  | none => if recs.length < 80 then (recs ++ [.ended m e], down) else (recs, down)
def takeInF (recs : List HomeRec) (sure p day w : Nat) (f : Up) (down : List Down) : List HomeRec × List Down := match f with
  | .ask x => askedF recs sure p x day w down
  | .back m e => givenBackF recs sure m e down
def goF (day : Nat) (x : SPost) (v : Want) : Bool × SPost := if hasGiven day x v.x = true then (true, x) else match x.known.find? fun l => willDo day x l v with
  | none => (false, x)
  | some l => if x.recs.length < 80 then (true, { x with recs := x.recs ++ [.grant l.m v.x day (day + v.long - 1)] }) else (false, x)
def maxOr (d : Int) : List Int → Int
  | [] => d
  | a :: r => r.foldl max a
def endsOf (x : SPost) (m : Nat) : List Int := x.recs.filterMap fun r => match r with
  | .grant k _ _ t => if k = m then some (t : Int) else none
  | _ => none
def lastP (x : SPost) (l : Lease) : Int := maxOr ((l.a : Int) - 1) (endsOf x l.m)
def backP (day : Nat) (x : SPost) (l : Lease) : SPost := if l.b < day ∨ hasBack x l.m = true ∨ ¬ x.recs.length < 80 then x else
  if (x.wants.any fun v => willDo day x l v) = true then x else { x with recs := x.recs ++ [.back l.m (lastP x l) l.b] }
def goStep (day : Nat) (s : List Want × SPost) (v : Want) : List Want × SPost := ((if (goF day s.2 v).1 = true then s.1 else s.1 ++ [v]), (goF day s.2 v).2)
def servedP (day : Nat) (x : SPost) : SPost := let s := x.wants.foldl (goStep day) ([], x)
  { s.2 with wants := s.1 }
def backsP (day : Nat) (x : SPost) : SPost := x.known.foldl (backP day) x
def preTick (day : Nat) (x : SPost) : SPost := backsP day (servedP day x)
def sendAll (fs : List Up) (l : List Up) : List Up := fs.foldl (fun l f => sendTo f l) l
def tickP (day : Nat) (x : SPost) : SPost := { preTick day x with up := sendAll (says day (preTick day x)) x.up }
abbrev gNums (g : Given) : List Int := [(g.x : Int), (g.p : Int), (g.a : Int), (g.b : Int)]
abbrev lNums (l : Lease) : List Int := [(l.m : Int), (l.x : Int), (l.a : Int), (l.b : Int)]
abbrev wNums (v : Want) : List Int := [(v.x : Int), (v.long : Int)]
/-! ### small facts -/
theorem allFrom_append (sure : Nat) : ∀ (l r : List HomeRec) (n : Nat), allFrom sure n (l ++ r) = allFrom sure n l ++ allFrom sure (n + l.length) r
  | [], r, n => rfl
  | .lease x p a b :: l, r, n => by
    show (_ :: allFrom sure (n + 1) (l ++ r)) = (_ :: allFrom sure (n + 1) l) ++ _
    rw [allFrom_append sure l r (n + 1), List.length_cons, show n + 1 + l.length = n + (l.length + 1) by omega]
    rfl
  | .ended m e :: l, r, n => by
    show allFrom sure (n + 1) (l ++ r) = allFrom sure (n + 1) l ++ _
    rw [allFrom_append sure l r (n + 1), List.length_cons, show n + 1 + l.length = n + (l.length + 1) by omega]
theorem allFrom_len (sure : Nat) : ∀ (l : List HomeRec) (n : Nat), (allFrom sure n l).length ≤ l.length
  | [], n => Nat.le_refl _
  | .lease x p a b :: l, n => Nat.succ_le_succ (allFrom_len sure l (n + 1))
  | .ended m e :: l, n => Nat.le_succ_of_le (allFrom_len sure l (n + 1))
theorem endedAt_none : ∀ (l : List HomeRec) (m : Nat), l.findIdx? (isEnded m) = none → endedAt l m = none
  | [], m, _ => rfl
  | .lease x p a b :: l, m, h => by
    rw [List.findIdx?_cons] at h
    have h' : l.findIdx? (isEnded m) = none := by
      simpa [isEnded] using h
    show endedAt l m = none
    exact endedAt_none l m h'
  | .ended k e :: l, m, h => by
    rw [List.findIdx?_cons] at h
    by_cases c : k = m
    · simp [isEnded, c] at h
    · have h' : l.findIdx? (isEnded m) = none := by
        simpa [isEnded, c] using h
      have ih := endedAt_none l m h'
      unfold endedAt at ih ⊢
      rw [List.findSome?_cons]
      dsimp only
      rw [if_neg c]
      exact ih
theorem endedAt_some : ∀ (l : List HomeRec) (m i : Nat), l.findIdx? (isEnded m) = some i → ∃ e, l[i]? = some (.ended m e) ∧ endedAt l m = some e
  | [], m, i, h => by simp at h
  | .lease x p a b :: l, m, i, h => by
    rw [List.findIdx?_cons] at h
    simp [isEnded] at h
    obtain ⟨j, hj, rfl⟩ := h
    obtain ⟨e, h1, h2⟩ := endedAt_some l m j (by
      rw [show isEnded m = (fun x => isEnded m x) from rfl]
      first | exact hj | simpa [isEnded] using hj)
    exact ⟨e, h1, h2⟩
  | .ended k e :: l, m, i, h => by
    rw [List.findIdx?_cons] at h
    by_cases c : k = m
    · subst c
      simp [isEnded] at h
      subst h
      refine ⟨e, rfl, ?_⟩
      unfold endedAt
      rw [List.findSome?_cons]
      dsimp only
      rw [if_pos rfl]
    · simp [isEnded, c] at h
      obtain ⟨j, hj, rfl⟩ := h
      obtain ⟨e', h1, h2⟩ := endedAt_some l m j (by first | exact hj | simpa [isEnded] using hj)
      refine ⟨e', h1, ?_⟩
      unfold endedAt at h2 ⊢
      rw [List.findSome?_cons]
      dsimp only
      rw [if_neg c]
      exact h2
theorem endIx_none {l : List HomeRec} {m : Nat} (h : l.findIdx? (isEnded m) = none) : endIx l m = -1 := by unfold endIx; rw [h]
theorem endIx_some {l : List HomeRec} {m i : Nat} (h : l.findIdx? (isEnded m) = some i) : endIx l m = (i : Int) := by unfold endIx; rw [h]
end Pp

set_option Elab.async false
set_option linter.all false
set_option maxRecDepth 100000
set_option maxHeartbeats 2000000
namespace Pp
open PySem PySem.Spec PyProof.Rows L2
open Vbkoah (Lease HomeRec PostRec Up Down Want numbered endedAt endOf hasBack willDo hasGiven says sendTo homeNums postNums upNums downNums)
/-! ### 6. loops -/
/-- for i, x in enumerate(list that stands) -/
theorem for_enum {K : PySem.W.Frag} {a : Addr} {xs : List V} {si sj : Nat} {tb : TS} {D : Ends} {σ : L2.St} {H : Hp} (Pv : Nat → L2.St → Hp → Prop) (h0 : Pv 0 σ H) (hl : ∀ i σ H, i ≤ xs.length → Pv i σ H → SqL K H a xs)
    (hs : ∀ (i : Nat) x σ H T, xs[i]? = some x → Pv i σ H → H T = none → tb { D with nx := Pv (i + 1), ct := Pv (i + 1), bk := D.nx } ((σ.set si (some (.int (i : Int)))).set sj (some x)) (upd H T (.tup [.int (i : Int), x]))) (hd : ∀ σ H, Pv xs.length σ H → D.nx σ H) :
    ∃ W : Nat → Nat → L2.St → Hp → Prop, (∃ m, W 0 m σ H) ∧ ∀ i m σ H, W i m σ H →
      ((Ite K a).stop i H ∧ D.nx σ H) ∨ ((Ite K a).go i H ∧ ∃ N : L2.St → Hp → Prop, (∀ σ' H', N σ' H' → ∃ m', m' < m ∧ W (i + 1) m' σ' H') ∧ ∀ x H', (Ite K a).yld i H x H' → gTup K 2 (gCons (gName si) (gCons (gName sj) gNil)) x σ H' fun σ2 H2 => tb { D with nx := N, ct := N, bk := D.nx } σ2 H2) := by
  refine ⟨fun i m σ H => m = xs.length - i ∧ i ≤ xs.length ∧ Pv i σ H, ⟨xs.length, by simp, Nat.zero_le _, h0⟩, ?_⟩
  rintro i m σ H ⟨rfl, hi, p⟩
  have q := hl i σ H hi p
  by_cases hlt : i < xs.length
  · refine .inr ⟨⟨xs, xs[i], q, by simp [hlt]⟩, Pv (i + 1), fun σ' H' p' => ⟨xs.length - (i + 1), by omega, rfl, hlt, p'⟩, fun v H' y => ?_⟩
    obtain ⟨T, x, rfl, hT, rfl, y⟩ := y
    have hx := y xs q
    exact ⟨T, _, rfl, SqT.of upd_same, rfl, _, _, rfl, _, _, rfl, rfl, hs i x σ H T hx p hT⟩
  · have e : i = xs.length := by omega
    subst e
    exact .inl ⟨⟨xs, q, Nat.le_refl _⟩, hd σ H p⟩
/-- [e for x in list that stands if ..], each item told by rs -/
theorem lc_pure {α : Type} {K : PySem.W.Frag} {tl : TE} {a : Addr} {xs : List V} {j : Nat} {tt : TT} {te : TE} {vs : List Nat} {σ : L2.St} {H : Hp} {Q : VK} (rs : List α) (F : α → Option V)
    (htl : ∀ R : VK, R (.ref a) H → tl σ H R) (hx : SqL K H a xs) (hz : xs.length ≤ 1000) (hr : rs.length = xs.length) (hw : ∀ x, wipe ((wipe σ vs).set j (some x)) vs = wipe σ vs)
    (hs : ∀ (i : Nat) x r H1, xs[i]? = some x → rs[i]? = some r → Same H H1 → ∀ R : Option V → Hp → Prop, (∀ H2, Same H1 H2 → R (F r) H2) → tt ((wipe σ vs).set j (some x)) H1 fun b H3 => if b = true then te ((wipe σ vs).set j (some x)) H3 fun y H4 => R (some y) H4 else R none H3)
    (hq : ∀ H' p, Same H H' → H p = none → H' p = some (.lst (rs.filterMap F)) → Q (.ref p) H') : tLc (iList K tl) (gName j) tt te vs σ H Q := by
  refine htl _ ⟨a, rfl, ⟨_, hx⟩, fun D hD => ?_⟩
  refine lc_list (xs := xs) (fun i H' => Same H H' ∧ H' D = some (.lst ((rs.take i).filterMap F))) ⟨Same.upd_new hD, upd_same⟩ (fun i H' _ p => p.1.seq hx) (fun i x H' hi p => ⟨hw x, ?_⟩) (fun H' p => hq H' D p.1 hD ?_)
  · have hil : i < rs.length := by rw [hr]; exact lt_at hi
    have hri : rs[i]? = some rs[i] := List.getElem?_eq_getElem hil
    have step : (rs.take (i + 1)).filterMap F = (rs.take i).filterMap F ++ (F rs[i]).toList := by
      rw [take_succ_at hri, List.filterMap_append]
      cases e : F rs[i] <;> simp [List.filterMap, e]
    have hlen : ((rs.take i).filterMap F).length < sizeLine := small1000 (by
      have h1 := List.length_filterMap_le F (rs.take i)
      rw [List.length_take] at h1
      omega)
    have key := hs i x rs[i] H' hi hri p.1 (fun o H2 => match o with
      | some y => ∃ acc, H2 D = some (.lst acc) ∧ acc.length < sizeLine ∧ (Same H (upd H2 D (.lst (acc ++ [y]))) ∧ upd H2 D (.lst (acc ++ [y])) D = some (.lst ((rs.take (i + 1)).filterMap F)))
      | none => Same H H2 ∧ H2 D = some (.lst ((rs.take (i + 1)).filterMap F))) (fun H2 s2 => ?_)
    · exact key
    · cases e : F rs[i] with
      | none =>
        rw [e] at step
        refine ⟨p.1.trans s2, ?_⟩
        rw [step, s2 _ _ p.2]
        simp
      | some y =>
        rw [e] at step
        refine ⟨_, s2 _ _ p.2, hlen, fun b o h => ?_, ?_⟩
        · rw [upd_ne (ne_of_none h hD)]
          exact s2 _ _ (p.1 _ _ h)
        · rw [upd_same, step]
          rfl
  · have := p.2
    rw [← hr, List.take_length] at this
    exact this
/-- the same where the items are truth values -/
theorem lc_bools {α : Type} {K : PySem.W.Frag} {tl : TE} {a : Addr} {xs : List V} {j : Nat} {te : TE} {vs : List Nat} {σ : L2.St} {H : Hp} {Q : VK} (rs : List α) (F : α → Bool)
    (htl : ∀ R : VK, R (.ref a) H → tl σ H R) (hx : SqL K H a xs) (hz : xs.length ≤ 1000) (hr : rs.length = xs.length) (hw : ∀ x, wipe ((wipe σ vs).set j (some x)) vs = wipe σ vs)
    (hs : ∀ (i : Nat) x r H1, xs[i]? = some x → rs[i]? = some r → Same H H1 → ∀ R : VK, (∀ H2, Same H1 H2 → R (.bl (F r)) H2) → te ((wipe σ vs).set j (some x)) H1 R)
    (hq : ∀ H' p, Same H H' → H p = none → H' p = some (.lst ((rs.map F).map V.bl)) → Q (.ref p) H') : tLc (iList K tl) (gName j) tYes te vs σ H Q := by
  refine lc_pure rs (fun r => some (.bl (F r))) htl hx hz hr hw (fun i x r H1 h1 h2 s R k => iteT (B := R none H1) (hs i x r H1 h1 h2 s _ fun H2 s2 => k H2 s2)) fun H' p s hp e => hq H' p s hp ?_
  rw [e, List.map_map]
  congr 1
  congr 1
  induction rs with
  | nil => rfl
  | cons r rs ih => simp [List.filterMap_cons]
theorem not_whole {n : Nat} (h : 1 ≤ n) : ¬ (HT.sIx n 0 (some 1) = 0 ∧ HT.sIx n n none = n) := fun z => by
  have e : HT.sIx n 0 (some ((1 : Nat) : Int)) = min 1 n := HT.sIx_nat n 0 1
  have z1 : HT.sIx n 0 (some ((1 : Nat) : Int)) = 0 := z.1
  omega
/-! ### 7. home -/
def HomeAt (c : Ad) (H : Hp) (l : Lab) (k : Nat) (h : Addr) (recs : List HomeRec) (sure : Nat) : Prop :=
  ∃ dx s, H h = some (.ins c.H dx (hoF s)) ∧ l h = k + 1 ∧ StAt c H l k s (recs.map homeNums) sure
theorem HomeAt.keep {c : Ad} {L : Nat → Prop} {l l' : Lab} {H H' : Hp} {k : Nat} {h : Addr} {recs : List HomeRec} {sure : Nat} (a : HomeAt c H l k h recs sure) (ch : Ch L l H l' H') (n : ¬ L k) (n1 : ¬ L (k + 1)) : HomeAt c H' l' k h recs sure := by
  obtain ⟨dx, s, h1, h2, h3⟩ := a
  exact ⟨dx, s, ch.keep _ _ h1 (by rw [h2]; exact n1), (ch.lab _ _ h1).trans h2, h3.keep ch n⟩
theorem HomeAt.same {c : Ad} {l : Lab} {H H' : Hp} {k : Nat} {h : Addr} {recs : List HomeRec} {sure : Nat} (a : HomeAt c H l k h recs sure) (sm : Same H H') : HomeAt c H' l k h recs sure :=
  a.keep (Ch.of_same (L := fun _ => False) sm) id id
/-- the station is changed -/
theorem HomeAt.put {c : Ad} {l l' : Lab} {H H' : Hp} {k : Nat} {h s dx : Addr} {recs : List HomeRec} {sure : Nat} (h1 : H h = some (.ins c.H dx (hoF s))) (h2 : l h = k + 1) (ch : Ch (· = k) l H l' H') (st : StAt c H' l' k s (recs.map homeNums) sure) : HomeAt c H' l' k h recs sure :=
  ⟨dx, s, ch.keep _ _ h1 (by rw [h2]; omega), (ch.lab _ _ h1).trans h2, st⟩
def LeasesAt (H : Hp) (p : Addr) (ls : List (SGiven × Bool)) : Prop := ∃ ts : List Addr, H p = some (.lst (ts.map V.ref)) ∧ Paired (fun t (g : SGiven × Bool) => ∃ u, H t = some (.tup [.ref u, .bl g.2]) ∧ H u = some (tupO (gNums g.1))) ts ls
theorem LeasesAt.same {H H' : Hp} {p : Addr} {ls : List (SGiven × Bool)} (a : LeasesAt H p ls) (s : Same H H') : LeasesAt H' p ls := by
  obtain ⟨ts, h1, h2⟩ := a
  exact ⟨ts, s _ _ h1, Paired.mapP h2 fun t g ⟨u, e1, e2⟩ => ⟨u, s _ _ e1, s _ _ e2⟩⟩
def spHoInit (c : Ad) : Sp := fun vs H Q _ => ∃ (s dx : Addr) (l : Lab) (k : Nat), vs = [.ref s] ∧ H s = some (.ins c.H dx []) ∧ ∀ H' l', HomeAt c H' l' k s [] 0 → NwB s l H l' H' → Q .non H'
def spAllLeases (c : Ad) : Sp := fun vs H Q _ => ∃ (h : Addr) (l : Lab) (k : Nat) (recs : List HomeRec) (sure : Nat), vs = [.ref h] ∧ HomeAt c H l k h recs sure ∧ recs.length ≤ 900 ∧
  ∀ H' p, Same H H' → H p = none → LeasesAt H' p (allL recs sure) → Q (.ref p) H'
def spEndedAt (c : Ad) : Sp := fun vs H Q _ => ∃ (h : Addr) (l : Lab) (k : Nat) (recs : List HomeRec) (sure m : Nat), vs = [.ref h, .int m] ∧ HomeAt c H l k h recs sure ∧ recs.length ≤ 900 ∧
  ∀ H', Same H H' → Q (.int (endIx recs m)) H'
def spEndOf (c : Ad) : Sp := fun vs H Q _ => ∃ (h t : Addr) (l : Lab) (k : Nat) (recs : List HomeRec) (sure m : Nat) (g : SGiven), vs = [.ref h, .int m, .ref t] ∧ HomeAt c H l k h recs sure ∧ recs.length ≤ 900 ∧ H t = some (tupO (gNums g)) ∧
  ∀ H', Same H H' → Q (.int (endOf recs m g)) H'
section
variable {P : Program} {w : World} {K : PySem.W.Frag} {mg : Str → Option Value} {base : Heap} {c : Ad} {fI : Addr}
theorem ok_Home_init (T : Txt K mg c fI) {fC_Station : Addr} {fdC_Station : FuncData} (C_Station : CG P w K mg base c.S "Station" 1 ["self"] (spStInit c) fC_Station fdC_Station) {f : Addr} {fd : FuncData} (F : Fun K "__init__" "Home.__init__" s_Home_init f fd) : FnOk P w K mg base CX0 3 f fd ["self"] (spHoInit c) := by
  refine F.ok sc_Home_init (fun vs H Q E h => ?_) (fun cdv A outer s H vs Q E hr h => ?_)
  · obtain ⟨s, dx, l, k, rfl, _⟩ := h
    rfl
  · obtain ⟨s, dx, l, k, rfl, hs, q⟩ := h
    refine ⟨_, (pss_one (ps_fld (pv 0) (pe_make0 C_Station.mk_ C_Station.ok (hr.mono (by decide)) rfl C_Station.g C_Station.b .nil pass0) rfl)), ?_⟩
    intro x dy nx ndx nex
    refine ⟨x, dy, l, k, rfl, upd_same, fun H1 l1 S N => ⟨rfl, ?_⟩⟩
    have nsx : s ≠ x := ne_of_none hs nx
    have nsd : s ≠ dy := ne_of_none hs ndx
    have hs1 := N s (.ins c.H dx []) (by rw [upd_ne nsx, upd_ne nsd]; exact hs) nsx
    refine ⟨_, rfl, s, c.H, dx, [], rfl, hs1.1, T.clH, T.nH_station, (by show 0 < 1000; decide), ?_⟩
    rw [ho_mk_station]
    obtain ⟨dz, r, z1, z2, z3, z4⟩ := S
    have nxs : x ≠ s := nsx.symm
    obtain ⟨ts, zt, zp⟩ := z2
    have nrs : r ≠ s := ne_of zt hs1.1 (by intro z; cases z)
    refine q _ (setL l1 s (k + 1)) ⟨dx, x, upd_same, setL_same, dz, r, ?_, ⟨ts, ?_, TupsAt.mono ?_ zp⟩, ?_, ?_⟩ fun b o e n => ?_
    · rw [upd_ne nxs]; exact z1
    · rw [upd_ne nrs]; exact zt
    · intro b xs e
      have : b ≠ s := ne_of e hs1.1 (by intro z; cases z)
      rw [upd_ne this]; exact e
    · rw [setL_ne nxs]; exact z3
    · rw [setL_ne nrs]; exact z4
    · have := N b o (by rw [upd_ne (ne_of_none e nx), upd_ne (ne_of_none e ndx)]; exact e) (ne_of_none e nx)
      rw [upd_ne n, setL_ne n]
      exact this
theorem ok_Home_all_leases (T : Txt K mg c fI) {f : Addr} {fd : FuncData} (F : Fun K "all_leases" "Home.all_leases" s_Home_all_leases f fd) : FnOk P w K mg base CX0 1 f fd ["self"] (spAllLeases c) := by
  refine F.ok sc_Home_all_leases (fun vs H Q E h => ?_) (fun cdv A outer s H vs Q E hr h => ?_)
  · obtain ⟨h, l, k, recs, sure, rfl, _⟩ := h
    rfl
  · obtain ⟨h, l, k, recs, sure, rfl, hA, hlen, q⟩ := h
    refine ⟨_, (pss_cons (ps_set (i := 1) sc_Home_all_leases.nd rfl (Or.inl rfl) (pe_lst pa_nil))
        (pss_cons (ps_for PassesOwn.never rfl (pi_enum (by rfl) T.z_enumerate (pa_cons (pe_fld (pe_fld (pv 0) rfl) rfl) pa_nil)) (pg_tup rfl (pgs_cons (pg_name (i := 2) sc_Home_all_leases.nd rfl (Or.inl rfl)) (pgs_cons (pg_name (i := 3) sc_Home_all_leases.nd rfl (Or.inl rfl)) pgs_nil)))
        (pss_one (ps_if (pt_cmpR op_eq (pe_ix ix_tup (pv 3) pe_int (fun _ _ => rfl)) (pe_gint rfl T.i_LEASE_homes) (nomark _))
        (pss_one (ps_expr (pe_bm PySem.F.plainAttrs_list PySem.F.slot_list_append PySem.F.type_list_append mt_append (pv 1) (pa_cons (pe_tup (pa_cons (pe_slice sl_tup (pv 3) (po_some pe_int) po_none) (pa_cons (pe_cmpR op_lt (pv 2) (pe_fld (pe_fld (pv 0) rfl) rfl) (nomark _)) pa_nil))) pa_nil))))
        pss_nil)))
        (pss_one (ps_ret (pv 1))))), ?_⟩
    obtain ⟨dx, s, hh, _, dy, r, hs, ⟨ts, ht, hp⟩, _, _⟩ := id hA
    refine ⟨Nat.zero_le _, fun D hD => ?_⟩
    have sm0 : Same H (upd H D (.lst [])) := Same.upd_new hD
    refine ⟨_, rfl, h, c.H, dx, _, _, rfl, sm0 _ _ hh, T.clH, T.nH_station, ho_station, s, c.S, dy, _, _, rfl, sm0 _ _ hs, T.clS, T.nS_records, st_records, r, _, rfl, SqL.of (sm0 _ _ ht), ?_⟩
    refine for_enum (K := K) (a := r) (xs := ts.map V.ref) (fun i σ H' => ∃ v1 v2, σ = [some (.ref h), some (.ref D), v1, v2] ∧ Same H H' ∧ LeasesAt H' D (allL (recs.take i) sure))
      ⟨none, none, rfl, sm0, [], by rw [upd_same] <;> rfl, .nil⟩ (fun i σ H' _ ⟨_, _, _, sm, _⟩ => SqL.of (sm _ _ ht)) ?_ ?_
    · rintro i x σ H' Tp hi ⟨v1, v2, rfl, sm, ls, hls, hpls⟩ hTp
      obtain ⟨t, hti, rfl⟩ := refs_at hi
      obtain ⟨row, hrow, htr⟩ := pairedAt hp hti
      rw [List.getElem?_map] at hrow
      obtain ⟨rc, hrc, rfl⟩ := Option.map_eq_some_iff.mp hrow
      have smT : Same H' (upd H' Tp (.tup [.int (i : Int), .ref t])) := Same.upd_new hTp
      have sm2 := sm.trans smT
      have stp : allL (recs.take (i + 1)) sure = allL (recs.take i) sure ++ allFrom sure i [rc] := by
        unfold allL
        rw [take_succ_at hrc, allFrom_append, List.length_take, Nat.min_eq_left (Nat.le_of_lt (lt_at hrc)), Nat.zero_add]
      have llen : ls.length ≤ 900 := by
        rw [hpls.length]
        have h1 := allFrom_len sure (recs.take i) 0
        rw [List.length_take] at h1
        exact Nat.le_trans h1 (by omega)
      cases rc with
      | ended m e =>
        refine ⟨_, rfl, t, _, _, _, rfl, rfl, SqT.of (sm2 _ _ htr), rix (j := 0) rfl rfl, rfl, _, rfl, ?_⟩
        refine iteF ?_
        refine ⟨_, _, rfl, sm2, ?_⟩
        rw [stp]
        show LeasesAt _ D (allL (recs.take i) sure ++ [])
        rw [List.append_nil]
        exact LeasesAt.same ⟨ls, hls, hpls⟩ smT
      | lease xx p a b =>
        refine ⟨_, rfl, t, _, _, _, rfl, rfl, SqT.of (sm2 _ _ htr), rix (j := 0) rfl rfl, rfl, _, rfl, ?_⟩
        refine iteT ?_
        refine ⟨_, rfl, .inl ⟨rfl, _, SqL.of (smT _ _ hls)⟩, ?_⟩
        refine ⟨_, rfl, _, rfl, t, _, rfl, SqT.of (sm2 _ _ htr), (not_whole (by show 1 ≤ 5; decide)), fun u hu => ?_⟩
        have smU := Same.upd_new (o := .tup (cutV ((homeNums (.lease xx p a b)).map V.int) (some 1) none)) hu
        have sm3 := sm2.trans smU
        refine ⟨_, rfl, _, rfl, h, c.H, dx, _, _, rfl, sm3 _ _ hh, T.clH, T.nH_station, ho_station, s, c.S, dy, _, _, rfl, sm3 _ _ hs, T.clS, T.nS_sure, st_sure, _, _, rfl, rfl, (by show 2 ≤ sizeLine; decide), fun v hv => ?_⟩
        have smV := Same.upd_new (o := .tup [V.ref u, .bl (decide ((i : Int) < (sure : Int)))]) hv
        have sm4 := sm3.trans smV
        have smT4 := (smT.trans smU).trans smV
        refine ⟨D, _, _, rfl, rfl, smT4 _ _ hls, small1000 (by rw [List.length_map]; omega), ?_⟩
        have nD : ∀ b o, H b = some o → b ≠ D := fun b o e => ne_of_none e hD
        refine ⟨_, _, rfl, fun b o e => ?_, ls ++ [v], ?_, ?_⟩
        · rw [upd_ne (nD b o e)]; exact sm4 b o e
        · rw [upd_same, List.map_append] <;> rfl
        · rw [stp]
          have tk : ∀ bb xs, H' bb = some (.tup xs) → upd (upd (upd (upd H' Tp (.tup [.int (i : Int), V.ref t])) u (.tup (cutV ((homeNums (.lease xx p a b)).map V.int) (some 1) none))) v (.tup [V.ref u, .bl (decide ((i : Int) < (sure : Int)))])) D (.lst (ls.map V.ref ++ [V.ref v])) bb = some (.tup xs) := fun bb xs e => by
            rw [upd_ne (ne_of e hls (by intro z; cases z))]; exact smT4 bb _ e
          refine paired_app (Paired.mapP hpls fun t' g ⟨u', e1, e2⟩ => ⟨u', tk _ _ e1, tk _ _ e2⟩) (.cons ⟨u, ?_, ?_⟩ .nil)
          · have nvD : v ≠ D := fun z => by rw [z, (smT.trans smU) _ _ hls] at hv; cases hv
            rw [upd_ne nvD, upd_same]
            have e : decide ((i : Int) < (sure : Int)) = decide (i < sure) := decide_eq_decide.mpr (by omega)
            show some (HO.tup [V.ref u, V.bl (decide ((i : Int) < (sure : Int)))]) = _
            rw [e]
          · have nuD : u ≠ D := fun z => by rw [z, smT _ _ hls] at hu; cases hu
            have nuv : u ≠ v := ne_of_none upd_same hv
            rw [upd_ne nuD, upd_ne nuv, upd_same]
            rfl
    · rintro σ H' ⟨v1, v2, rfl, sm, hL⟩
      refine ⟨_, rfl, q H' D sm hD ?_⟩
      rw [List.length_map, hp.length, List.length_map, List.take_length] at hL
      exact hL
theorem ok_Home_ended_at (T : Txt K mg c fI) {f : Addr} {fd : FuncData} (F : Fun K "ended_at" "Home.ended_at" s_Home_ended_at f fd) : FnOk P w K mg base CX0 1 f fd ["self", "lease"] (spEndedAt c) := by
  refine F.ok sc_Home_ended_at (fun vs H Q E h => ?_) (fun cdv A outer s H vs Q E hr h => ?_)
  · obtain ⟨h, l, k, recs, sure, m, rfl, _⟩ := h
    rfl
  · obtain ⟨h, l, k, recs, sure, m, rfl, hA, hlen, q⟩ := h
    refine ⟨_, (pss_cons (ps_for PassesOwn.never rfl (pi_enum (by rfl) T.z_enumerate (pa_cons (pe_fld (pe_fld (pv 0) rfl) rfl) pa_nil)) (pg_tup rfl (pgs_cons (pg_name (i := 2) sc_Home_ended_at.nd rfl (Or.inl rfl)) (pgs_cons (pg_name (i := 3) sc_Home_ended_at.nd rfl (Or.inl rfl)) pgs_nil)))
        (pss_one (ps_if (PW.pt (pw_and (pt_cmpR op_eq (pe_ix ix_tup (pv 3) pe_int (fun _ _ => rfl)) (pe_gint rfl T.i_ENDED) (nomark _)) (pw_and1 (pt_cmpR op_eq (pe_ix ix_tup (pv 3) pe_int (fun _ _ => rfl)) (pv 1) (nomark _)))))
        (pss_one (ps_ret (pv 2)))
        pss_nil)))
        (pss_one (ps_ret (pe_un un_neg pe_int)))), ?_⟩
    obtain ⟨dx, s, hh, _, dy, r, hs, ⟨ts, ht, hp⟩, _, _⟩ := id hA
    refine ⟨_, rfl, h, c.H, dx, _, _, rfl, hh, T.clH, T.nH_station, ho_station, s, c.S, dy, _, _, rfl, hs, T.clS, T.nS_records, st_records, r, _, rfl, SqL.of ht, ?_⟩
    refine for_enum (K := K) (a := r) (xs := ts.map V.ref) (fun i σ H' => ∃ v1 v2, σ = [some (.ref h), some (.int m), v1, v2] ∧ Same H H' ∧ ∀ j rc, j < i → recs[j]? = some rc → isEnded m rc = false)
      ⟨none, none, rfl, Same.refl _, fun j _ z => absurd z (Nat.not_lt_zero _)⟩ (fun i σ H' _ ⟨_, _, _, sm, _⟩ => SqL.of (sm _ _ ht)) ?_ ?_
    · rintro i x σ H' Tp hi ⟨v1, v2, rfl, sm, hno⟩ hTp
      obtain ⟨t, hti, rfl⟩ := refs_at hi
      obtain ⟨row, hrow, htr⟩ := pairedAt hp hti
      rw [List.getElem?_map] at hrow
      obtain ⟨rc, hrc, rfl⟩ := Option.map_eq_some_iff.mp hrow
      have smT : Same H' (upd H' Tp (.tup [.int (i : Int), .ref t])) := Same.upd_new hTp
      have sm2 := sm.trans smT
      have nxt : isEnded m rc = false → ∀ j rc', j < i + 1 → recs[j]? = some rc' → isEnded m rc' = false := fun hf j rc' hj hr' => by
        by_cases hji : j < i
        · exact hno j rc' hji hr'
        · have : j = i := by omega
          subst this
          rw [hrc] at hr'
          cases hr'
          exact hf
      cases rc with
      | lease xx p a b =>
        refine ⟨_, rfl, t, _, _, _, rfl, rfl, SqT.of (sm2 _ _ htr), rix (j := 0) rfl rfl, rfl, _, rfl, ?_⟩
        refine iteF (iteF ?_)
        exact ⟨_, _, rfl, sm2, nxt rfl⟩
      | ended k' e =>
        refine ⟨_, rfl, t, _, _, _, rfl, rfl, SqT.of (sm2 _ _ htr), rix (j := 0) rfl rfl, rfl, _, rfl, ?_⟩
        refine iteT ⟨_, rfl, t, _, _, _, rfl, rfl, SqT.of (sm2 _ _ htr), rix (j := 1) rfl rfl, _, rfl, rfl, _, rfl, ?_⟩
        refine ite2 (fun z => ?_) (fun z => ?_)
        · have e1 : k' = m := by
            have this : V.int (k' : Int) = V.int (m : Int) := of_decide_eq_true z
            injection this with this
            omega
          refine ⟨_, rfl, ?_⟩
          have hix : recs.findIdx? (isEnded m) = some i := by
            rw [List.findIdx?_eq_some_iff_getElem]
            obtain ⟨hl1, hl2⟩ := List.getElem?_eq_some_iff.mp hrc
            refine ⟨hl1, by rw [hl2, e1]; simp [isEnded], fun j hj => ?_⟩
            have := hno j recs[j] hj (List.getElem?_eq_getElem _)
            simp [this]
          have := q _ sm2
          rw [endIx_some hix] at this
          exact this
        · refine ⟨_, _, rfl, sm2, nxt ?_⟩
          have : k' ≠ m := fun e => z (decide_eq_true (by rw [e] <;> rfl))
          simp [isEnded, this]
    · rintro σ H' ⟨v1, v2, rfl, sm, hno⟩
      rw [List.length_map, hp.length, List.length_map] at hno
      have hix : recs.findIdx? (isEnded m) = none := by
        rw [List.findIdx?_eq_none_iff]
        intro rc hrc
        obtain ⟨j, hj1, hj2⟩ := List.getElem_of_mem hrc
        exact hno j rc hj1 (by rw [List.getElem?_eq_getElem hj1, hj2])
      have := q _ sm
      rw [endIx_none hix] at this
      exact ⟨1, rfl, this⟩
theorem ok_end_of (T : Txt K mg c fI) {fM_Home_ended_at : Addr} {fdM_Home_ended_at : FuncData} (M_Home_ended_at : MG P w K mg base c.H 1 "ended_at" ["self", "lease"] (spEndedAt c) fM_Home_ended_at fdM_Home_ended_at) {f : Addr} {fd : FuncData} (F : Fun K "end_of" "end_of" s_end_of f fd) : FnOk P w K mg base CX0 2 f fd ["home", "number", "lease"] (spEndOf c) := by
  refine F.ok sc_end_of (fun vs H Q E h => ?_) (fun cdv A outer s H vs Q E hr h => ?_)
  · obtain ⟨h, t, l, k, recs, sure, m, g, rfl, _⟩ := h
    rfl
  · obtain ⟨h, t, l, k, recs, sure, m, g, rfl, hA, hlen, htg, q⟩ := h
    refine ⟨_, (pss_cons (ps_set (i := 3) sc_end_of.nd rfl (Or.inl rfl) (pe_meth (pv 0) T.clH M_Home_ended_at.m M_Home_ended_at.ok (hr.mono (by decide)) M_Home_ended_at.b .nil pass0 (pa_cons (pv 1) pa_nil)))
        (pss_one (ps_ret (pe_ifExp (pt_cmpR op_lt (pv 3) pe_int (nomark _)) (pe_ix ix_tup (pv 2) pe_int (fun _ _ => rfl)) (pe_ix ix_tup (pe_ix ix_list (pe_fld (pe_fld (pv 0) rfl) rfl) (pv 3) (fun _ _ => rfl)) pe_int (fun _ _ => rfl)))))), ?_⟩
    obtain ⟨dx, s, hh, _, dy, r, hs, ⟨ts, ht, hp⟩, _, _⟩ := id hA
    refine ⟨_, rfl, h, dx, _, rfl, hh, ho_no_ended_at, _, rfl, h, l, k, recs, sure, m, rfl, hA, hlen, fun H1 sm => ?_⟩
    cases hix : recs.findIdx? (isEnded m) with
    | none =>
      rw [endIx_none hix]
      refine ⟨_, rfl, _, _, rfl, rfl, _, rfl, ?_⟩
      refine iteT ⟨_, rfl, t, _, _, _, rfl, rfl, SqT.of (sm _ _ htg), rix (j := 3) rfl rfl, ?_⟩
      have := q H1 sm
      unfold endOf at this
      rw [endedAt_none _ _ hix] at this
      exact this
    | some i =>
      rw [endIx_some hix]
      obtain ⟨e, he1, he2⟩ := endedAt_some _ _ _ hix
      obtain ⟨t', hti, htr⟩ := pairedAt2 hp (y := homeNums (.ended m e)) (i := i) (by rw [List.getElem?_map, he1] <;> rfl)
      refine ⟨_, rfl, _, _, rfl, rfl, _, rfl, ?_⟩
      refine if_false_of (decide_eq_false (by omega)) ⟨_, rfl, h, c.H, dx, _, _, rfl, sm _ _ hh, T.clH, T.nH_station, ho_station, s, c.S, dy, _, _, rfl, sm _ _ hs, T.clS, T.nS_records, st_records, _, rfl, r, _, _, _, rfl, rfl, SqL.of (sm _ _ ht), atI_nat (by rw [List.getElem?_map, hti] <;> rfl), t', _, _, _, rfl, rfl, SqT.of (sm _ _ htr), rix (j := 2) rfl rfl, ?_⟩
      have := q H1 sm
      unfold endOf at this
      rw [he2] at this
      exact this
end
end Pp

set_option Elab.async false
set_option linter.all false
set_option maxRecDepth 100000
set_option maxHeartbeats 2000000
namespace Pp
open PySem PySem.Spec PyProof.Rows L2
open Vbkoah (Lease HomeRec PostRec Up Down Want numbered endedAt endOf hasBack willDo hasGiven says sendTo homeNums postNums upNums downNums)
theorem sendTo_map {α β : Type} (g : α → β) (x : α) (l : List α) : sendTo (g x) (l.map g) = (sendTo x l).map g := by
  unfold sendTo
  rw [List.length_map]
  split
  · rfl
  · rw [List.map_append] <;> rfl
theorem numbered_get {α : Type} {l : List α} {i : Nat} {x : α} (h : l[i]? = some x) : (numbered l)[i]? = some (i, x) := by
  unfold Vbkoah.numbered
  rw [List.getElem?_zip_eq_some]
  refine ⟨?_, h⟩
  rw [List.getElem?_range (lt_at h)]
theorem numbered_len {α : Type} {l : List α} : (numbered l).length = l.length := by
  unfold Vbkoah.numbered
  rw [List.length_zip, List.length_range, Nat.min_self]
theorem dec_vint {a b : Int} : decide (V.int a = V.int b) = (a == b) := dec_int
theorem bnat {a b : Nat} : ((a : Int) == (b : Int)) = (a == b) := by
  by_cases h : a = b
  · subst h; simp
  · have h1 : (a == b) = false := by simpa using h
    have h2 : ((a : Int) == (b : Int)) = false := by
      have : ¬ (a : Int) = (b : Int) := by omega
      simpa using this
    rw [h1, h2]
/-- all but D stands -/
def SameB (D : Addr) (H H' : Hp) : Prop := ∀ b o, H b = some o → b ≠ D → H' b = some o
theorem SameB.step {D : Addr} {H H1 H2 : Hp} (a : SameB D H H1) (s : Same H1 H2) : SameB D H H2 := fun b o e n => s _ _ (a b o e n)
theorem SameB.out {D : Addr} {H0 H H' : Hp} (a : SameB D H H') (s : Same H0 H) (hD : H0 D = none) : Same H0 H' := fun b o e => a b o (s _ _ e) (ne_of_none e hD)
theorem SameB.app {D : Addr} {H H' : Hp} {o : HO} (a : SameB D H H') : SameB D H (upd H' D o) := fun b u e n => by rw [upd_ne n]; exact a b u e n
def spGivenBack (c : Ad) : Sp := fun vs H Q _ => ∃ (h wi : Addr) (l : Lab) (k1 k2 : Nat) (recs : List HomeRec) (sure m : Nat) (e : Int) (down : List Down), vs = [.ref h, .ref wi, .int m, .int e] ∧ HomeAt c H l k1 h recs sure ∧ WireAt c H l k2 wi (down.map downNums) ∧ k2 ≠ k1 ∧ k2 ≠ k1 + 1 ∧ recs.length ≤ 900 ∧
  ∀ H' l', HomeAt c H' l' k1 h (givenBackF recs sure m e down).1 sure → WireAt c H' l' k2 wi ((givenBackF recs sure m e down).2.map downNums) → Ch (fun n => n = k1 ∨ n = k2) l H l' H' → Q .non H'
def spAsked (c : Ad) : Sp := fun vs H Q _ => ∃ (h wi : Addr) (l : Lab) (k1 k2 : Nat) (recs : List HomeRec) (sure p x day w : Nat) (down : List Down), vs = [.ref h, .ref wi, .int p, .int x, .int day, .int w] ∧ HomeAt c H l k1 h recs sure ∧ WireAt c H l k2 wi (down.map downNums) ∧ k2 ≠ k1 ∧ k2 ≠ k1 + 1 ∧ recs.length ≤ 900 ∧ 1 ≤ w ∧
  ∀ H' l', HomeAt c H' l' k1 h (askedF recs sure p x day w down).1 sure → WireAt c H' l' k2 wi ((askedF recs sure p x day w down).2.map downNums) → Ch (fun n => n = k1 ∨ n = k2) l H l' H' → Q .non H'
section
variable {P : Program} {w : World} {K : PySem.W.Frag} {mg : Str → Option Value} {base : Heap} {c : Ad} {fI : Addr}
theorem ok_given_back (T : Txt K mg c fI) {fM_Home_ended_at : Addr} {fdM_Home_ended_at : FuncData} (M_Home_ended_at : MG P w K mg base c.H 1 "ended_at" ["self", "lease"] (spEndedAt c) fM_Home_ended_at fdM_Home_ended_at) {fM_Station_has_room : Addr} {fdM_Station_has_room : FuncData} (M_Station_has_room : MG P w K mg base c.S 1 "has_room" ["self"] (spHasRoom c) fM_Station_has_room fdM_Station_has_room) {fM_Station_record : Addr} {fdM_Station_record : FuncData} (M_Station_record : MG P w K mg base c.S 1 "record" ["self", "row"] (spRecord c) fM_Station_record fdM_Station_record) {fM_Wire_send : Addr} {fdM_Wire_send : FuncData} (M_Wire_send : MG P w K mg base c.W 1 "send" ["self", "frame"] (spSend c) fM_Wire_send fdM_Wire_send) {f : Addr} {fd : FuncData} (F : Fun K "given_back" "given_back" s_given_back f fd) : FnOk P w K mg base CX0 2 f fd ["home", "wire", "lease", "last"] (spGivenBack c) := by
  refine F.ok sc_given_back (fun vs H Q E h => ?_) (fun cdv A outer s H vs Q E hr h => ?_)
  · obtain ⟨h, wi, l, k1, k2, recs, sure, m, e, down, rfl, _⟩ := h
    rfl
  · obtain ⟨h, wi, l, k1, k2, recs, sure, m, e, down, rfl, hA, wA, n1, n2, hlen, q⟩ := h
    refine ⟨_, (pss_cons (ps_set (i := 4) sc_given_back.nd rfl (Or.inl rfl) (pe_meth (pv 0) T.clH M_Home_ended_at.m M_Home_ended_at.ok (hr.mono (by decide)) M_Home_ended_at.b .nil pass0 (pa_cons (pv 2) pa_nil)))
        (pss_one (ps_if (pt_cmpR op_ge (pv 4) pe_int (nomark _))
        (pss_one (ps_if (pt_cmpR op_lt (pv 4) (pe_fld (pe_fld (pv 0) rfl) rfl) (nomark _))
        (pss_one (ps_expr (pe_meth (pv 1) T.clW M_Wire_send.m M_Wire_send.ok (hr.mono (by decide)) M_Wire_send.b .nil pass0 (pa_cons (pe_tup (pa_cons (pe_gint rfl T.i_HEARD) (pa_cons (pv 2) pa_nil))) pa_nil))))
        pss_nil))
        (pss_one (ps_if (pt_val (pe_meth0 (pe_fld (pv 0) rfl) T.clS M_Station_has_room.m M_Station_has_room.ok (hr.mono (by decide)) M_Station_has_room.b .nil pass0))
        (pss_one (ps_expr (pe_meth (pe_fld (pv 0) rfl) T.clS M_Station_record.m M_Station_record.ok (hr.mono (by decide)) M_Station_record.b .nil pass0 (pa_cons (pe_tup (pa_cons (pe_gint rfl T.i_ENDED) (pa_cons (pv 2) (pa_cons (pv 3) pa_nil)))) pa_nil))))
        pss_nil))))), ?_⟩
    obtain ⟨dx, s, hh, lh, hS⟩ := id hA
    obtain ⟨dy, r, hs, ⟨ts, ht, hp⟩, ls, lr⟩ := id hS
    obtain ⟨dw, fr, hw, ⟨tw, htw, hpw⟩, lw, lf⟩ := id wA
    refine ⟨_, rfl, h, dx, _, rfl, hh, ho_no_ended_at, _, rfl, h, l, k1, recs, sure, m, rfl, hA, hlen, fun H1 sm => ?_⟩
    have ch1 : Ch (fun n => n = k1 ∨ n = k2) l H l H1 := Ch.of_same sm
    cases hix : recs.findIdx? (isEnded m) with
    | none =>
      have eF : givenBackF recs sure m e down = if recs.length < 80 then (recs ++ [.ended m e], down) else (recs, down) := by unfold givenBackF; rw [hix]
      rw [endIx_none hix]
      refine ⟨_, rfl, _, _, rfl, rfl, _, rfl, iteF ?_⟩
      refine ⟨_, rfl, h, c.H, dx, _, _, rfl, sm _ _ hh, T.clH, T.nH_station, ho_station, s, dy, _, rfl, sm _ _ hs, st_no_has_room, s, l, k1, _, sure, rfl, hS.same sm, ?_⟩
      rw [List.length_map]
      refine ⟨_, rfl, ite2 (fun z => ?_) (fun z => ?_)⟩
      · have z := of_decide_eq_true z
        refine ⟨_, rfl, h, c.H, dx, _, _, rfl, sm _ _ hh, T.clH, T.nH_station, ho_station, s, dy, _, rfl, sm _ _ hs, st_no_record, _, rfl, _, rfl, (by show 3 ≤ sizeLine; decide), fun p hp1 => ?_⟩
        have smp := Same.upd_new (o := .tup [V.int 1, .int m, .int e]) hp1
        have sm2 := sm.trans smp
        refine ⟨s, p, l, k1, _, sure, homeNums (.ended m e), rfl, hS.same sm2, upd_same, (by rw [List.length_map]; omega), fun H2 l2 st2 ch2 => ?_⟩
        rw [if_pos z] at eF
        rw [eF] at q
        refine q H2 l2 (HomeAt.put (sm2 _ _ hh) lh ch2 (by rw [List.map_append]; exact st2)) ((wA.same sm2).keep ch2 n1) ((Ch.of_same sm2).trans (ch2.mono fun n e => Or.inl e))
      · have z : ¬ recs.length < 80 := fun y => z (decide_eq_true y)
        rw [if_neg z] at eF
        rw [eF] at q
        exact q H1 l (hA.same sm) (wA.same sm) ch1
    | some i =>
      have eF : givenBackF recs sure m e down = (recs, if i < sure then sendTo (.heard m) down else down) := by unfold givenBackF; rw [hix]
      rw [endIx_some hix]
      refine ⟨_, rfl, _, _, rfl, rfl, _, rfl, if_true_of (decide_eq_true (by omega)) ?_⟩
      refine ⟨_, rfl, _, rfl, h, c.H, dx, _, _, rfl, sm _ _ hh, T.clH, T.nH_station, ho_station, s, c.S, dy, _, _, rfl, sm _ _ hs, T.clS, T.nS_sure, st_sure, _, _, rfl, rfl, _, rfl, ite2 (fun z => ?_) (fun z => ?_)⟩
      · have z : (i : Int) < (sure : Int) := of_decide_eq_true z
        rw [if_pos (show i < sure by omega)] at eF
        rw [eF] at q
        refine ⟨_, rfl, wi, dw, _, rfl, sm _ _ hw, wi_no_send, _, rfl, (by show 2 ≤ sizeLine; decide), fun p hp1 => ?_⟩
        have smp := Same.upd_new (o := .tup [V.int 1, .int m]) hp1
        have sm2 := sm.trans smp
        refine ⟨wi, p, l, k2, _, downNums (.heard m), rfl, wA.same sm2, upd_same, fun H2 l2 w2 ch2 => ?_⟩
        rw [sendTo_map] at w2
        exact q H2 l2 ((hA.same sm2).keep ch2 (fun z => n1 z.symm) (fun z => n2 z.symm)) w2 ((Ch.of_same sm2).trans (ch2.mono fun n e => Or.inr e))
      · have z : ¬ (i : Int) < (sure : Int) := fun y => z (decide_eq_true y)
        rw [if_neg (show ¬ i < sure by omega)] at eF
        rw [eF] at q
        exact q H1 l (hA.same sm) (wA.same sm) ch1
theorem ok_asked (T : Txt K mg c fI) {fM_Station_has_room : Addr} {fdM_Station_has_room : FuncData} (M_Station_has_room : MG P w K mg base c.S 1 "has_room" ["self"] (spHasRoom c) fM_Station_has_room fdM_Station_has_room) {fM_Station_record : Addr} {fdM_Station_record : FuncData} (M_Station_record : MG P w K mg base c.S 1 "record" ["self", "row"] (spRecord c) fM_Station_record fdM_Station_record) {fM_Home_all_leases : Addr} {fdM_Home_all_leases : FuncData} (M_Home_all_leases : MG P w K mg base c.H 1 "all_leases" ["self"] (spAllLeases c) fM_Home_all_leases fdM_Home_all_leases) {fM_Home_ended_at : Addr} {fdM_Home_ended_at : FuncData} (M_Home_ended_at : MG P w K mg base c.H 1 "ended_at" ["self", "lease"] (spEndedAt c) fM_Home_ended_at fdM_Home_ended_at) {fM_Wire_send : Addr} {fdM_Wire_send : FuncData} (M_Wire_send : MG P w K mg base c.W 1 "send" ["self", "frame"] (spSend c) fM_Wire_send fdM_Wire_send) {fG_end_of : Addr} {fdG_end_of : FuncData} (G_end_of : FG P w K mg base CX0 2 "end_of" ["home", "number", "lease"] (spEndOf c) fG_end_of fdG_end_of) {f : Addr} {fd : FuncData} (F : Fun K "asked" "asked" s_asked f fd) : FnOk P w K mg base CX0 3 f fd ["home", "wire", "post", "book", "day", "length"] (spAsked c) := by
  refine F.ok sc_asked (fun vs H Q E h => ?_) (fun cdv A outer s H vs Q E hr h => ?_)
  · obtain ⟨h, wi, l, k1, k2, recs, sure, p, x, day, w, down, rfl, _⟩ := h
    rfl
  · obtain ⟨h, wi, l, k1, k2, recs, sure, p, x, day, w, down, rfl, hA, wA, n1, n2, hlen, hw1, q⟩ := h
    refine ⟨_, (pss_cons (ps_set (i := 6) sc_asked.nd rfl (Or.inl rfl) (pe_lst pa_nil))
        (pss_cons (ps_for PassesOwn.never rfl (pi_enum (by rfl) T.z_enumerate (pa_cons (pe_meth0 (pv 0) T.clH M_Home_all_leases.m M_Home_all_leases.ok (hr.mono (by decide)) M_Home_all_leases.b .nil pass0) pa_nil)) (pg_tup rfl (pgs_cons (pg_name (i := 7) sc_asked.nd rfl (Or.inl rfl)) (pgs_cons (pg_name (i := 8) sc_asked.nd rfl (Or.inl rfl)) pgs_nil)))
        (pss_cons (ps_asg (pv 8) (pg_tup rfl (pgs_cons (pg_name (i := 9) sc_asked.nd rfl (Or.inl rfl)) (pgs_cons (pg_name (i := 10) sc_asked.nd rfl (Or.inl rfl)) pgs_nil))))
        (pss_one (ps_if (pt_cmpR op_eq (pe_ix ix_tup (pv 9) pe_int (fun _ _ => rfl)) (pv 3) (nomark _))
        (pss_cons (ps_set (i := 11) sc_asked.nd rfl (Or.inl rfl) (pe_call G_end_of.ok (hr.mono (by decide)) rfl G_end_of.g G_end_of.kp G_end_of.b .nil pass0 (pa_cons (pv 0) (pa_cons (pv 7) (pa_cons (pv 9) pa_nil)))))
        (pss_cons (ps_expr (pe_bm PySem.F.plainAttrs_list PySem.F.slot_list_append PySem.F.type_list_append mt_append (pv 6) (pa_cons (pv 11) pa_nil)))
        (pss_one (ps_if (PW.pt (pw_and (pt_cmpR op_eq (pe_ix ix_tup (pv 9) pe_int (fun _ _ => rfl)) (pv 2) (nomark _)) (pw_and (pt_cmpR op_ge (pv 11) (pv 4) (nomark _)) (pw_and1 (pt_cmpR op_lt (pe_meth (pv 0) T.clH M_Home_ended_at.m M_Home_ended_at.ok (hr.mono (by decide)) M_Home_ended_at.b .nil pass0 (pa_cons (pv 7) pa_nil)) pe_int (nomark _))))))
        (pss_cons (ps_if (pt_val (pv 10))
        (pss_one (ps_expr (pe_meth (pv 1) T.clW M_Wire_send.m M_Wire_send.ok (hr.mono (by decide)) M_Wire_send.b .nil pass0 (pa_cons (pe_tup (pa_cons (pe_gint rfl T.i_LEASE_homes) (pa_cons (pv 7) (pa_cons (pv 3) (pa_cons (pe_ix ix_tup (pv 9) pe_int (fun _ _ => rfl)) (pa_cons (pe_ix ix_tup (pv 9) pe_int (fun _ _ => rfl)) pa_nil)))))) pa_nil))))
        pss_nil)
        (pss_one ps_retN))
        pss_nil))))
        pss_nil))))
        (pss_one (ps_if (PW.pt (pw_and (pt_val (pe_callB (cr_all rfl) (by rfl) T.z_all (by decide +kernel) (pa_cons (pe_lc (own := [("end", 11)]) (g := gName 11) (tt := tYes) rfl sc_asked.nd (pi_list (pv 6)) (blkOk_by (own := [("end", 11)]) (N := N_asked) (sc := defScope s_asked) (by decide +kernel)) (fun _ _ _ _ _ => pg_name (i := 11) sc_asked.nd rfl (Or.inl rfl)) (fun _ _ _ _ _ => pts_nil) (fun _ _ _ _ _ => (pe_cmpR op_lt (pv 11) (pv 4) (nomark _)))) pa_nil))) (pw_and1 (pt_val (pe_meth0 (pe_fld (pv 0) rfl) T.clS M_Station_has_room.m M_Station_has_room.ok (hr.mono (by decide)) M_Station_has_room.b .nil pass0)))))
        (pss_one (ps_expr (pe_meth (pe_fld (pv 0) rfl) T.clS M_Station_record.m M_Station_record.ok (hr.mono (by decide)) M_Station_record.b .nil pass0 (pa_cons (pe_tup (pa_cons (pe_gint rfl T.i_LEASE_homes) (pa_cons (pv 3) (pa_cons (pv 2) (pa_cons (pv 4) (pa_cons (pe_op op_sub (pe_op op_add (pv 4) (pv 5)) pe_int) pa_nil)))))) pa_nil))))
        pss_nil)))), ?_⟩
    obtain ⟨dx, s, hh, lh, hS⟩ := id hA
    obtain ⟨dy, r, hs, ⟨ts, ht, hp⟩, ls, lr⟩ := id hS
    obtain ⟨dw, fr, hw, ⟨tw, htw, hpw⟩, lw, lf⟩ := id wA
    refine ⟨Nat.zero_le _, fun D hD => ?_⟩
    have sm0 : Same H (upd H D (.lst [])) := Same.upd_new hD
    refine ⟨_, rfl, h, dx, _, rfl, sm0 _ _ hh, ho_no_all_leases, h, l, k1, recs, sure, rfl, hA.same sm0, hlen, fun H1 pl sm1 hpl hL => ?_⟩
    obtain ⟨tl, htl, hptl⟩ := hL
    have hD1 : H1 D = some (.lst []) := sm1 _ _ upd_same
    have smH1 : Same H H1 := sm0.trans sm1
    have nplD : pl ≠ D := ne_of_none upd_same hpl |>.symm
    have tlen : tl.length ≤ 900 := by
      rw [hptl.length]
      exact Nat.le_trans (allFrom_len _ _ _) hlen
    refine ⟨pl, _, rfl, SqL.of htl, ?_⟩
    refine for_enum (K := K) (a := pl) (xs := tl.map V.ref) (fun i σ H' => ∃ v7 v8 v9 v10 v11, σ = [some (.ref h), some (.ref wi), some (.int p), some (.int x), some (.int day), some (.int w), some (.ref D), v7, v8, v9, v10, v11] ∧ SameB D H1 H' ∧
        H' D = some (.lst (((((numbered (allL recs sure)).take i).filter fun t => t.2.1.x == x).map fun t => endOf recs t.1 t.2.1).map V.int)) ∧ ∀ j t, j < i → (numbered (allL recs sure))[j]? = some t → askP recs p x day t = false)
      ⟨_, _, _, _, _, rfl, fun b o e _ => e, hD1, fun j _ z => absurd z (Nat.not_lt_zero _)⟩ (fun i σ H' _ ⟨_, _, _, _, _, _, sb, _⟩ => SqL.of (sb _ _ htl nplD)) ?_ ?_
    · rintro i y σ H' Tp hi ⟨v7, v8, v9, v10, v11, rfl, sb, hDe, hno⟩ hTp
      obtain ⟨t, hti, rfl⟩ := refs_at hi
      obtain ⟨g, hg, u, htu, hu⟩ := pairedAt hptl hti
      have hng := numbered_get hg
      have smT : Same H' (upd H' Tp (.tup [.int (i : Int), .ref t])) := Same.upd_new hTp
      have tD : ∀ b xs, H1 b = some (.tup xs) → H' b = some (.tup xs) := fun b xs e => sb _ _ e (ne_of e hD1 (by intro z; cases z))
      have smH' : Same H H' := sb.out smH1 hD
      have sm2 : Same H _ := smH'.trans smT
      have elen : ((((numbered (allL recs sure)).take i).filter fun t => t.2.1.x == x).map fun t => endOf recs t.1 t.2.1).length ≤ 900 := by
        rw [List.length_map]
        refine Nat.le_trans (List.length_filter_le _ _) ?_
        rw [List.length_take, numbered_len]
        have h2 : (allL recs sure).length ≤ recs.length := allFrom_len sure recs 0
        omega
      have nxt : askP recs p x day (i, g) = false → ∀ j t, j < i + 1 → (numbered (allL recs sure))[j]? = some t → askP recs p x day t = false := fun hf j t' hj ht' => by
        by_cases hji : j < i
        · exact hno j t' hji ht'
        · have : j = i := by omega
          subst this
          rw [hng] at ht'
          cases ht'
          exact hf
      have estep : (((numbered (allL recs sure)).take (i + 1)).filter fun t => t.2.1.x == x).map (fun t => endOf recs t.1 t.2.1) = (((numbered (allL recs sure)).take i).filter fun t => t.2.1.x == x).map (fun t => endOf recs t.1 t.2.1) ++ (if g.1.x == x then [endOf recs i g.1] else []) := by
        rw [take_succ_at hng, List.filter_append, List.map_append]
        congr 1
        rw [List.filter_cons]
        dsimp only
        cases g.1.x == x <;> rfl
      -- lease, is_sure = row
      refine ⟨_, rfl, t, _, rfl, SqT.of (smT _ _ (tD _ _ htu)), rfl, _, _, rfl, _, _, rfl, rfl, ?_⟩
      refine ⟨_, rfl, u, _, _, _, rfl, rfl, SqT.of (smT _ _ (tD _ _ hu)), rix (j := 0) rfl rfl, _, rfl, rfl, _, rfl, ?_⟩
      rw [dec_vint, bnat]
      cases hbx : g.1.x == x with
      | false =>
        refine iteF ⟨_, _, _, _, _, rfl, sb.step smT, ?_, nxt (by unfold askP; rw [hbx] <;> rfl)⟩
        rw [estep, hbx]
        rw [smT _ _ hDe]
        simp
      | true =>
        refine iteT ?_
        have hgx : g.1.x = x := by simpa using hbx
        refine ⟨_, rfl, _, rfl, _, rfl, h, u, l, k1, recs, sure, i, g.1, rfl, hA.same sm2, hlen, smT _ _ (tD _ _ hu), fun H2 sm3 => ?_⟩
        have smT3 := smT.trans sm3
        have hD2 := smT3 _ _ hDe
        refine ⟨_, rfl, .inl ⟨rfl, _, SqL.of hD2⟩, _, rfl, D, _, _, rfl, rfl, hD2, small1000 (by rw [List.length_map]; omega), ?_⟩
        -- behind the append
        have sb2 : SameB D H1 (upd H2 D (.lst (((((numbered (allL recs sure)).take i).filter fun t => t.2.1.x == x).map fun t => endOf recs t.1 t.2.1).map V.int ++ [.int (endOf recs i g.1)]))) := (sb.step smT3).app
        have smF : Same H _ := sb2.out smH1 hD
        have hD3 : upd H2 D (.lst (((((numbered (allL recs sure)).take i).filter fun t => t.2.1.x == x).map fun t => endOf recs t.1 t.2.1).map V.int ++ [.int (endOf recs i g.1)])) D = some (.lst (((((numbered (allL recs sure)).take (i + 1)).filter fun t => t.2.1.x == x).map fun t => endOf recs t.1 t.2.1).map V.int)) := by
          rw [upd_same, estep, hbx, List.map_append] <;> rfl
        refine ⟨_, rfl, u, _, _, _, rfl, rfl, SqT.of (sb2 _ _ hu (ne_of hu hD1 (by intro z; cases z))), rix (j := 1) rfl rfl, _, rfl, rfl, _, rfl, ?_⟩
        rw [dec_vint, bnat]
        cases hbp : g.1.p == p with
        | false =>
          refine iteF (iteF ⟨_, _, _, _, _, rfl, sb2, hD3, nxt (by unfold askP; rw [hbx, hbp] <;> rfl)⟩)
        | true =>
          refine iteT ⟨_, rfl, _, rfl, _, _, rfl, rfl, _, rfl, ?_⟩
          cases hbd : decide ((day : Int) ≤ endOf recs i g.1) with
          | false =>
            refine iteF (iteF ⟨_, _, _, _, _, rfl, sb2, hD3, nxt (by unfold askP; rw [hbx, hbp]; simp only [hbd] <;> rfl)⟩)
          | true =>
            refine iteT ⟨_, rfl, h, dx, _, rfl, smF _ _ hh, ho_no_ended_at, _, rfl, h, l, k1, recs, sure, i, rfl, hA.same smF, hlen, fun H3 sm4 => ?_⟩
            refine ⟨_, _, rfl, rfl, _, rfl, ?_⟩
            cases hbe : decide (endIx recs i < 0) with
            | false =>
              refine iteF ⟨_, _, _, _, _, rfl, sb2.step sm4, sm4 _ _ hD3, nxt (by unfold askP; rw [hbx, hbp]; simp only [hbd, hbe] <;> rfl)⟩
            | true =>
              have hyes : askP recs p x day (i, g) = true := by unfold askP; rw [hbx, hbp]; simp only [hbd, hbe] <;> rfl
              have hfind : (numbered (allL recs sure)).find? (askP recs p x day) = some (i, g) := by
                rw [List.find?_eq_some_iff_getElem]
                obtain ⟨hl1, hl2⟩ := List.getElem?_eq_some_iff.mp hng
                refine ⟨hyes, i, hl1, hl2, fun j hj => ?_⟩
                have := hno j _ hj (List.getElem?_eq_getElem (Nat.lt_trans hj hl1))
                simp [this]
              have eF : askedF recs sure p x day w down = (recs, if g.2 = true then sendTo (.lease ⟨i, x, g.1.a, g.1.b⟩) down else down) := by unfold askedF; rw [hfind]
              rw [eF] at q
              have smG := smF.trans sm4
              refine iteT ⟨_, rfl, _, rfl, ite2 (fun z => ?_) (fun z => ?_)⟩
              · have z' : g.2 = true := z
                rw [if_pos z'] at q
                have hu4 := sm4 _ _ (sb2 _ _ hu (ne_of hu hD1 (by intro z; cases z)))
                refine ⟨_, rfl, wi, dw, _, rfl, smG _ _ hw, wi_no_send, _, rfl, _, rfl, _, rfl, u, _, _, _, rfl, rfl, SqT.of hu4, rix (j := 2) rfl rfl, _, rfl, u, _, _, _, rfl, rfl, SqT.of hu4, rix (j := 3) rfl rfl, (by show 5 ≤ sizeLine; decide), fun pp hpp => ?_⟩
                have smp := Same.upd_new (o := .tup [V.int 0, .int i, .int x, .int g.1.a, .int g.1.b]) hpp
                have smI := smG.trans smp
                refine ⟨wi, pp, l, k2, _, downNums (.lease ⟨i, x, g.1.a, g.1.b⟩), rfl, wA.same smI, upd_same, fun H5 l5 w5 ch5 => ?_⟩
                rw [sendTo_map] at w5
                exact q H5 l5 ((hA.same smI).keep ch5 (fun z => n1 z.symm) (fun z => n2 z.symm)) w5 ((Ch.of_same smI).trans (ch5.mono fun n e => Or.inr e))
              · have z' : ¬ g.2 = true := z
                rw [if_neg z'] at q
                exact q _ l (hA.same smG) (wA.same smG) (Ch.of_same smG)
    · rintro σ H' ⟨v7, v8, v9, v10, v11, rfl, sb, hDe, hno⟩
      have smH' : Same H H' := sb.out smH1 hD
      rw [List.length_map, hptl.length] at hDe hno
      rw [List.take_of_length_le (by rw [numbered_len]; exact Nat.le_refl _)] at hDe
      have hfind : (numbered (allL recs sure)).find? (askP recs p x day) = none := by
        rw [List.find?_eq_none]
        intro t ht'
        obtain ⟨j, hj1, hj2⟩ := List.getElem_of_mem ht'
        have := hno j t (by rw [numbered_len] at hj1; exact hj1) (by rw [List.getElem?_eq_getElem hj1, hj2])
        rw [this]
        exact Bool.false_ne_true
      have eF : askedF recs sure p x day w down = if (((numbered (allL recs sure)).filter fun t => t.2.1.x == x).all fun t => decide (endOf recs t.1 t.2.1 < (day : Int))) = true ∧ recs.length < 80 then (recs ++ [.lease x p day (day + w - 1)], down) else (recs, down) := by unfold askedF; rw [hfind]
      have elen : (((numbered (allL recs sure)).filter fun t => t.2.1.x == x).map fun t => endOf recs t.1 t.2.1).length ≤ 900 := by
        rw [List.length_map]
        refine Nat.le_trans (List.length_filter_le _ _) ?_
        rw [numbered_len]
        have h2 : (allL recs sure).length ≤ recs.length := allFrom_len sure recs 0
        omega
      dsimp only [tIfS, tAnd, tB, tCB, tCons]
      refine lc_bools (K := K) (a := D) (((numbered (allL recs sure)).filter fun t => t.2.1.x == x).map fun t => endOf recs t.1 t.2.1) (fun e => decide (e < (day : Int))) (fun R r => ⟨_, rfl, r⟩) (SqL.of hDe) (by rw [List.length_map]; omega) (by simp) (by intro _; rfl) (fun i y e H1 hy he sm R k => ?_) (fun H2 pb sm2 hpb hb => ?_)
      · obtain ⟨e', he', rfl⟩ := ints_at hy
        rw [he] at he'
        cases he'
        exact ⟨_, rfl, _, rfl, _, _, rfl, rfl, k H1 (Same.refl _)⟩
      · have smB := smH'.trans sm2
        refine ⟨pb, _, rfl, SqL.of hb, _, rfl, ?_⟩
        rw [show ((((numbered (allL recs sure)).filter fun t => t.2.1.x == x).map fun t => endOf recs t.1 t.2.1).map fun e => decide (e < (day : Int))).all id = ((numbered (allL recs sure)).filter fun t => t.2.1.x == x).all fun t => decide (endOf recs t.1 t.2.1 < (day : Int)) by rw [List.all_map, List.all_map] <;> rfl]
        refine ite2 (fun z1 => ?_) (fun z1 => ?_)
        · refine ⟨_, rfl, h, c.H, dx, _, _, rfl, smB _ _ hh, T.clH, T.nH_station, ho_station, s, dy, _, rfl, smB _ _ hs, st_no_has_room, s, l, k1, _, sure, rfl, hS.same smB, ?_⟩
          rw [List.length_map]
          refine ⟨_, rfl, ite2 (fun z => ?_) (fun z => ?_)⟩
          · have z := of_decide_eq_true z
            rw [if_pos ⟨z1, z⟩] at eF
            rw [eF] at q
            refine ⟨_, rfl, h, c.H, dx, _, _, rfl, smB _ _ hh, T.clH, T.nH_station, ho_station, s, dy, _, rfl, smB _ _ hs, st_no_record, _, rfl, _, rfl, _, rfl, _, rfl, _, rfl, _, _, rfl, rfl, _, _, rfl, rfl, (by show 5 ≤ sizeLine; decide), fun pp hpp => ?_⟩
            have smp := Same.upd_new (o := .tup [V.int 0, .int x, .int p, .int day, .int ((day : Int) + (w : Int) - 1)]) hpp
            have smI := smB.trans smp
            refine ⟨s, pp, l, k1, _, sure, homeNums (.lease x p day (day + w - 1)), rfl, hS.same smI, ?_, (by rw [List.length_map]; omega), fun H2 l2 st2 ch2 => ?_⟩
            · have e : (((day + w - 1 : Nat) : Nat) : Int) = (day : Int) + (w : Int) - 1 := by omega
              show upd H2 pp (.tup [V.int 0, .int x, .int p, .int day, .int ((day : Int) + (w : Int) - 1)]) pp = some (.tup [V.int 0, .int x, .int p, .int day, .int (((day + w - 1 : Nat) : Nat) : Int)])
              rw [upd_same, e]
            · exact q H2 l2 (HomeAt.put (smI _ _ hh) lh ch2 (by rw [List.map_append]; exact st2)) ((wA.same smI).keep ch2 n1) ((Ch.of_same smI).trans (ch2.mono fun n e => Or.inl e))
          · have z : ¬ recs.length < 80 := fun y => z (decide_eq_true y)
            rw [if_neg (fun y => z y.2)] at eF
            rw [eF] at q
            exact q _ l (hA.same smB) (wA.same smB) (Ch.of_same smB)
        · rw [if_neg (fun y => z1 y.1)] at eF
          rw [eF] at q
          exact iteF (q _ l (hA.same smB) (wA.same smB) (Ch.of_same smB))
end
end Pp

set_option Elab.async false
set_option linter.all false
set_option maxRecDepth 100000
set_option maxHeartbeats 2000000
namespace Pp
open PySem PySem.Spec PyProof.Rows L2
/-! ### max(list of ints, default=d) -/
def rMaxDef (K : PySem.W.Frag) : List V → List V → Hp → VK → Prop := fun vs zs H Q => ∃ (a : Addr) (ns : List Int) (d : Int), vs = [V.ref a] ∧ zs = [.int d] ∧ SqL K H a (ns.map V.int) ∧ Q (.int (maxOr d ns)) H
theorem dp_ints {K : PySem.W.Frag} {H : Hp} : ∀ ns : List Int, DpAll K H (ns.map V.int) (ns.map PyData.int)
  | [] => .nil
  | n :: r => .cons (.int n) (dp_ints r)
theorem depth_ints : ∀ ns : List Int, PyData.depthAll (ns.map PyData.int) ≤ 1
  | [] => by simp [PyData.depthAll]
  | n :: r => by
    rw [List.map_cons]
    have := depth_ints r
    simp only [PyData.depthAll, PyData.depth]
    omega
theorem alike_ints (ns : List Int) : PySem.W.AlikeAll (ns.map PyData.int) := by
  refine ⟨fun x hx y hy => ?_, fun x hx => ?_⟩
  · obtain ⟨a, _, rfl⟩ := List.mem_map.mp hx
    obtain ⟨b, _, rfl⟩ := List.mem_map.mp hy
    rfl
  · obtain ⟨a, _, rfl⟩ := List.mem_map.mp hx
    intro z
    cases z
theorem cr_maxDef {X : Cx} (hc : X.calm = true) (hu : X.A.units + 64 < cLine) : CallRK X (.builtin "max") [Str.ofString "default"] (rMaxDef X.K) := by
  intro pins s σ H vs zs us ws Q I r rz h
  obtain ⟨a, ns, d, rfl, rfl, hs, q⟩ := h
  obtain rfl := Vals.ref1 r
  obtain ⟨w1, rfl, e1⟩ := vals1 rz
  obtain ⟨td, rfl⟩ := e1
  obtain ⟨its, rv, hl, hz⟩ := I.list hs
  obtain ⟨as, hra⟩ := Dp.readsAll I _ _ _ (dp_ints (K := X.K) (H := H) ns) rv
  show wpAny _ _ (call (.builtin "max") [.ref a] [(Str.ofString "default", Value.int d td)]) _ _ _
  refine PySem.W.max_list_default (xs := ns.map PyData.int) (as := as) (I.ok.hd hc) hl.isList (by simpa using hra) (alike_ints ns) (by have := depth_ints ns; omega) (fun e h' tk hk => ?_) (fun y ys i v h' tk bs e hv hr hk => ?_)
  · have e0 : ns = [] := by simpa using e
    subst e0
    exact ⟨.int d, H, I.kept hk, ⟨_, rfl⟩, q⟩
  · cases ns with
    | nil => cases e
    | cons n r =>
      rw [List.map_cons] at e
      injection e with e1 e2
      subst e1 e2
      rw [PySem.W.maxD_ints] at hr
      cases hr with
      | int _ t => exact ⟨.int _, H, I.kept hk, ⟨_, rfl⟩, q⟩
end Pp

set_option Elab.async false
set_option linter.all false
set_option maxRecDepth 100000
set_option maxHeartbeats 2000000
namespace Pp
open PySem PySem.Spec PyProof.Rows L2
open Vbkoah (Lease HomeRec PostRec Up Down Want endedAt endOf hasBack willDo hasGiven says sendTo homeNums postNums upNums downNums)
/-! ### 8. comprehensions over rows -/
theorem lc_rows {β : Type} {K : PySem.W.Frag} {tl : TE} {a : Addr} {j : Nat} {tt : TT} {te : TE} {vs : List Nat} {σ : L2.St} {H : Hp} {Q : VK} (nums : β → Row) (ts : List Addr) (items : List β) (F : Addr → β → Option V)
    (htl : ∀ R : VK, R (.ref a) H → tl σ H R) (hx : H a = some (.lst (ts.map V.ref))) (hp : TupsAt H ts (items.map nums)) (hz : items.length ≤ 1000) (hw : ∀ x, wipe ((wipe σ vs).set j (some x)) vs = wipe σ vs)
    (hs : ∀ t b H1, Same H H1 → H1 t = some (tupO (nums b)) → b ∈ items → ∀ R : Option V → Hp → Prop, (∀ H2, Same H1 H2 → R (F t b) H2) → tt ((wipe σ vs).set j (some (.ref t))) H1 fun b' H3 => if b' = true then te ((wipe σ vs).set j (some (.ref t))) H3 fun y H4 => R (some y) H4 else R none H3)
    (hq : ∀ H' p, Same H H' → H p = none → H' p = some (.lst ((ts.zip items).filterMap fun z => F z.1 z.2)) → Q (.ref p) H') : tLc (iList K tl) (gName j) tt te vs σ H Q := by
  have hlen : ts.length = items.length := by
    have := hp.length
    rw [List.length_map] at this
    exact this
  refine lc_pure (ts.zip items) (fun z => F z.1 z.2) htl (SqL.of hx) (by rw [List.length_map, hlen]; exact hz) (by rw [List.length_zip, List.length_map, hlen, Nat.min_self]) hw (fun i x r H1 h1 h2 s R k => ?_) hq
  obtain ⟨t, ht, rfl⟩ := refs_at h1
  obtain ⟨t', b⟩ := r
  rw [List.getElem?_zip_eq_some] at h2
  obtain ⟨h3, h4⟩ := h2
  dsimp only at h3 h4
  rw [ht] at h3
  cases h3
  obtain ⟨row, hr, he⟩ := pairedAt hp ht
  rw [List.getElem?_map, h4] at hr
  cases hr
  exact hs t b H1 s (s _ _ he) (List.mem_of_getElem? h4) R k
theorem zip_snd {α β γ : Type} (F : β → Option γ) : ∀ {xs : List α} {ys : List β}, xs.length = ys.length → ((xs.zip ys).filterMap fun z => F z.2) = ys.filterMap F
  | [], [], _ => rfl
  | x :: xs, y :: ys, h => by
    rw [List.zip_cons_cons, List.filterMap_cons, List.filterMap_cons, zip_snd F (by simpa using h)]
theorem fm_bools {β : Type} (F : β → Bool) : ∀ ys : List β, (ys.filterMap fun b => some (V.bl (F b))) = (ys.map F).map V.bl
  | [] => rfl
  | y :: ys => by rw [List.filterMap_cons, fm_bools F ys]; rfl
theorem lc_rowsV {β : Type} {K : PySem.W.Frag} {tl : TE} {a : Addr} {j : Nat} {tt : TT} {te : TE} {vs : List Nat} {σ : L2.St} {H : Hp} {Q : VK} (nums : β → Row) (ts : List Addr) (items : List β) (F : β → Option V)
    (htl : ∀ R : VK, R (.ref a) H → tl σ H R) (hx : H a = some (.lst (ts.map V.ref))) (hp : TupsAt H ts (items.map nums)) (hz : items.length ≤ 1000) (hw : ∀ x, wipe ((wipe σ vs).set j (some x)) vs = wipe σ vs)
    (hs : ∀ t b H1, Same H H1 → H1 t = some (tupO (nums b)) → b ∈ items → ∀ R : Option V → Hp → Prop, (∀ H2, Same H1 H2 → R (F b) H2) → tt ((wipe σ vs).set j (some (.ref t))) H1 fun b' H3 => if b' = true then te ((wipe σ vs).set j (some (.ref t))) H3 fun y H4 => R (some y) H4 else R none H3)
    (hq : ∀ H' p, Same H H' → H p = none → H' p = some (.lst (items.filterMap F)) → Q (.ref p) H') : tLc (iList K tl) (gName j) tt te vs σ H Q := by
  refine lc_rows nums ts items (fun _ b => F b) htl hx hp hz hw hs fun H' p s hp' e => hq H' p s hp' ?_
  rw [e, zip_snd F (by have := hp.length; rw [List.length_map] at this; exact this)]
theorem lc_rowsB {β : Type} {K : PySem.W.Frag} {tl : TE} {a : Addr} {j : Nat} {te : TE} {vs : List Nat} {σ : L2.St} {H : Hp} {Q : VK} (nums : β → Row) (ts : List Addr) (items : List β) (F : β → Bool)
    (htl : ∀ R : VK, R (.ref a) H → tl σ H R) (hx : H a = some (.lst (ts.map V.ref))) (hp : TupsAt H ts (items.map nums)) (hz : items.length ≤ 1000) (hw : ∀ x, wipe ((wipe σ vs).set j (some x)) vs = wipe σ vs)
    (hs : ∀ t b H1, Same H H1 → H1 t = some (tupO (nums b)) → b ∈ items → ∀ R : VK, (∀ H2, Same H1 H2 → R (.bl (F b)) H2) → te ((wipe σ vs).set j (some (.ref t))) H1 R)
    (hq : ∀ H' p, Same H H' → H p = none → H' p = some (.lst ((items.map F).map V.bl)) → Q (.ref p) H') : tLc (iList K tl) (gName j) tYes te vs σ H Q := by
  refine lc_rowsV nums ts items (fun b => some (.bl (F b))) htl hx hp hz hw (fun t b H1 s e m R k => iteT (B := R none H1) (hs t b H1 s e m _ fun H2 s2 => k H2 s2)) fun H' p s hp' e => hq H' p s hp' ?_
  rw [e, fm_bools]
theorem ix_tupK {X : Cx} {K : PySem.W.Frag} (h : X.K = K) : IxR X (rIxT K) := h ▸ ix_tup
theorem ix_listK {X : Cx} {K : PySem.W.Frag} (h : X.K = K) : IxR X (rIxL K) := h ▸ ix_list
theorem pe_fldK {X : Cx} {K : PySem.W.Frag} {e : Expr} {f : Str} {pos : Pos} {ta : TE} (h : X.K = K) (he : PE X e ta) (hb : attributeBase e f X.env (eval e X.env) = eval e X.env) : PE X (.Attribute e f pos) (tFld K ta f) := h ▸ pe_fld he hb
/-! ### 9. a post -/
structure PAt (c : Ad) (H : Hp) (l : Lab) (k : Nat) (p dx s e a h : Addr) (x : SPost) : Prop where
  obj : H p = some (.ins c.P dx (poF s e a h))
  lp : l p = k + 4
  st : StAt c H l k s (x.recs.map postNums) x.safe
  kn : RowsAt H e (x.known.map lNums)
  lk : l e = k + 1
  wa : RowsAt H a (x.wants.map wNums)
  lw : l a = k + 2
  he : H h = some (.lst (x.heard.map fun m : Nat => V.int (m : Int)))
  lh : l h = k + 3
def PostAt (c : Ad) (H : Hp) (l : Lab) (k : Nat) (p : Addr) (x : SPost) : Prop := ∃ dx s e a h, PAt c H l k p dx s e a h x
/-- the labels of a post -/
def PL (k n : Nat) : Prop := k ≤ n ∧ n ≤ k + 4
theorem PAt.keep {c : Ad} {L : Nat → Prop} {l l' : Lab} {H H' : Hp} {k : Nat} {p dx s e a h : Addr} {x : SPost} (A : PAt c H l k p dx s e a h x) (ch : Ch L l H l' H') (n : ∀ m, PL k m → ¬ L m) : PAt c H' l' k p dx s e a h x := by
  obtain ⟨ts1, ht1⟩ := A.kn.there
  obtain ⟨ts2, ht2⟩ := A.wa.there
  exact ⟨ch.keep _ _ A.obj (by rw [A.lp]; exact n _ ⟨by omega, by omega⟩), (ch.lab _ _ A.obj).trans A.lp, A.st.keep ch (n _ ⟨by omega, by omega⟩), A.kn.keep ch (by rw [A.lk]; exact n _ ⟨by omega, by omega⟩), (ch.lab _ _ ht1).trans A.lk,
    A.wa.keep ch (by rw [A.lw]; exact n _ ⟨by omega, by omega⟩), (ch.lab _ _ ht2).trans A.lw, ch.keep _ _ A.he (by rw [A.lh]; exact n _ ⟨by omega, by omega⟩), (ch.lab _ _ A.he).trans A.lh⟩
theorem PostAt.keep {c : Ad} {L : Nat → Prop} {l l' : Lab} {H H' : Hp} {k : Nat} {p : Addr} {x : SPost} (A : PostAt c H l k p x) (ch : Ch L l H l' H') (n : ∀ m, PL k m → ¬ L m) : PostAt c H' l' k p x := by
  obtain ⟨dx, s, e, a, h, A⟩ := A
  exact ⟨dx, s, e, a, h, A.keep ch n⟩
theorem PAt.same {c : Ad} {l : Lab} {H H' : Hp} {k : Nat} {p dx s e a h : Addr} {x : SPost} (A : PAt c H l k p dx s e a h x) (sm : Same H H') : PAt c H' l k p dx s e a h x := A.keep (Ch.of_same (L := fun _ => False) sm) fun _ _ => id
theorem PostAt.same {c : Ad} {l : Lab} {H H' : Hp} {k : Nat} {p : Addr} {x : SPost} (A : PostAt c H l k p x) (sm : Same H H') : PostAt c H' l k p x := A.keep (Ch.of_same (L := fun _ => False) sm) fun _ _ => id
/-- the station is changed -/
theorem PAt.putSt {c : Ad} {l l' : Lab} {H H' : Hp} {k : Nat} {p dx s e a h : Addr} {x : SPost} {recs : List PostRec} {safe : Nat} (A : PAt c H l k p dx s e a h x) (ch : Ch (· = k) l H l' H') (st : StAt c H' l' k s (recs.map postNums) safe) : PAt c H' l' k p dx s e a h { x with recs := recs, safe := safe } := by
  obtain ⟨ts1, ht1⟩ := A.kn.there
  obtain ⟨ts2, ht2⟩ := A.wa.there
  exact ⟨ch.keep _ _ A.obj (by rw [A.lp]; omega), (ch.lab _ _ A.obj).trans A.lp, st, A.kn.keep ch (by rw [A.lk]; omega), (ch.lab _ _ ht1).trans A.lk,
    A.wa.keep ch (by rw [A.lw]; omega), (ch.lab _ _ ht2).trans A.lw, ch.keep _ _ A.he (by rw [A.lh]; omega), (ch.lab _ _ A.he).trans A.lh⟩
/-- few of all -/
def Few (x : SPost) : Prop := x.recs.length ≤ 500 ∧ x.known.length ≤ 500 ∧ x.wants.length ≤ 500 ∧ x.heard.length ≤ 500
def isGrant : PostRec → Bool
  | .grant _ _ _ _ => true
  | _ => false
def spPoInit (c : Ad) : Sp := fun vs H Q _ => ∃ (s dx : Addr) (l : Lab) (k : Nat), vs = [.ref s] ∧ H s = some (.ins c.P dx []) ∧ ∀ H' l', PostAt c H' l' k s Vbkoah.newPost → NwB s l H l' H' → Q .non H'
def spForget (c : Ad) : Sp := fun vs H Q _ => ∃ (p : Addr) (l : Lab) (k : Nat) (x : SPost) (dx s e0 a0 h0 : Addr), vs = [.ref p] ∧ PAt c H l k p dx s e0 a0 h0 x ∧
  ∀ H' l' e a h, PAt c H' l' k p dx s e a h (Vbkoah.cutPost x) → Ch (PL k) l H l' H' → Q .non H'
def spGrants (c : Ad) : Sp := fun vs H Q _ => ∃ (p : Addr) (l : Lab) (k : Nat) (x : SPost), vs = [.ref p] ∧ PostAt c H l k p x ∧ Few x ∧
  ∀ H' q, Same H H' → H q = none → RowsAt H' q ((x.recs.filter isGrant).map postNums) → Q (.ref q) H'
def spHasBack (c : Ad) : Sp := fun vs H Q _ => ∃ (p : Addr) (l : Lab) (k : Nat) (x : SPost) (m : Nat), vs = [.ref p, .int m] ∧ PostAt c H l k p x ∧ Few x ∧ ∀ H', Same H H' → Q (.bl (hasBack x m)) H'
def spLearn (c : Ad) : Sp := fun vs H Q _ => ∃ (p t : Addr) (l : Lab) (k : Nat) (x : SPost) (f : Down), vs = [.ref p, .ref t] ∧ PostAt c H l k p x ∧ Few x ∧ H t = some (tupO (downNums f)) ∧
  ∀ H' l', PostAt c H' l' k p (Vbkoah.toPost x f) → Ch (PL k) l H l' H' → Q .non H'
def spWillDo (c : Ad) : Sp := fun vs H Q _ => ∃ (p t u : Addr) (l : Lab) (k : Nat) (x : SPost) (le : Lease) (v : Want) (day : Nat), vs = [.ref p, .ref t, .ref u, .int day] ∧ PostAt c H l k p x ∧ Few x ∧ H t = some (tupO (lNums le)) ∧ H u = some (tupO (wNums v)) ∧
  ∀ H', Same H H' → Q (.bl (willDo day x le v)) H'
def spLeaseFor (c : Ad) : Sp := fun vs H Q _ => ∃ (p u : Addr) (l : Lab) (k : Nat) (x : SPost) (v : Want) (day : Nat), vs = [.ref p, .ref u, .int day] ∧ PostAt c H l k p x ∧ Few x ∧ H u = some (tupO (wNums v)) ∧
  (x.known.find? (fun le => willDo day x le v) = none → ∀ H', Same H H' → Q .non H') ∧
  (∀ le, x.known.find? (fun le => willDo day x le v) = some le → ∀ H' t, Same H H' → H' t = some (tupO (lNums le)) → Q (.ref t) H')
def spHasGiven (c : Ad) : Sp := fun vs H Q _ => ∃ (p : Addr) (l : Lab) (k : Nat) (x : SPost) (b day : Nat), vs = [.ref p, .int b, .int day] ∧ PostAt c H l k p x ∧ Few x ∧ ∀ H', Same H H' → Q (.bl (hasGiven day x b)) H'
theorem filt_grants (H : Hp) : ∀ {ts : List Addr} {recs : List PostRec}, TupsAt H ts (recs.map postNums) → ∃ ts', ((ts.zip recs).filterMap fun z => if isGrant z.2 = true then some (V.ref z.1) else none) = ts'.map V.ref ∧ TupsAt H ts' ((recs.filter isGrant).map postNums)
  | [], [], _ => ⟨[], rfl, .nil⟩
  | t :: ts, r :: recs, .cons e h => by
    obtain ⟨ts', h1, h2⟩ := filt_grants H h
    cases hg : isGrant r with
    | true =>
      refine ⟨t :: ts', ?_, ?_⟩
      · rw [List.zip_cons_cons, List.filterMap_cons]
        dsimp only
        rw [if_pos hg, h1]
        rfl
      · rw [List.filter_cons, if_pos hg]
        exact .cons e h2
    | false =>
      refine ⟨ts', ?_, ?_⟩
      · rw [List.zip_cons_cons, List.filterMap_cons]
        dsimp only
        rw [if_neg (by rw [hg]; exact Bool.false_ne_true), h1]
      · rw [List.filter_cons, if_neg (by rw [hg]; exact Bool.false_ne_true)]
        exact h2
section
variable {P : Program} {w : World} {K : PySem.W.Frag} {mg : Str → Option Value} {base : Heap} {c : Ad} {fI : Addr}
theorem ok_Post_grants (T : Txt K mg c fI) {f : Addr} {fd : FuncData} (F : Fun K "grants" "Post.grants" s_Post_grants f fd) : FnOk P w K mg base CX0 1 f fd ["self"] (spGrants c) := by
  refine F.ok sc_Post_grants (fun vs H Q E h => ?_) (fun cdv A outer s H vs Q E hr h => ?_)
  · obtain ⟨p, l, k, x, rfl, _⟩ := h
    rfl
  · obtain ⟨p, l, k, x, rfl, ⟨dx, s, e, a, hd, A⟩, few, q⟩ := h
    refine ⟨_, (pss_one (ps_ret (pe_lc (own := [("record", 1)]) (g := gName 1) rfl sc_Post_grants.nd (pi_list (pe_fld (pe_fld (pv 0) rfl) rfl)) (blkOk_by (own := [("record", 1)]) (N := N_Post_grants) (sc := defScope s_Post_grants) (by decide +kernel)) (fun _ _ _ _ _ => pg_name (i := 1) sc_Post_grants.nd rfl (Or.inl rfl)) (fun _ _ _ _ _ => pts_one (pt_cmpR op_eq (pe_ix (ix_tupK (K := K) rfl) (pv 1) pe_int (fun _ _ => rfl)) (pe_gint rfl T.i_GRANT) (nomark _))) (fun _ _ _ _ _ => (pv 1))))), ?_⟩
    obtain ⟨dy, r, hs, ⟨ts, ht, hp⟩, ls, lr⟩ := A.st
    refine lc_rows (a := r) postNums ts x.recs (fun t b => if isGrant b = true then some (.ref t) else none) (fun R k => ⟨_, rfl, p, c.P, dx, _, _, rfl, A.obj, T.clP, T.nP_station, po_station, s, c.S, dy, _, _, rfl, hs, T.clS, T.nS_records, st_records, k⟩) ht hp (by have := few.1; omega) (by intro _; rfl)
      (fun t b H1 sm hb _ R k => ?_) (fun H' q' sm hq' hl => ?_)
    · refine ⟨_, rfl, t, postNums b |>.map V.int, _, .int (if isGrant b = true then 0 else 1), rfl, rfl, SqT.of hb, ?_, rfl, _, rfl, ?_⟩
      · cases b <;> exact rix (j := 0) rfl rfl
      · cases b with
        | grant m kk f t' => exact iteT ⟨_, rfl, k H1 (Same.refl _)⟩
        | back m e b => exact iteF (k H1 (Same.refl _))
    · obtain ⟨ts', h1, h2⟩ := filt_grants H hp
      exact q H' q' sm hq' ⟨ts', by rw [hl, h1], TupsAt.mono (fun b xs e => sm _ _ e) h2⟩
theorem ok_Post_has_back (T : Txt K mg c fI) {f : Addr} {fd : FuncData} (F : Fun K "has_back" "Post.has_back" s_Post_has_back f fd) : FnOk P w K mg base CX0 1 f fd ["self", "lease"] (spHasBack c) := by
  refine F.ok sc_Post_has_back (fun vs H Q E h => ?_) (fun cdv A outer s H vs Q E hr h => ?_)
  · obtain ⟨p, l, k, x, m, rfl, _⟩ := h
    rfl
  · obtain ⟨p, l, k, x, m, rfl, ⟨dx, s, e, a, hd, A⟩, few, q⟩ := h
    refine ⟨_, (pss_one (ps_ret (pe_callB (cr_any rfl) (by rfl) T.z_any (by decide +kernel) (pa_cons (pe_lc (own := [("record", 2)]) (g := gName 2) (tt := tYes) rfl sc_Post_has_back.nd (pi_list (pe_fld (pe_fld (pv 0) rfl) rfl)) (blkOk_by (own := [("record", 2)]) (N := N_Post_has_back) (sc := defScope s_Post_has_back) (by decide +kernel)) (fun _ _ _ _ _ => pg_name (i := 2) sc_Post_has_back.nd rfl (Or.inl rfl)) (fun _ _ _ _ _ => pts_nil) (fun _ _ _ _ _ => (pe_and (pe_cmpR op_eq (pe_ix (ix_tupK (K := K) rfl) (pv 2) pe_int (fun _ _ => rfl)) (pe_gint rfl T.i_BACK) (nomark _)) (pe_one (pe_cmpR op_eq (pe_ix (ix_tupK (K := K) rfl) (pv 2) pe_int (fun _ _ => rfl)) (pv 1) (nomark _)))))) pa_nil)))), ?_⟩
    obtain ⟨dy, r, hs, ⟨ts, ht, hp⟩, ls, lr⟩ := A.st
    dsimp only [tRet, tCB, tCons]
    refine lc_rowsB (a := r) postNums ts x.recs (fun r => match r with | .back k _ _ => k == m | _ => false) (fun R k => ⟨_, rfl, p, c.P, dx, _, _, rfl, A.obj, T.clP, T.nP_station, po_station, s, c.S, dy, _, _, rfl, hs, T.clS, T.nS_records, st_records, k⟩) ht hp (by have := few.1; omega) (by intro _; rfl)
      (fun t b H1 sm hb _ R k => ?_) (fun H' q' sm hq' hl => ?_)
    · cases b with
      | grant m' kk f t' =>
        refine ⟨_, rfl, t, _, _, _, rfl, rfl, SqT.of hb, rix (j := 0) rfl rfl, rfl, _, rfl, iteF (k H1 (Same.refl _))⟩
      | back m' e' b' =>
        refine ⟨_, rfl, t, _, _, _, rfl, rfl, SqT.of hb, rix (j := 0) rfl rfl, rfl, _, rfl, iteT ⟨_, rfl, t, _, _, _, rfl, rfl, SqT.of hb, rix (j := 1) rfl rfl, _, rfl, rfl, ?_⟩⟩
        have := k H1 (Same.refl _)
        dsimp only at this
        rw [← bnat, ← dec_vint] at this
        exact this
    · refine ⟨q', _, rfl, SqL.of hl, ?_⟩
      have := q H' sm
      unfold hasBack at this
      rw [List.any_map]
      exact this
theorem ok_will_do (T : Txt K mg c fI) {fM_Post_has_back : Addr} {fdM_Post_has_back : FuncData} (M_Post_has_back : MG P w K mg base c.P 1 "has_back" ["self", "lease"] (spHasBack c) fM_Post_has_back fdM_Post_has_back) {f : Addr} {fd : FuncData} (F : Fun K "will_do" "will_do" s_will_do f fd) : FnOk P w K mg base CX0 2 f fd ["post", "lease", "want", "day"] (spWillDo c) := by
  refine F.ok sc_will_do (fun vs H Q E h => ?_) (fun cdv A outer s H vs Q E hr h => ?_)
  · obtain ⟨p, t, u, l, k, x, le, v, day, rfl, _⟩ := h
    rfl
  · obtain ⟨p, t, u, l, k, x, le, v, day, rfl, PA, few, ht, hu, q⟩ := h
    refine ⟨_, (pss_cons (ps_asg (pv 1) (pg_tup rfl (pgs_cons (pg_name (i := 4) sc_will_do.nd rfl (Or.inl rfl)) (pgs_cons (pg_name (i := 5) sc_will_do.nd rfl (Or.inl rfl)) (pgs_cons (pg_name (i := 6) sc_will_do.nd rfl (Or.inl rfl)) (pgs_cons (pg_name (i := 7) sc_will_do.nd rfl (Or.inl rfl)) pgs_nil))))))
        (pss_cons (ps_if (PW.pt (pw_or (pt_cmpR op_ne (pv 5) (pe_ix ix_tup (pv 2) pe_int (fun _ _ => rfl)) (nomark _)) (pw_or (pt_cmpR op_gt (pv 6) (pv 3) (nomark _)) (pw_or1 (pt_cmpR op_gt (pe_op op_sub (pe_op op_add (pv 3) (pe_ix ix_tup (pv 2) pe_int (fun _ _ => rfl))) pe_int) (pv 7) (nomark _))))))
        (pss_one (ps_ret pe_bl))
        pss_nil)
        (pss_one (ps_ret (pe_not (pe_meth (pv 0) T.clP M_Post_has_back.m M_Post_has_back.ok (hr.mono (by decide)) M_Post_has_back.b .nil pass0 (pa_cons (pv 4) pa_nil))))))), ?_⟩
    obtain ⟨dx, s, e, a, hd, A⟩ := id PA
    have q0 := q
    refine ⟨_, rfl, t, _, rfl, SqT.of ht, rfl, _, _, rfl, _, _, rfl, _, _, rfl, _, _, rfl, rfl, ?_⟩
    refine ⟨_, rfl, _, rfl, u, _, _, _, rfl, rfl, SqT.of hu, rix (j := 0) rfl rfl, rfl, _, rfl, ?_⟩
    have fin : ∀ b : Bool, willDo day x le v = b → ∀ H', Same H H' → Q (.bl b) H' := fun b hb H' s => by rw [← hb]; exact q H' s
    rw [dec_vint, bnat]
    cases h1 : le.x == v.x with
    | false => exact iteT (iteT (fin false (by unfold willDo; rw [h1] <;> rfl) H (Same.refl _)))
    | true =>
      refine iteF ⟨_, rfl, _, rfl, _, _, rfl, rfl, _, rfl, ?_⟩
      by_cases h2 : le.a ≤ day
      · refine if_false_of (decide_eq_false (by omega)) ⟨_, rfl, _, rfl, u, _, _, _, rfl, rfl, SqT.of hu, rix (j := 1) rfl rfl, _, _, rfl, rfl, _, _, rfl, rfl, _, rfl, _, _, rfl, rfl, _, rfl, ?_⟩
        by_cases h3 : day + v.long ≤ le.b + 1
        · refine if_false_of (decide_eq_false (by omega)) ⟨_, rfl, p, dx, _, rfl, A.obj, po_no_has_back, _, rfl, p, l, k, x, le.m, rfl, PA, few, fun H1 sm => ⟨_, rfl, ?_⟩⟩
          refine fin _ ?_ H1 sm
          unfold willDo
          rw [h1, decide_eq_true (show le.a ≤ day ∧ day + v.long ≤ le.b + 1 from ⟨h2, h3⟩)]
          simp
        · refine if_true_of (decide_eq_true (by omega)) (fin false ?_ H (Same.refl _))
          unfold willDo
          rw [decide_eq_false (show ¬ (le.a ≤ day ∧ day + v.long ≤ le.b + 1) from fun z => h3 z.2)]
          simp
      · refine if_true_of (decide_eq_true (by omega)) (iteT (fin false ?_ H (Same.refl _)))
        unfold willDo
        rw [decide_eq_false (show ¬ (le.a ≤ day ∧ day + v.long ≤ le.b + 1) from fun z => h2 z.1)]
        simp
theorem ok_lease_for (T : Txt K mg c fI) {fG_will_do : Addr} {fdG_will_do : FuncData} (G_will_do : FG P w K mg base CX0 2 "will_do" ["post", "lease", "want", "day"] (spWillDo c) fG_will_do fdG_will_do) {f : Addr} {fd : FuncData} (F : Fun K "lease_for" "lease_for" s_lease_for f fd) : FnOk P w K mg base CX0 3 f fd ["post", "want", "day"] (spLeaseFor c) := by
  refine F.ok sc_lease_for (fun vs H Q E h => ?_) (fun cdv A outer s H vs Q E hr h => ?_)
  · obtain ⟨p, u, l, k, x, v, day, rfl, _⟩ := h
    rfl
  · obtain ⟨p, u, l, k, x, v, day, rfl, PA, few, hu, q1, q2⟩ := h
    refine ⟨_, (pss_cons (ps_for PassesOwn.never rfl (pi_list (pe_fld (pv 0) rfl)) (pg_name (i := 3) sc_lease_for.nd rfl (Or.inl rfl))
        (pss_one (ps_if (pt_val (pe_call G_will_do.ok (hr.mono (by decide)) rfl G_will_do.g G_will_do.kp G_will_do.b .nil pass0 (pa_cons (pv 0) (pa_cons (pv 3) (pa_cons (pv 1) (pa_cons (pv 2) pa_nil))))))
        (pss_one (ps_ret (pv 3)))
        pss_nil)))
        (pss_one (ps_ret pe_non))), ?_⟩
    obtain ⟨dx, s, e, a, hd, A⟩ := id PA
    obtain ⟨ts, ht, hp⟩ := A.kn
    refine ⟨_, rfl, p, c.P, dx, _, _, rfl, A.obj, T.clP, T.nP_leases, po_leases, e, rfl, ⟨_, SqL.of ht⟩, ?_⟩
    refine for_list (K := K) (a := e) (xs := ts.map V.ref) (fun i σ H' => ∃ v3, σ = [some (.ref p), some (.ref u), some (.int day), v3] ∧ Same H H' ∧ ∀ j le, j < i → x.known[j]? = some le → willDo day x le v = false)
      ⟨_, rfl, Same.refl _, fun j _ z => absurd z (Nat.not_lt_zero _)⟩ (fun i σ H' _ ⟨_, _, sm, _⟩ => SqL.of (sm _ _ ht)) ?_ ?_
    · rintro i y σ H' hi ⟨v3, rfl, sm, hno⟩
      obtain ⟨t, hti, rfl⟩ := refs_at hi
      obtain ⟨row, hrow, htr⟩ := pairedAt hp hti
      rw [List.getElem?_map] at hrow
      obtain ⟨le, hle, rfl⟩ := Option.map_eq_some_iff.mp hrow
      refine ⟨_, rfl, _, rfl, _, rfl, _, rfl, p, t, u, l, k, x, le, v, day, rfl, PA.same sm, few, sm _ _ htr, sm _ _ hu, fun H1 sm1 => ⟨_, rfl, ?_⟩⟩
      have sm2 := sm.trans sm1
      cases hwd : willDo day x le v with
      | true =>
        refine iteT ⟨_, rfl, q2 le ?_ H1 t sm2 (sm2 _ _ htr)⟩
        rw [List.find?_eq_some_iff_getElem]
        obtain ⟨hl1, hl2⟩ := List.getElem?_eq_some_iff.mp hle
        refine ⟨hwd, i, hl1, hl2, fun j hj => ?_⟩
        have := hno j _ hj (List.getElem?_eq_getElem (Nat.lt_trans hj hl1))
        simp [this]
      | false =>
        refine iteF ⟨_, rfl, sm2, fun j le' hj hl' => ?_⟩
        by_cases hji : j < i
        · exact hno j le' hji hl'
        · have : j = i := by omega
          subst this
          rw [hle] at hl'
          cases hl'
          exact hwd
    · rintro σ H' ⟨v3, rfl, sm, hno⟩
      rw [List.length_map, hp.length, List.length_map] at hno
      refine q1 ?_ H' sm
      rw [List.find?_eq_none]
      intro le hle
      obtain ⟨j, hj1, hj2⟩ := List.getElem_of_mem hle
      rw [hno j le hj1 (by rw [List.getElem?_eq_getElem hj1, hj2])]
      exact Bool.false_ne_true
theorem ok_has_given (T : Txt K mg c fI) {fM_Post_grants : Addr} {fdM_Post_grants : FuncData} (M_Post_grants : MG P w K mg base c.P 1 "grants" ["self"] (spGrants c) fM_Post_grants fdM_Post_grants) {f : Addr} {fd : FuncData} (F : Fun K "has_given" "has_given" s_has_given f fd) : FnOk P w K mg base CX0 2 f fd ["post", "book", "day"] (spHasGiven c) := by
  refine F.ok sc_has_given (fun vs H Q E h => ?_) (fun cdv A outer s H vs Q E hr h => ?_)
  · obtain ⟨p, l, k, x, b, day, rfl, _⟩ := h
    rfl
  · obtain ⟨p, l, k, x, b, day, rfl, PA, few, q⟩ := h
    refine ⟨_, (pss_one (ps_ret (pe_callB (cr_any rfl) (by rfl) T.z_any (by decide +kernel) (pa_cons (pe_lc (own := [("record", 3)]) (g := gName 3) (tt := tYes) rfl sc_has_given.nd (pi_list (pe_meth0 (pv 0) T.clP M_Post_grants.m M_Post_grants.ok (hr.mono (by decide)) M_Post_grants.b .nil pass0)) (blkOk_by (own := [("record", 3)]) (N := N_has_given) (sc := defScope s_has_given) (by decide +kernel)) (fun _ _ _ _ _ => pg_name (i := 3) sc_has_given.nd rfl (Or.inl rfl)) (fun _ _ _ _ _ => pts_nil) (fun _ _ _ _ _ => (pe_and (pe_cmpR op_eq (pe_ix (ix_tupK (K := K) rfl) (pv 3) pe_int (fun _ _ => rfl)) (pv 1) (nomark _)) (pe_one (pe_cmpR op_ge (pe_ix (ix_tupK (K := K) rfl) (pv 3) pe_int (fun _ _ => rfl)) (pv 2) (nomark _)))))) pa_nil)))), ?_⟩
    obtain ⟨dx, s, e, a, hd, A⟩ := id PA
    dsimp only [tRet, tCB, tCons, tLc, iList, tMeth, tNil]
    refine ⟨_, rfl, p, dx, _, rfl, A.obj, po_no_grants, p, l, k, x, rfl, PA, few, fun H1 g sm hg hR => ?_⟩
    obtain ⟨ts, ht, hp⟩ := hR
    have hlen : (x.recs.filter isGrant).length ≤ 500 := Nat.le_trans (List.length_filter_le _ _) few.1
    have key := lc_rowsB (K := K) (tl := fun _ H R => R (.ref g) H) (a := g) (j := 3) (te := tAndV (tOp rEq (tOp (rIxT K) (tVar 3) (tC (.int 2))) (tVar 1)) (tOp (rI0 fun i j => .bl (decide (j ≤ i))) (tOp (rIxT K) (tVar 3) (tC (.int 4))) (tVar 2))) (vs := [3]) (σ := [some (.ref p), some (.int b), some (.int day), none]) (H := H1)
      (Q := fun y H' => rAny K [y] H' Q) postNums ts (x.recs.filter isGrant) (fun r => match r with | .grant _ y _ t => y == b && decide (day ≤ t) | _ => false) (fun R k => k) ht hp (by omega) (by intro _; rfl)
      (fun t r H2 sm2 hb mem R k => ?_) (fun H' q' sm2 hq' hl => ?_)
    · obtain ⟨a', ha', _, hh⟩ := key
      cases ha'
      exact ⟨g, rfl, ⟨_, SqL.of ht⟩, hh⟩
    · cases r with
      | back m' e' b' =>
        have := (List.mem_filter.mp mem).2
        cases this
      | grant m' y f' t' =>
        refine ⟨_, rfl, t, _, _, _, rfl, rfl, SqT.of hb, rix (j := 2) rfl rfl, _, rfl, rfl, _, rfl, ?_⟩
        rw [dec_vint]
        have := k H2 (Same.refl _)
        dsimp only at this
        have e1 : ((y : Int) == (b : Int)) = (y == b) := bnat
        show if ((y : Int) == (b : Int)) = true then _ else _
        rw [e1]
        cases hyb : y == b with
        | false =>
          rw [hyb] at this
          exact iteF this
        | true =>
          rw [hyb] at this
          refine iteT ⟨_, rfl, t, _, _, _, rfl, rfl, SqT.of hb, rix (j := 4) rfl rfl, _, rfl, _, _, rfl, rfl, ?_⟩
          have e2 : decide ((day : Int) ≤ (t' : Int)) = decide (day ≤ t') := decide_eq_decide.mpr (by omega)
          show R (.bl (decide ((day : Int) ≤ (t' : Int)))) H2
          rw [e2]
          simpa using this
    · refine ⟨q', _, rfl, SqL.of hl, ?_⟩
      have := q H' (sm.trans sm2)
      unfold hasGiven at this
      rw [List.any_map]
      have e : (x.recs.filter isGrant).any (id ∘ fun r => match r with | .grant _ y _ t => y == b && decide (day ≤ t) | _ => false) = x.recs.any fun r => match r with | .grant _ y _ t => y == b && decide (day ≤ t) | _ => false := by
        rw [List.any_filter]
        congr 1
        funext r
        cases r <;> simp [isGrant]
      rw [e]
      exact this
end
end Pp

set_option Elab.async false
set_option linter.all false
set_option maxRecDepth 100000
set_option maxHeartbeats 2000000
namespace Pp
open PySem PySem.Spec PyProof.Rows L2
open Vbkoah (Lease HomeRec PostRec Up Down Want endedAt endOf hasBack willDo hasGiven says sendTo homeNums postNums upNums downNums)
def spDoesGo (c : Ad) : Sp := fun vs H Q _ => ∃ (p u : Addr) (l : Lab) (k : Nat) (x : SPost) (v : Want) (day : Nat), vs = [.ref p, .ref u, .int day] ∧ PostAt c H l k p x ∧ Few x ∧ H u = some (tupO (wNums v)) ∧ 1 ≤ day + v.long ∧
  ∀ H' l', PostAt c H' l' k p (goF day x v).2 → Ch (· = k) l H l' H' → Q (.bl (goF day x v).1) H'
def spLastDay (c : Ad) : Sp := fun vs H Q _ => ∃ (p t : Addr) (l : Lab) (k : Nat) (x : SPost) (le : Lease), vs = [.ref p, .ref t] ∧ PostAt c H l k p x ∧ Few x ∧ H t = some (tupO (lNums le)) ∧ ∀ H', Same H H' → Q (.int (lastP x le)) H'
def spBack (c : Ad) : Sp := fun vs H Q _ => ∃ (p t : Addr) (l : Lab) (k : Nat) (x : SPost) (le : Lease) (day : Nat), vs = [.ref p, .ref t, .int day] ∧ PostAt c H l k p x ∧ Few x ∧ H t = some (tupO (lNums le)) ∧
  ∀ H' l', PostAt c H' l' k p (backP day x le) → Ch (· = k) l H l' H' → Q .non H'
theorem ends_eq (x : SPost) (m : Nat) : ((x.recs.filter isGrant).filterMap fun r => match r with | .grant k _ _ t => if k = m then some (t : Int) else none | _ => none) = endsOf x m := by
  unfold endsOf
  rw [List.filterMap_filter]
  congr 1
  funext r
  cases r <;> simp [isGrant]
theorem fm_ints {β : Type} (F : β → Option Int) : ∀ ys : List β, (ys.filterMap fun b => (F b).map V.int) = (ys.filterMap F).map V.int
  | [] => rfl
  | y :: ys => by
    rw [List.filterMap_cons, List.filterMap_cons, fm_ints F ys]
    cases F y <;> rfl
section
variable {P : Program} {w : World} {K : PySem.W.Frag} {mg : Str → Option Value} {base : Heap} {c : Ad} {fI : Addr}
theorem ok_Post_init (T : Txt K mg c fI) {fC_Station : Addr} {fdC_Station : FuncData} (C_Station : CG P w K mg base c.S "Station" 1 ["self"] (spStInit c) fC_Station fdC_Station) {f : Addr} {fd : FuncData} (F : Fun K "__init__" "Post.__init__" s_Post_init f fd) : FnOk P w K mg base CX0 3 f fd ["self"] (spPoInit c) := by
  refine F.ok sc_Post_init (fun vs H Q E h => ?_) (fun cdv A outer s H vs Q E hr h => ?_)
  · obtain ⟨s, dx, l, k, rfl, _⟩ := h
    rfl
  · obtain ⟨p, dx, l, k, rfl, hp, q⟩ := h
    refine ⟨_, (pss_cons (ps_fld (pv 0) (pe_make0 C_Station.mk_ C_Station.ok (hr.mono (by decide)) rfl C_Station.g C_Station.b .nil pass0) rfl)
        (pss_cons (ps_fld (pv 0) (pe_lst pa_nil) rfl)
        (pss_cons (ps_fld (pv 0) (pe_lst pa_nil) rfl)
        (pss_one (ps_fld (pv 0) (pe_lst pa_nil) rfl))))), ?_⟩
    intro x dy nx ndx nex
    refine ⟨x, dy, l, k, rfl, upd_same, fun H1 l1 S N => ⟨rfl, ?_⟩⟩
    have npx : p ≠ x := ne_of_none hp nx
    have npd : p ≠ dy := ne_of_none hp ndx
    have hp1 := N p (.ins c.P dx []) (by rw [upd_ne npx, upd_ne npd]; exact hp) npx
    refine ⟨_, rfl, p, c.P, dx, [], rfl, hp1.1, T.clP, T.nP_station, (by show 0 < 1000; decide), Nat.zero_le _, fun e he => ?_⟩
    rw [po_mk_station] at he ⊢
    have e1 : p ≠ e := ne_of_none upd_same he
    refine ⟨_, rfl, p, c.P, dx, _, rfl, (by rw [upd_ne e1, upd_same]), T.clP, T.nP_leases, (by show 1 < 1000; decide), Nat.zero_le _, fun a ha => ?_⟩
    rw [po_mk_leases] at ha ⊢
    have e2 : p ≠ a := ne_of_none upd_same ha
    refine ⟨_, rfl, p, c.P, dx, _, rfl, (by rw [upd_ne e2, upd_same]), T.clP, T.nP_wants, (by show 2 < 1000; decide), Nat.zero_le _, fun h hh => ?_⟩
    rw [po_mk_wants] at hh ⊢
    have e3 : p ≠ h := ne_of_none upd_same hh
    refine ⟨_, rfl, p, c.P, dx, _, rfl, (by rw [upd_ne e3, upd_same]), T.clP, T.nP_heard, (by show 3 < 1000; decide), ?_⟩
    rw [po_mk_heard]
    -- what was there ahead of the four stores stands
    have he' : H1 e = none := by rw [upd_ne e1.symm] at he; exact he
    have ha' : H1 a = none ∧ a ≠ e := by
      have hne : a ≠ e := fun z => by rw [z, upd_ne e1.symm, upd_same] at ha; cases ha
      rw [upd_ne e2.symm, upd_ne hne, upd_ne e2.symm] at ha
      exact ⟨ha, hne⟩
    have hh' : H1 h = none ∧ h ≠ e ∧ h ≠ a := by
      have n1 : h ≠ a := fun z => by rw [z, upd_ne e2.symm, upd_same] at hh; cases hh
      have n2 : h ≠ e := fun z => by rw [z, upd_ne e1.symm, upd_ne ha'.2.symm, upd_ne e1.symm, upd_same] at hh; cases hh
      rw [upd_ne e3.symm, upd_ne n1, upd_ne e3.symm, upd_ne n2, upd_ne e3.symm] at hh
      exact ⟨hh, n2, n1⟩
    have old : ∀ b o, H1 b = some o → b ≠ p → b ≠ e ∧ b ≠ a ∧ b ≠ h := fun b o eb n => ⟨ne_of_none eb he', ne_of_none eb ha'.1, ne_of_none eb hh'.1⟩
    obtain ⟨dz, r, z1, ⟨ts, zt, zp⟩, z3, z4⟩ := S
    have nsp : x ≠ p := npx.symm
    have nrp : r ≠ p := ne_of zt hp1.1 (by intro z; cases z)
    have os := old x _ z1 nsp
    have or' := old r _ zt nrp
    refine q _ (setL (setL (setL (setL l1 e (k + 1)) a (k + 2)) h (k + 3)) p (k + 4)) ⟨dx, x, e, a, h, upd_same, setL_same, ⟨dz, r, ?_, ⟨ts, ?_, TupsAt.mono ?_ zp⟩, ?_, ?_⟩, ⟨[], ?_, .nil⟩, ?_, ⟨[], ?_, .nil⟩, ?_, ?_, ?_⟩ fun b o eb n => ?_
    · rw [upd_ne nsp, upd_ne os.2.2, upd_ne nsp, upd_ne os.2.1, upd_ne nsp, upd_ne os.1, upd_ne nsp]; exact z1
    · rw [upd_ne nrp, upd_ne or'.2.2, upd_ne nrp, upd_ne or'.2.1, upd_ne nrp, upd_ne or'.1, upd_ne nrp]; exact zt
    · intro b xs eb
      have nb : b ≠ p := ne_of eb hp1.1 (by intro z; cases z)
      have ob := old b _ eb nb
      rw [upd_ne nb, upd_ne ob.2.2, upd_ne nb, upd_ne ob.2.1, upd_ne nb, upd_ne ob.1, upd_ne nb]; exact eb
    · rw [setL_ne nsp, setL_ne os.2.2, setL_ne os.2.1, setL_ne os.1]; exact z3
    · rw [setL_ne nrp, setL_ne or'.2.2, setL_ne or'.2.1, setL_ne or'.1]; exact z4
    · rw [upd_ne e1.symm, upd_ne hh'.2.1.symm, upd_ne e1.symm, upd_ne ha'.2.symm, upd_ne e1.symm, upd_same] <;> rfl
    · rw [setL_ne e1.symm, setL_ne hh'.2.1.symm, setL_ne ha'.2.symm, setL_same]
    · rw [upd_ne e2.symm, upd_ne hh'.2.2.symm, upd_ne e2.symm, upd_same] <;> rfl
    · rw [setL_ne e2.symm, setL_ne hh'.2.2.symm, setL_same]
    · rw [upd_ne e3.symm, upd_same] <;> rfl
    · rw [setL_ne e3.symm, setL_same]
    · have := N b o (by rw [upd_ne (ne_of_none eb nx), upd_ne (ne_of_none eb ndx)]; exact eb) (ne_of_none eb nx)
      have ob := old b _ this.1 n
      rw [upd_ne n, upd_ne ob.2.2, upd_ne n, upd_ne ob.2.1, upd_ne n, upd_ne ob.1, upd_ne n, setL_ne n, setL_ne ob.2.2, setL_ne ob.2.1, setL_ne ob.1]
      exact this
theorem ok_does_go (T : Txt K mg c fI) {fM_Station_has_room : Addr} {fdM_Station_has_room : FuncData} (M_Station_has_room : MG P w K mg base c.S 1 "has_room" ["self"] (spHasRoom c) fM_Station_has_room fdM_Station_has_room) {fM_Station_record : Addr} {fdM_Station_record : FuncData} (M_Station_record : MG P w K mg base c.S 1 "record" ["self", "row"] (spRecord c) fM_Station_record fdM_Station_record) {fG_lease_for : Addr} {fdG_lease_for : FuncData} (G_lease_for : FG P w K mg base CX0 3 "lease_for" ["post", "want", "day"] (spLeaseFor c) fG_lease_for fdG_lease_for) {fG_has_given : Addr} {fdG_has_given : FuncData} (G_has_given : FG P w K mg base CX0 2 "has_given" ["post", "book", "day"] (spHasGiven c) fG_has_given fdG_has_given) {f : Addr} {fd : FuncData} (F : Fun K "does_go" "does_go" s_does_go f fd) : FnOk P w K mg base CX0 4 f fd ["post", "want", "day"] (spDoesGo c) := by
  refine F.ok sc_does_go (fun vs H Q E h => ?_) (fun cdv A outer s H vs Q E hr h => ?_)
  · obtain ⟨p, u, l, k, x, v, day, rfl, _⟩ := h
    rfl
  · obtain ⟨p, u, l, k, x, v, day, rfl, PA, few, hu, hlong, q⟩ := h
    refine ⟨_, (pss_cons (ps_if (pt_val (pe_call G_has_given.ok (hr.mono (by decide)) rfl G_has_given.g G_has_given.kp G_has_given.b .nil pass0 (pa_cons (pv 0) (pa_cons (pe_ix ix_tup (pv 1) pe_int (fun _ _ => rfl)) (pa_cons (pv 2) pa_nil)))))
        (pss_one (ps_ret pe_bl))
        pss_nil)
        (pss_cons (ps_set (i := 3) sc_does_go.nd rfl (Or.inl rfl) (pe_call G_lease_for.ok (hr.mono (by decide)) rfl G_lease_for.g G_lease_for.kp G_lease_for.b .nil pass0 (pa_cons (pv 0) (pa_cons (pv 1) (pa_cons (pv 2) pa_nil)))))
        (pss_cons (ps_if (PW.pt (pw_or (pt_cmpR op_isN (pv 3) pe_non (nomark _)) (pw_or1 (pt_not (pt_val (pe_meth0 (pe_fld (pv 0) rfl) T.clS M_Station_has_room.m M_Station_has_room.ok (hr.mono (by decide)) M_Station_has_room.b .nil pass0))))))
        (pss_one (ps_ret pe_bl))
        pss_nil)
        (pss_cons (ps_expr (pe_meth (pe_fld (pv 0) rfl) T.clS M_Station_record.m M_Station_record.ok (hr.mono (by decide)) M_Station_record.b .nil pass0 (pa_cons (pe_tup (pa_cons (pe_gint rfl T.i_GRANT) (pa_cons (pe_ix ix_tup (pv 3) pe_int (fun _ _ => rfl)) (pa_cons (pe_ix ix_tup (pv 1) pe_int (fun _ _ => rfl)) (pa_cons (pv 2) (pa_cons (pe_op op_sub (pe_op op_add (pv 2) (pe_ix ix_tup (pv 1) pe_int (fun _ _ => rfl))) pe_int) pa_nil)))))) pa_nil)))
        (pss_one (ps_ret pe_bl)))))), ?_⟩
    obtain ⟨dx, s, e, a, hd, A⟩ := id PA
    obtain ⟨dy, r, hs, ⟨ts, ht, hp⟩, ls, lr⟩ := id A.st
    refine ⟨_, rfl, _, rfl, u, _, _, _, rfl, rfl, SqT.of hu, rix (j := 0) rfl rfl, _, rfl, p, l, k, x, v.x, day, rfl, PA, few, fun H1 sm1 => ⟨_, rfl, ?_⟩⟩
    cases hg : hasGiven day x v.x with
    | true =>
      have eF : goF day x v = (true, x) := by unfold goF; rw [hg] <;> rfl
      rw [eF] at q
      exact iteT (q H1 l (PA.same sm1) (Ch.of_same sm1))
    | false =>
      refine iteF ⟨_, rfl, _, rfl, _, rfl, p, u, l, k, x, v, day, rfl, PA.same sm1, few, sm1 _ _ hu, fun hf H2 sm2 => ?_, fun le hf H2 t sm2 htl => ?_⟩
      · have eF : goF day x v = (false, x) := by unfold goF; rw [hg]; simp only [hf, Bool.false_eq_true, if_false]
        rw [eF] at q
        have sm := sm1.trans sm2
        exact ⟨_, rfl, rfl, _, rfl, iteT (iteT (q H2 l (PA.same sm) (Ch.of_same sm)))⟩
      · have eF : goF day x v = if x.recs.length < 80 then (true, { x with recs := x.recs ++ [.grant le.m v.x day (day + v.long - 1)] }) else (false, x) := by unfold goF; rw [hg]; simp only [hf, Bool.false_eq_true, if_false]
        have sm := sm1.trans sm2
        refine ⟨_, rfl, rfl, _, rfl, iteF ⟨_, rfl, p, c.P, dx, _, _, rfl, sm _ _ A.obj, T.clP, T.nP_station, po_station, s, dy, _, rfl, sm _ _ hs, st_no_has_room, s, l, k, _, _, rfl, A.st.same sm, ?_⟩⟩
        rw [List.length_map]
        by_cases z : x.recs.length < 80
        · rw [if_pos z] at eF
          rw [eF] at q
          rw [decide_eq_true z]
          refine ⟨_, rfl, iteF ?_⟩
          refine ⟨_, rfl, p, c.P, dx, _, _, rfl, sm _ _ A.obj, T.clP, T.nP_station, po_station, s, dy, _, rfl, sm _ _ hs, st_no_record, _, rfl, t, _, _, _, rfl, rfl, SqT.of htl, rix (j := 0) rfl rfl, _, rfl, u, _, _, _, rfl, rfl, SqT.of (sm _ _ hu), rix (j := 0) rfl rfl, _, rfl, _, rfl, _, rfl, u, _, _, _, rfl, rfl, SqT.of (sm _ _ hu), rix (j := 1) rfl rfl, _, _, rfl, rfl, _, _, rfl, rfl, (by show 5 ≤ sizeLine; decide), fun pp hpp => ?_⟩
          have smp := Same.upd_new (o := .tup [V.int 0, .int le.m, .int v.x, .int day, .int ((day : Int) + (v.long : Int) - 1)]) hpp
          have smI := sm.trans smp
          refine ⟨s, pp, l, k, _, _, postNums (.grant le.m v.x day (day + v.long - 1)), rfl, A.st.same smI, ?_, (by rw [List.length_map]; omega), fun H3 l3 st3 ch3 => ?_⟩
          · have e : (((day + v.long - 1 : Nat) : Nat) : Int) = (day : Int) + (v.long : Int) - 1 := by omega
            show upd H2 pp (.tup [V.int 0, .int le.m, .int v.x, .int day, .int ((day : Int) + (v.long : Int) - 1)]) pp = some (.tup [V.int 0, .int le.m, .int v.x, .int day, .int (((day + v.long - 1 : Nat) : Nat) : Int)])
            rw [upd_same, e]
          · exact q H3 l3 ⟨_, _, _, _, _, (A.same smI).putSt (recs := x.recs ++ [.grant le.m v.x day (day + v.long - 1)]) ch3 (by rw [List.map_append]; exact st3)⟩ ((Ch.of_same smI).trans ch3)
        · rw [if_neg z] at eF
          rw [eF] at q
          rw [decide_eq_false z]
          exact ⟨_, rfl, iteT (q H2 l (PA.same sm) (Ch.of_same sm))⟩
theorem ok_last_day (T : Txt K mg c fI) {fM_Post_grants : Addr} {fdM_Post_grants : FuncData} (M_Post_grants : MG P w K mg base c.P 1 "grants" ["self"] (spGrants c) fM_Post_grants fdM_Post_grants) {f : Addr} {fd : FuncData} (F : Fun K "last_day" "last_day" s_last_day f fd) : FnOk P w K mg base CX0 2 f fd ["post", "lease"] (spLastDay c) := by
  refine F.ok sc_last_day (fun vs H Q E h => ?_) (fun cdv A outer s H vs Q E hr h => ?_)
  · obtain ⟨p, t, l, k, x, le, rfl, _⟩ := h
    rfl
  · obtain ⟨p, t, l, k, x, le, rfl, PA, few, htl, q⟩ := h
    refine ⟨_, (pss_cons (ps_setLc (i := 2) (own := [("record", 3)]) (g := gName 3) rfl sc_last_day.nd rfl rfl (sw_true rfl rfl rfl (by decide +kernel)) (pi_list (pe_meth0 (pv 0) T.clP M_Post_grants.m M_Post_grants.ok (hr.mono (by decide)) M_Post_grants.b .nil pass0)) (blkOk_by (own := [("record", 3)]) (N := N_last_day) (sc := defScope s_last_day) (by decide +kernel)) (fun _ _ _ _ _ => pg_name (i := 3) sc_last_day.nd rfl (Or.inl rfl)) (fun _ _ _ _ _ => pts_one (pt_cmpR op_eq (pe_ix (ix_tupK (K := K) rfl) (pv 3) pe_int (fun _ _ => rfl)) (pe_ix (ix_tupK (K := K) rfl) (pv 1) pe_int (fun _ _ => rfl)) (nomark _))) (fun _ _ _ _ _ => (pe_ix (ix_tupK (K := K) rfl) (pv 3) pe_int (fun _ _ => rfl))))
        (pss_one (ps_ret (pe_callBK (cr_maxDef rfl hr.units) (by rfl) T.z_max (by decide +kernel) (pa_cons (pv 2) pa_nil) (pk_cons (pe_op op_sub (pe_ix ix_tup (pv 1) pe_int (fun _ _ => rfl)) pe_int) pk_nil))))), ?_⟩
    obtain ⟨dx, s, e, a, hd, A⟩ := id PA
    dsimp only [tSeq, tAsg, tLc, iList, tMeth, tNil]
    refine ⟨_, rfl, p, dx, _, rfl, A.obj, po_no_grants, p, l, k, x, rfl, PA, few, fun H1 g sm hg hR => ?_⟩
    obtain ⟨ts, ht, hp⟩ := hR
    have hlen : (x.recs.filter isGrant).length ≤ 500 := Nat.le_trans (List.length_filter_le _ _) few.1
    have key := lc_rowsV (K := K) (tl := fun _ H R => R (.ref g) H) (a := g) (j := 3) (tt := tTest (tOp rEq (tOp (rIxT K) (tVar 3) (tC (.int 1))) (tOp (rIxT K) (tVar 1) (tC (.int 0))))) (te := tOp (rIxT K) (tVar 3) (tC (.int 4))) (vs := [3]) (σ := [some (.ref p), some (.ref t), none, none]) (H := H1)
      (Q := fun y H' => ∃ d, y = .ref d ∧ H' d = some (.lst ((endsOf x le.m).map V.int)) ∧ Same H1 H') postNums ts (x.recs.filter isGrant) (fun r => (match r with | .grant k _ _ t => if k = le.m then some (t : Int) else none | _ => none).map V.int) (fun R k => k) ht hp (by omega) (by intro _; rfl)
      (fun t' r H2 sm2 hb mem R k => ?_) (fun H' q' sm2 hq' hl => ?_)
    · obtain ⟨a', ha', _, hh⟩ := key
      cases ha'
      refine ⟨g, rfl, ⟨_, SqL.of ht⟩, fun D hD => ?_⟩
      obtain ⟨W, h1, h2⟩ := hh D hD
      refine ⟨W, h1, fun i m H' hw => ?_⟩
      rcases h2 i m H' hw with ⟨st, d, ed, hd1, sm2⟩ | go
      · refine .inl ⟨st, ?_⟩
        cases ed
        have sm3 := sm.trans sm2
        refine ⟨_, rfl, _, rfl, t, _, _, _, rfl, rfl, SqT.of (sm3 _ _ htl), rix (j := 2) rfl rfl, _, _, rfl, rfl, D, _, _, rfl, rfl, SqL.of hd1, ?_⟩
        exact q H' sm3
      · exact .inr go
    · cases r with
      | back m' e' b' =>
        have := (List.mem_filter.mp mem).2
        cases this
      | grant m' y f' t'' =>
        refine ⟨_, rfl, t', _, _, _, rfl, rfl, SqT.of hb, rix (j := 1) rfl rfl, _, rfl, t, _, _, _, rfl, rfl, SqT.of (sm2 _ _ (sm _ _ htl)), rix (j := 0) rfl rfl, rfl, _, rfl, ?_⟩
        rw [dec_vint]
        show if ((m' : Int) == (le.m : Int)) = true then _ else _
        rw [bnat]
        have := k H2 (Same.refl _)
        dsimp only at this
        cases hm : m' == le.m with
        | true =>
          have hm' : m' = le.m := by simpa using hm
          rw [if_pos hm'] at this
          exact iteT ⟨_, rfl, t', _, _, _, rfl, rfl, SqT.of hb, rix (j := 4) rfl rfl, this⟩
        | false =>
          have hm' : ¬ m' = le.m := by simpa using hm
          rw [if_neg hm'] at this
          exact iteF this
    · refine ⟨q', rfl, ?_, sm2⟩
      rw [hl, fm_ints, ends_eq]
theorem ok_give_back (T : Txt K mg c fI) {fG_will_do : Addr} {fdG_will_do : FuncData} (G_will_do : FG P w K mg base CX0 2 "will_do" ["post", "lease", "want", "day"] (spWillDo c) fG_will_do fdG_will_do) {fM_Station_record : Addr} {fdM_Station_record : FuncData} (M_Station_record : MG P w K mg base c.S 1 "record" ["self", "row"] (spRecord c) fM_Station_record fdM_Station_record) {fG_last_day : Addr} {fdG_last_day : FuncData} (G_last_day : FG P w K mg base CX0 2 "last_day" ["post", "lease"] (spLastDay c) fG_last_day fdG_last_day) {fM_Station_has_room : Addr} {fdM_Station_has_room : FuncData} (M_Station_has_room : MG P w K mg base c.S 1 "has_room" ["self"] (spHasRoom c) fM_Station_has_room fdM_Station_has_room) {fM_Post_has_back : Addr} {fdM_Post_has_back : FuncData} (M_Post_has_back : MG P w K mg base c.P 1 "has_back" ["self", "lease"] (spHasBack c) fM_Post_has_back fdM_Post_has_back) {f : Addr} {fd : FuncData} (F : Fun K "give_back" "give_back" s_give_back f fd) : FnOk P w K mg base CX0 3 f fd ["post", "lease", "day"] (spBack c) := by
  refine F.ok sc_give_back (fun vs H Q E h => ?_) (fun cdv A outer s H vs Q E hr h => ?_)
  · obtain ⟨p, t, l, k, x, le, day, rfl, _⟩ := h
    rfl
  · obtain ⟨p, t, l, k, x, le, day, rfl, PA, few, htl, q⟩ := h
    refine ⟨_, (pss_cons (ps_if (PW.pt (pw_or (pt_cmpR op_lt (pe_ix ix_tup (pv 1) pe_int (fun _ _ => rfl)) (pv 2) (nomark _)) (pw_or (pt_val (pe_meth (pv 0) T.clP M_Post_has_back.m M_Post_has_back.ok (hr.mono (by decide)) M_Post_has_back.b .nil pass0 (pa_cons (pe_ix ix_tup (pv 1) pe_int (fun _ _ => rfl)) pa_nil))) (pw_or1 (pt_not (pt_val (pe_meth0 (pe_fld (pv 0) rfl) T.clS M_Station_has_room.m M_Station_has_room.ok (hr.mono (by decide)) M_Station_has_room.b .nil pass0)))))))
        (pss_one ps_retN)
        pss_nil)
        (pss_one (ps_if (pt_not (pt_val (pe_callB (cr_any rfl) (by rfl) T.z_any (by decide +kernel) (pa_cons (pe_lc (own := [("want", 3)]) (g := gName 3) (tt := tYes) rfl sc_give_back.nd (pi_list (pe_fld (pv 0) rfl)) (blkOk_by (own := [("want", 3)]) (N := N_give_back) (sc := defScope s_give_back) (by decide +kernel)) (fun _ _ _ _ _ => pg_name (i := 3) sc_give_back.nd rfl (Or.inl rfl)) (fun _ _ _ _ _ => pts_nil) (fun _ _ _ _ _ => (pe_call G_will_do.ok (hr.mono (by decide)) rfl G_will_do.g G_will_do.kp G_will_do.b .nil pass0 (pa_cons (pv 0) (pa_cons (pv 1) (pa_cons (pv 3) (pa_cons (pv 2) pa_nil))))))) pa_nil))))
        (pss_one (ps_expr (pe_meth (pe_fld (pv 0) rfl) T.clS M_Station_record.m M_Station_record.ok (hr.mono (by decide)) M_Station_record.b .nil pass0 (pa_cons (pe_tup (pa_cons (pe_gint rfl T.i_BACK) (pa_cons (pe_ix ix_tup (pv 1) pe_int (fun _ _ => rfl)) (pa_cons (pe_call G_last_day.ok (hr.mono (by decide)) rfl G_last_day.g G_last_day.kp G_last_day.b .nil pass0 (pa_cons (pv 0) (pa_cons (pv 1) pa_nil))) (pa_cons (pe_ix ix_tup (pv 1) pe_int (fun _ _ => rfl)) pa_nil))))) pa_nil))))
        pss_nil))), ?_⟩
    obtain ⟨dx, s, e, a, hd, A⟩ := id PA
    obtain ⟨dy, r, hs, ⟨ts, ht, hp⟩, ls, lr⟩ := id A.st
    obtain ⟨tw, htw, hpw⟩ := A.wa
    have stay : (le.b < day ∨ hasBack x le.m = true ∨ ¬ x.recs.length < 80) → backP day x le = x := fun z => by unfold backP; rw [if_pos z]
    refine ⟨_, rfl, t, _, _, _, rfl, rfl, SqT.of htl, rix (j := 3) rfl rfl, _, rfl, _, _, rfl, rfl, _, rfl, ?_⟩
    by_cases h1 : le.b < day
    · rw [stay (.inl h1)] at q
      refine if_true_of (decide_eq_true (by omega)) (iteT (q H l PA Ch.refl))
    · refine if_false_of (decide_eq_false (by omega)) ⟨_, rfl, p, dx, _, rfl, A.obj, po_no_has_back, _, rfl, t, _, _, _, rfl, rfl, SqT.of htl, rix (j := 0) rfl rfl, p, l, k, x, le.m, rfl, PA, few, fun H1 sm1 => ⟨_, rfl, ?_⟩⟩
      cases h2 : hasBack x le.m with
      | true =>
        rw [stay (.inr (.inl h2))] at q
        exact iteT (iteT (q H1 l (PA.same sm1) (Ch.of_same sm1)))
      | false =>
        refine iteF ⟨_, rfl, p, c.P, dx, _, _, rfl, sm1 _ _ A.obj, T.clP, T.nP_station, po_station, s, dy, _, rfl, sm1 _ _ hs, st_no_has_room, s, l, k, _, _, rfl, A.st.same sm1, ?_⟩
        rw [List.length_map]
        by_cases h3 : x.recs.length < 80
        · rw [decide_eq_true h3]
          refine ⟨_, rfl, iteF ?_⟩
          have eF : backP day x le = if (x.wants.any fun v => willDo day x le v) = true then x else { x with recs := x.recs ++ [.back le.m (lastP x le) le.b] } := by
            unfold backP
            rw [if_neg (fun z => by rcases z with z | z | z; exact h1 z; rw [h2] at z; cases z; exact z h3)]
          dsimp only [tNext, tIfS, tNot, tB, tCB, tCons]
          refine lc_rowsB (a := a) wNums tw x.wants (fun v => willDo day x le v) (fun R k => ⟨_, rfl, p, c.P, dx, _, _, rfl, sm1 _ _ A.obj, T.clP, T.nP_wants, po_wants, k⟩) (sm1 _ _ htw) (TupsAt.mono (fun b xs e => sm1 _ _ e) hpw) (by have := few.2.2.1; omega) (by intro _; rfl)
            (fun u v H2 sm2 hb _ R kk => ?_) (fun H2 q' sm2 hq' hl => ?_)
          · have sm := sm1.trans sm2
            exact ⟨_, rfl, _, rfl, _, rfl, _, rfl, p, t, u, l, k, x, le, v, day, rfl, PA.same sm, few, sm _ _ htl, hb, kk⟩
          · have sm := sm1.trans sm2
            refine ⟨q', _, rfl, SqL.of hl, _, rfl, ?_⟩
            rw [List.any_map, show (id ∘ fun v => willDo day x le v) = fun v => willDo day x le v from rfl]
            cases h4 : x.wants.any fun v => willDo day x le v with
            | true =>
              rw [if_pos h4] at eF
              rw [eF] at q
              exact iteF (q H2 l (PA.same sm) (Ch.of_same sm))
            | false =>
              rw [if_neg (by rw [h4]; exact Bool.false_ne_true)] at eF
              rw [eF] at q
              refine iteT ⟨_, rfl, p, c.P, dx, _, _, rfl, sm _ _ A.obj, T.clP, T.nP_station, po_station, s, dy, _, rfl, sm _ _ hs, st_no_record, _, rfl, t, _, _, _, rfl, rfl, SqT.of (sm _ _ htl), rix (j := 0) rfl rfl, _, rfl, _, rfl, p, t, l, k, x, le, rfl, PA.same sm, few, sm _ _ htl, fun H3 sm3 => ?_⟩
              have smB := sm.trans sm3
              refine ⟨_, rfl, t, _, _, _, rfl, rfl, SqT.of (smB _ _ htl), rix (j := 3) rfl rfl, (by show 4 ≤ sizeLine; decide), fun pp hpp => ?_⟩
              have smp := Same.upd_new (o := .tup [V.int 1, .int le.m, .int (lastP x le), .int le.b]) hpp
              have smI := smB.trans smp
              refine ⟨s, pp, l, k, _, _, postNums (.back le.m (lastP x le) le.b), rfl, A.st.same smI, upd_same, (by rw [List.length_map]; omega), fun H4 l4 st4 ch4 => ?_⟩
              exact q H4 l4 ⟨_, _, _, _, _, (A.same smI).putSt (recs := x.recs ++ [.back le.m (lastP x le) le.b]) ch4 (by rw [List.map_append]; exact st4)⟩ ((Ch.of_same smI).trans ch4)
        · rw [decide_eq_false h3]
          rw [stay (.inr (.inr h3))] at q
          exact ⟨_, rfl, iteT (q H1 l (PA.same sm1) (Ch.of_same sm1))⟩
end
end Pp

set_option Elab.async false
set_option linter.all false
set_option maxRecDepth 100000
set_option maxHeartbeats 2000000
namespace Pp
open PySem PySem.Spec PyProof.Rows L2
open Vbkoah (Lease HomeRec PostRec Up Down Want endedAt endOf hasBack willDo hasGiven says sendTo homeNums postNums upNums downNums)
theorem ch_put {L : Nat → Prop} {k : Nat} {l : Lab} {H : Hp} {p s : Addr} {o u v : HO} (hp : H p = none) (hs : H s = some u) (nt : ∀ xs, u ≠ .tup xs) (ls : L (l s)) : Ch L l H (setL l p k) (upd (upd H p o) s v) :=
  (Ch.new hp).trans (Ch.upd (by rw [upd_ne (ne_of_none hs hp)]; exact hs) nt (by rw [setL_ne (ne_of_none hs hp)]; exact ls))
theorem Ch.of_same_set {L : Nat → Prop} {l : Lab} {H H' : Hp} {p : Addr} {k : Nat} (s : Same H H') (hp : H p = none) : Ch L l H (setL l p k) H' :=
  ⟨fun b o h _ => s b o h, fun b o h => setL_ne (ne_of_none h hp), fun b xs h => s b _ h, fun b o h => ⟨o, s b o h⟩⟩
theorem RowsAt.push {H : Hp} {D t : Addr} {ts : List Addr} {rows : List Row} {row : Row} (hD : H D = some (.lst (ts.map V.ref))) (hp : TupsAt H ts rows) (ht : H t = some (tupO row)) : RowsAt (upd H D (.lst (ts.map V.ref ++ [V.ref t]))) D (rows ++ [row]) := by
  have k : ∀ b xs, H b = some (.tup xs) → upd H D (.lst (ts.map V.ref ++ [V.ref t])) b = some (.tup xs) := fun b xs e => by rw [upd_ne (ne_of e hD (by intro z; cases z))]; exact e
  refine ⟨ts ++ [t], ?_, paired_app (TupsAt.mono k hp) (.cons (k _ _ ht) .nil)⟩
  rw [upd_same, List.map_append] <;> rfl
theorem inV_nats (m : Nat) : ∀ ms : List Nat, inV (.int (m : Int)) (ms.map fun k : Nat => V.int (k : Int)) = ms.contains m
  | [] => rfl
  | k :: ms => by
    have ih := inV_nats m ms
    unfold inV at ih ⊢
    rw [List.map_cons, List.any_cons, ih, List.contains_cons]
    congr 1
    show ((k : Int) == (m : Int)) = (m == k)
    rw [bnat]
    by_cases h : k = m
    · subst h; rfl
    · have h1 : (k == m) = false := by simpa using h
      have h2 : (m == k) = false := by simpa using fun e : m = k => h e.symm
      rw [h1, h2]
theorem inV_kn (m : Nat) : ∀ ks : List Lease, inV (.int (m : Int)) (ks.map fun k => V.int (k.m : Int)) = ks.any fun k => k.m == m
  | [] => rfl
  | k :: ks => by
    have ih := inV_kn m ks
    unfold inV at ih ⊢
    rw [List.map_cons, List.any_cons, ih, List.any_cons]
    congr 1
    show ((k.m : Int) == (m : Int)) = (k.m == m)
    rw [bnat]
theorem flat_nats (ms : List Nat) : (ms.map fun k : Nat => V.int (k : Int)).all flatV = true := by
  rw [List.all_map]
  exact List.all_eq_true.mpr fun _ _ => rfl
theorem flat_kn (ks : List Lease) : (ks.map fun k => V.int (k.m : Int)).all flatV = true := by
  rw [List.all_map]
  exact List.all_eq_true.mpr fun _ _ => rfl
def spFramesOf (c : Ad) : Sp := fun vs H Q _ => ∃ (p : Addr) (l : Lab) (k : Nat) (x : SPost) (day : Nat), vs = [.ref p, .int day] ∧ PostAt c H l k p x ∧ Few x ∧
  ∀ H' g, Same H H' → H g = none → RowsAt H' g ((says day x).map upNums) → Q (.ref g) H'
def spTakeIn (c : Ad) : Sp := fun vs H Q _ => ∃ (h wi t : Addr) (l : Lab) (k1 k2 : Nat) (recs : List HomeRec) (sure p day w : Nat) (f : Up) (down : List Down), vs = [.ref h, .ref wi, .int p, .ref t, .int day, .int w] ∧ HomeAt c H l k1 h recs sure ∧ WireAt c H l k2 wi (down.map downNums) ∧ H t = some (tupO (upNums f)) ∧ k2 ≠ k1 ∧ k2 ≠ k1 + 1 ∧ recs.length ≤ 900 ∧ 1 ≤ w ∧
  ∀ H' l', HomeAt c H' l' k1 h (takeInF recs sure p day w f down).1 sure → WireAt c H' l' k2 wi ((takeInF recs sure p day w f down).2.map downNums) → Ch (fun n => n = k1 ∨ n = k2) l H l' H' → Q .non H'
section
variable {P : Program} {w : World} {K : PySem.W.Frag} {mg : Str → Option Value} {base : Heap} {c : Ad} {fI : Addr}
theorem ok_take_in (T : Txt K mg c fI) {fG_asked : Addr} {fdG_asked : FuncData} (G_asked : FG P w K mg base CX0 3 "asked" ["home", "wire", "post", "book", "day", "length"] (spAsked c) fG_asked fdG_asked) {fG_given_back : Addr} {fdG_given_back : FuncData} (G_given_back : FG P w K mg base CX0 2 "given_back" ["home", "wire", "lease", "last"] (spGivenBack c) fG_given_back fdG_given_back) {f : Addr} {fd : FuncData} (F : Fun K "take_in" "take_in" s_take_in f fd) : FnOk P w K mg base CX0 4 f fd ["home", "wire", "post", "frame", "day", "length"] (spTakeIn c) := by
  refine F.ok sc_take_in (fun vs H Q E h => ?_) (fun cdv A outer s H vs Q E hr h => ?_)
  · obtain ⟨h, wi, t, l, k1, k2, recs, sure, p, day, w, f, down, rfl, _⟩ := h
    rfl
  · obtain ⟨h, wi, t, l, k1, k2, recs, sure, p, day, w, f, down, rfl, hA, wA, ht, n1, n2, hlen, hw1, q⟩ := h
    refine ⟨_, (pss_one (ps_if (pt_cmpR op_eq (pe_ix ix_tup (pv 3) pe_int (fun _ _ => rfl)) (pe_gint rfl T.i_ASK_homes) (nomark _))
        (pss_one (ps_expr (pe_call G_asked.ok (hr.mono (by decide)) rfl G_asked.g G_asked.kp G_asked.b .nil pass0 (pa_cons (pv 0) (pa_cons (pv 1) (pa_cons (pv 2) (pa_cons (pe_ix ix_tup (pv 3) pe_int (fun _ _ => rfl)) (pa_cons (pv 4) (pa_cons (pv 5) pa_nil)))))))))
        (pss_one (ps_expr (pe_call G_given_back.ok (hr.mono (by decide)) rfl G_given_back.g G_given_back.kp G_given_back.b .nil pass0 (pa_cons (pv 0) (pa_cons (pv 1) (pa_cons (pe_ix ix_tup (pv 3) pe_int (fun _ _ => rfl)) (pa_cons (pe_ix ix_tup (pv 3) pe_int (fun _ _ => rfl)) pa_nil))))))))), ?_⟩
    cases f with
    | ask x => exact ⟨_, rfl, t, _, _, _, rfl, rfl, SqT.of ht, rix (j := 0) rfl rfl, rfl, _, rfl, iteT ⟨_, rfl, _, rfl, _, rfl, _, rfl, t, _, _, _, rfl, rfl, SqT.of ht, rix (j := 1) rfl rfl, _, rfl, _, rfl, h, wi, l, k1, k2, recs, sure, p, x, day, w, down, rfl, hA, wA, n1, n2, hlen, hw1, q⟩⟩
    | back m e => exact ⟨_, rfl, t, _, _, _, rfl, rfl, SqT.of ht, rix (j := 0) rfl rfl, rfl, _, rfl, iteF ⟨_, rfl, _, rfl, _, rfl, t, _, _, _, rfl, rfl, SqT.of ht, rix (j := 1) rfl rfl, _, rfl, t, _, _, _, rfl, rfl, SqT.of ht, rix (j := 2) rfl rfl, h, wi, l, k1, k2, recs, sure, m, e, down, rfl, hA, wA, n1, n2, hlen, q⟩⟩
theorem ok_Post_forget (T : Txt K mg c fI) {fM_Station_lose_unsafe : Addr} {fdM_Station_lose_unsafe : FuncData} (M_Station_lose_unsafe : MG P w K mg base c.S 1 "lose_unsafe" ["self"] (spLose c) fM_Station_lose_unsafe fdM_Station_lose_unsafe) {f : Addr} {fd : FuncData} (F : Fun K "forget" "Post.forget" s_Post_forget f fd) : FnOk P w K mg base CX0 2 f fd ["self"] (spForget c) := by
  refine F.ok sc_Post_forget (fun vs H Q E h => ?_) (fun cdv A outer s H vs Q E hr h => ?_)
  · obtain ⟨p, l, k, x, dx, s, e0, a0, h0, rfl, _⟩ := h
    rfl
  · obtain ⟨p, l, k, x, dx, s, e0, a0, h0, rfl, A, q⟩ := h
    refine ⟨_, (pss_cons (ps_expr (pe_meth0 (pe_fld (pv 0) rfl) T.clS M_Station_lose_unsafe.m M_Station_lose_unsafe.ok (hr.mono (by decide)) M_Station_lose_unsafe.b .nil pass0))
        (pss_cons (ps_fld (pv 0) (pe_lst pa_nil) rfl)
        (pss_cons (ps_fld (pv 0) (pe_lst pa_nil) rfl)
        (pss_one (ps_fld (pv 0) (pe_lst pa_nil) rfl))))), ?_⟩
    obtain ⟨dy, r, hs, ⟨ts, ht, hp⟩, ls, lr⟩ := id A.st
    refine ⟨_, rfl, p, c.P, dx, _, _, rfl, A.obj, T.clP, T.nP_station, po_station, s, dy, _, rfl, hs, st_no_lose_unsafe, s, l, k, _, _, rfl, A.st, fun H1 l1 st1 ch1 => ?_⟩
    rw [← List.map_take] at st1
    have A1 := A.putSt (recs := x.recs.take x.safe) ch1 st1
    refine ⟨Nat.zero_le _, fun e he => ?_⟩
    have e1 : p ≠ e := ne_of_none A1.obj he
    refine ⟨_, rfl, p, c.P, dx, _, rfl, (by rw [upd_ne e1]; exact A1.obj), T.clP, T.nP_leases, (by show 4 < 1000; decide), Nat.zero_le _, fun a ha => ?_⟩
    rw [po_put_leases] at ha ⊢
    have e2 : p ≠ a := ne_of_none upd_same ha
    refine ⟨_, rfl, p, c.P, dx, _, rfl, (by rw [upd_ne e2, upd_same]), T.clP, T.nP_wants, (by show 4 < 1000; decide), Nat.zero_le _, fun h hh => ?_⟩
    rw [po_put_wants] at hh ⊢
    have e3 : p ≠ h := ne_of_none upd_same hh
    refine ⟨_, rfl, p, c.P, dx, _, rfl, (by rw [upd_ne e3, upd_same]), T.clP, T.nP_heard, (by show 4 < 1000; decide), ?_⟩
    rw [po_put_heard]
    have he' : H1 e = none := he
    have ha' : H1 a = none ∧ a ≠ e := by
      have hne : a ≠ e := fun z => by rw [z, upd_ne e1.symm, upd_same] at ha; cases ha
      rw [upd_ne e2.symm, upd_ne hne] at ha
      exact ⟨ha, hne⟩
    have hh' : H1 h = none ∧ h ≠ e ∧ h ≠ a := by
      have n1 : h ≠ a := fun z => by rw [z, upd_ne e2.symm, upd_same] at hh; cases hh
      have n2 : h ≠ e := fun z => by rw [z, upd_ne e1.symm, upd_ne ha'.2.symm, upd_ne e1.symm, upd_same] at hh; cases hh
      rw [upd_ne e3.symm, upd_ne n1, upd_ne e3.symm, upd_ne n2] at hh
      exact ⟨hh, n2, n1⟩
    have lp1 : l1 p = k + 4 := A1.lp
    have ch2 : Ch (PL k) l1 H1 (setL (setL (setL l1 e (k + 1)) a (k + 2)) h (k + 3)) (upd (upd (upd (upd (upd (upd H1 e (.lst [])) p (.ins c.P dx (poF s e a0 h0))) a (.lst [])) p (.ins c.P dx (poF s e a h0))) h (.lst [])) p (.ins c.P dx (poF s e a h))) := by
      refine ((ch_put (v := .ins c.P dx (poF s e a0 h0)) he' A1.obj (by intro xs z; cases z) ?_).trans (ch_put (v := .ins c.P dx (poF s e a h0)) ha upd_same (by intro xs z; cases z) ?_)).trans (ch_put (v := .ins c.P dx (poF s e a h)) hh upd_same (by intro xs z; cases z) ?_)
      · rw [lp1]; exact ⟨by omega, by omega⟩
      · rw [setL_ne e1, lp1]; exact ⟨by omega, by omega⟩
      · rw [setL_ne e2, setL_ne e1, lp1]; exact ⟨by omega, by omega⟩
    -- the station stands
    obtain ⟨dz, r1, z1, ⟨t1, zt, zp⟩, z3, z4⟩ := st1
    have nsp : s ≠ p := fun z => by
      have := A.lp
      rw [← z, ls] at this
      omega
    have nrp : r1 ≠ p := ne_of zt A1.obj (by intro z; cases z)
    have os : s ≠ e ∧ s ≠ a ∧ s ≠ h := ⟨ne_of_none z1 he', ne_of_none z1 ha'.1, ne_of_none z1 hh'.1⟩
    have or' : r1 ≠ e ∧ r1 ≠ a ∧ r1 ≠ h := ⟨ne_of_none zt he', ne_of_none zt ha'.1, ne_of_none zt hh'.1⟩
    refine q _ _ e a h ⟨upd_same, ?_, ⟨dz, r1, ?_, ⟨t1, ?_, TupsAt.mono ch2.tups zp⟩, ?_, ?_⟩, ⟨[], ?_, .nil⟩, ?_, ⟨[], ?_, .nil⟩, ?_, ?_, setL_same⟩ ((ch1.mono fun n e => by rw [e]; exact ⟨by omega, by omega⟩).trans ch2)
    · rw [setL_ne e3, setL_ne e2, setL_ne e1]; exact lp1
    · rw [upd_ne nsp, upd_ne os.2.2, upd_ne nsp, upd_ne os.2.1, upd_ne nsp, upd_ne os.1]; exact z1
    · rw [upd_ne nrp, upd_ne or'.2.2, upd_ne nrp, upd_ne or'.2.1, upd_ne nrp, upd_ne or'.1]; exact zt
    · rw [setL_ne os.2.2, setL_ne os.2.1, setL_ne os.1]; exact z3
    · rw [setL_ne or'.2.2, setL_ne or'.2.1, setL_ne or'.1]; exact z4
    · rw [upd_ne e1.symm, upd_ne hh'.2.1.symm, upd_ne e1.symm, upd_ne ha'.2.symm, upd_ne e1.symm, upd_same] <;> rfl
    · rw [setL_ne hh'.2.1.symm, setL_ne ha'.2.symm, setL_same]
    · rw [upd_ne e2.symm, upd_ne hh'.2.2.symm, upd_ne e2.symm, upd_same] <;> rfl
    · rw [setL_ne hh'.2.2.symm, setL_same]
    · rw [upd_ne e3.symm, upd_same] <;> rfl
theorem ok_Post_learn (T : Txt K mg c fI) {f : Addr} {fd : FuncData} (F : Fun K "learn" "Post.learn" s_Post_learn f fd) : FnOk P w K mg base CX0 1 f fd ["self", "frame"] (spLearn c) := by
  refine F.ok sc_Post_learn (fun vs H Q E h => ?_) (fun cdv A outer s H vs Q E hr h => ?_)
  · obtain ⟨p, t, l, k, x, f, rfl, _⟩ := h
    rfl
  · obtain ⟨p, t, l, k, x, f, rfl, ⟨dx, s, e, a, hd, A⟩, few, ht, q⟩ := h
    refine ⟨_, (pss_one (ps_if (pt_cmpR op_eq (pe_ix ix_tup (pv 1) pe_int (fun _ _ => rfl)) (pe_gint rfl T.i_LEASE_posts) (nomark _))
        (pss_one (ps_if (pt_cmpR op_notIn_seq (pe_ix ix_tup (pv 1) pe_int (fun _ _ => rfl)) (pe_lc (own := [("lease", 2)]) (g := gName 2) (tt := tYes) rfl sc_Post_learn.nd (pi_list (pe_fld (pv 0) rfl)) (blkOk_by (own := [("lease", 2)]) (N := N_Post_learn) (sc := defScope s_Post_learn) (by decide +kernel)) (fun _ _ _ _ _ => pg_name (i := 2) sc_Post_learn.nd rfl (Or.inl rfl)) (fun _ _ _ _ _ => pts_nil) (fun _ _ _ _ _ => (pe_ix (ix_tupK (K := K) rfl) (pv 2) pe_int (fun _ _ => rfl)))) (by with_unfolding_all rfl))
        (pss_one (ps_expr (pe_bm PySem.F.plainAttrs_list PySem.F.slot_list_append PySem.F.type_list_append mt_append (pe_fld (pv 0) rfl) (pa_cons (pe_slice sl_tup (pv 1) (po_some pe_int) po_none) pa_nil))))
        pss_nil))
        (pss_one (ps_if (pt_cmpR op_notIn_seq (pe_ix ix_tup (pv 1) pe_int (fun _ _ => rfl)) (pe_fld (pv 0) rfl) (by with_unfolding_all rfl))
        (pss_one (ps_expr (pe_bm PySem.F.plainAttrs_list PySem.F.slot_list_append PySem.F.type_list_append mt_append (pe_fld (pv 0) rfl) (pa_cons (pe_ix ix_tup (pv 1) pe_int (fun _ _ => rfl)) pa_nil))))
        pss_nil)))), ?_⟩
    obtain ⟨ts, hts, hp⟩ := A.kn
    cases f with
    | lease le =>
      refine ⟨_, rfl, t, _, _, _, rfl, rfl, SqT.of ht, rix (j := 0) rfl rfl, rfl, _, rfl, iteT ?_⟩
      refine ⟨_, rfl, t, _, _, _, rfl, rfl, SqT.of ht, rix (j := 1) rfl rfl, ?_⟩
      refine lc_rowsV (a := e) lNums ts x.known (fun b => some (V.int (b.m : Int))) (fun R k => ⟨_, rfl, p, c.P, dx, _, _, rfl, A.obj, T.clP, T.nP_leases, po_leases, k⟩) hts hp (by have := few.2.1; omega) (by intro _; rfl)
        (fun t' b H1 sm hb _ R k => iteT (B := R none H1) ⟨_, rfl, t', _, _, _, rfl, rfl, SqT.of hb, rix (j := 0) rfl rfl, k H1 (Same.refl _)⟩) (fun H1 g sm hg hl => ?_)
      rw [show (x.known.filterMap fun b => some (V.int (b.m : Int))) = x.known.map fun b => V.int (b.m : Int) by rw [List.filterMap_eq_map']] at hl
      refine ⟨g, _, rfl, .inl (SqL.of hl), rfl, flat_kn _, _, rfl, ?_⟩
      have e1 : (if true = true then !inV (V.int (le.m : Int)) (x.known.map fun b => V.int (b.m : Int)) else inV (V.int (le.m : Int)) (x.known.map fun b => V.int (b.m : Int))) = !(x.known.any fun k => k.m == le.m) := by
        rw [if_pos rfl, inV_kn]
      show if (if true = true then !inV (V.int (le.m : Int)) (x.known.map fun b => V.int (b.m : Int)) else inV (V.int (le.m : Int)) (x.known.map fun b => V.int (b.m : Int))) = true then _ else _
      rw [e1]
      have A1 := A.same sm
      cases hk : x.known.any fun k => k.m == le.m with
      | true =>
        have eF : Vbkoah.toPost x (.lease le) = x := if_pos hk
        rw [eF] at q
        exact iteF (q H1 l ⟨_, _, _, _, _, A1⟩ (Ch.of_same sm))
      | false =>
        have eF : Vbkoah.toPost x (.lease le) = { x with known := x.known ++ [le] } := if_neg (by rw [hk]; exact Bool.false_ne_true)
        rw [eF] at q
        refine iteT ⟨_, rfl, p, c.P, dx, _, _, rfl, A1.obj, T.clP, T.nP_leases, po_leases, .inl ⟨rfl, _, SqL.of (sm _ _ hts)⟩, _, rfl, _, rfl, t, _, rfl, SqT.of (sm _ _ ht), (not_whole (by show 1 ≤ 5; decide)), fun u hu => ?_⟩
        have smu := Same.upd_new (o := .tup (cutV ((downNums (.lease le)).map V.int) (some 1) none)) hu
        have A2 := A1.same smu
        have he2 := smu _ _ (sm _ _ hts)
        have ch : Ch (PL k) l _ l (upd (upd H1 u (.tup (cutV ((downNums (.lease le)).map V.int) (some 1) none))) e (.lst (ts.map V.ref ++ [.ref u]))) := Ch.upd he2 (by intro xs z; cases z) (by rw [A.lk]; exact ⟨by omega, by omega⟩)
        have ch1 : Ch (· = k + 1) l _ l (upd (upd H1 u (.tup (cutV ((downNums (.lease le)).map V.int) (some 1) none))) e (.lst (ts.map V.ref ++ [.ref u]))) := Ch.upd he2 (by intro xs z; cases z) A.lk
        refine ⟨e, _, _, rfl, rfl, he2, small1000 (by rw [List.length_map, hp.length, List.length_map]; have := few.2.1; omega), ?_⟩
        refine q _ l ⟨dx, s, e, a, hd, ch1.keep _ _ A2.obj (by rw [A.lp]; omega), A.lp, A2.st.keep ch1 (by omega), ?_, A.lk, A2.wa.keep ch1 (by rw [A.lw]; omega), A.lw, ch1.keep _ _ A2.he (by rw [A.lh]; omega), A.lh⟩ ((Ch.of_same (sm.trans smu)).trans ch)
        have := RowsAt.push (row := lNums le) he2 (TupsAt.mono (fun b xs e => smu _ _ (sm _ _ e)) hp) upd_same
        show RowsAt _ e ((x.known ++ [le]).map lNums)
        rw [List.map_append]
        exact this
    | heard m =>
      refine ⟨_, rfl, t, _, _, _, rfl, rfl, SqT.of ht, rix (j := 0) rfl rfl, rfl, _, rfl, iteF ?_⟩
      refine ⟨_, rfl, t, _, _, _, rfl, rfl, SqT.of ht, rix (j := 1) rfl rfl, _, rfl, p, c.P, dx, _, _, rfl, A.obj, T.clP, T.nP_heard, po_heard, hd, _, rfl, .inl (SqL.of A.he), rfl, flat_nats _, _, rfl, ?_⟩
      have e1 : (if true = true then !inV (V.int (m : Int)) (x.heard.map fun b : Nat => V.int (b : Int)) else inV (V.int (m : Int)) (x.heard.map fun b : Nat => V.int (b : Int))) = !(x.heard.contains m) := by
        rw [if_pos rfl, inV_nats]
      show if (if true = true then !inV (V.int (m : Int)) (x.heard.map fun b : Nat => V.int (b : Int)) else inV (V.int (m : Int)) (x.heard.map fun b : Nat => V.int (b : Int))) = true then _ else _
      rw [e1]
      cases hk : x.heard.contains m with
      | true =>
        have eF : Vbkoah.toPost x (.heard m) = x := if_pos hk
        rw [eF] at q
        exact iteF (q H l ⟨_, _, _, _, _, A⟩ Ch.refl)
      | false =>
        have eF : Vbkoah.toPost x (.heard m) = { x with heard := x.heard ++ [m] } := if_neg (by rw [hk]; exact Bool.false_ne_true)
        rw [eF] at q
        have ch : Ch (PL k) l H l (upd H hd (.lst ((x.heard.map fun b : Nat => V.int (b : Int)) ++ [.int (m : Int)]))) := Ch.upd A.he (by intro xs z; cases z) (by rw [A.lh]; exact ⟨by omega, by omega⟩)
        have ch1 : Ch (· = k + 3) l H l (upd H hd (.lst ((x.heard.map fun b : Nat => V.int (b : Int)) ++ [.int (m : Int)]))) := Ch.upd A.he (by intro xs z; cases z) A.lh
        refine iteT ⟨_, rfl, p, c.P, dx, _, _, rfl, A.obj, T.clP, T.nP_heard, po_heard, .inl ⟨rfl, _, SqL.of A.he⟩, _, rfl, t, _, _, _, rfl, rfl, SqT.of ht, rix (j := 1) rfl rfl, hd, _, _, rfl, rfl, A.he, small1000 (by rw [List.length_map]; have := few.2.2.2; omega), ?_⟩
        refine q _ l ⟨dx, s, e, a, hd, ch1.keep _ _ A.obj (by rw [A.lp]; omega), A.lp, A.st.keep ch1 (by omega), A.kn.keep ch1 (by rw [A.lk]; omega), A.lk, A.wa.keep ch1 (by rw [A.lw]; omega), A.lw, ?_, A.lh⟩ ch
        rw [upd_same, List.map_append] <;> rfl
theorem ok_frames_of (T : Txt K mg c fI) {fM_Station_safe_records : Addr} {fdM_Station_safe_records : FuncData} (M_Station_safe_records : MG P w K mg base c.S 1 "safe_records" ["self"] (spSafeRecs c) fM_Station_safe_records fdM_Station_safe_records) {fG_lease_for : Addr} {fdG_lease_for : FuncData} (G_lease_for : FG P w K mg base CX0 3 "lease_for" ["post", "want", "day"] (spLeaseFor c) fG_lease_for fdG_lease_for) {f : Addr} {fd : FuncData} (F : Fun K "frames_of" "frames_of" s_frames_of f fd) : FnOk P w K mg base CX0 4 f fd ["post", "day"] (spFramesOf c) := by
  refine F.ok sc_frames_of (fun vs H Q E h => ?_) (fun cdv A outer s H vs Q E hr h => ?_)
  · obtain ⟨p, l, k, x, day, rfl, _⟩ := h
    rfl
  · obtain ⟨p, l, k, x, day, rfl, PA, few, q⟩ := h
    refine ⟨_, (pss_cons (ps_set (i := 2) sc_frames_of.nd rfl (Or.inl rfl) (pe_lst pa_nil))
        (pss_cons (ps_for PassesOwn.never rfl (pi_range1 rfl T.z_range (pa_cons pe_int pa_nil)) (pg_name (i := 3) sc_frames_of.nd rfl (Or.inr rfl))
        (pss_one (ps_if (pt_val (pe_callB (cr_any rfl) (by rfl) T.z_any (by decide +kernel) (pa_cons (pe_lc (own := [("want", 5)]) (g := gName 5) (tt := tYes) rfl sc_frames_of.nd (pi_list (pe_fld (pv 0) rfl)) (blkOk_by (own := [("want", 5)]) (N := N_frames_of) (sc := defScope s_frames_of) (by decide +kernel)) (fun _ _ _ _ _ => pg_name (i := 5) sc_frames_of.nd rfl (Or.inl rfl)) (fun _ _ _ _ _ => pts_nil) (fun _ _ _ _ _ => (pe_and (pe_cmpR op_eq (pe_ix (ix_tupK (K := K) rfl) (pv 5) pe_int (fun _ _ => rfl)) (pv 3) (nomark _)) (pe_one (pe_cmpR op_isN (pe_call G_lease_for.ok (hr.mono (by decide)) rfl G_lease_for.g G_lease_for.kp G_lease_for.b .nil pass0 (pa_cons (pv 0) (pa_cons (pv 5) (pa_cons (pv 1) pa_nil)))) pe_non (nomark _)))))) pa_nil)))
        (pss_one (ps_expr (pe_bm PySem.F.plainAttrs_list PySem.F.slot_list_append PySem.F.type_list_append mt_append (pv 2) (pa_cons (pe_tup (pa_cons (pe_gint rfl T.i_ASK_posts) (pa_cons (pv 3) pa_nil))) pa_nil))))
        pss_nil)))
        (pss_cons (ps_for PassesOwn.never rfl (pi_list (pe_meth0 (pe_fld (pv 0) rfl) T.clS M_Station_safe_records.m M_Station_safe_records.ok (hr.mono (by decide)) M_Station_safe_records.b .nil pass0)) (pg_name (i := 4) sc_frames_of.nd rfl (Or.inl rfl))
        (pss_one (ps_if (PW.pt (pw_and (pt_cmpR op_eq (pe_ix ix_tup (pv 4) pe_int (fun _ _ => rfl)) (pe_gint rfl T.i_BACK) (nomark _)) (pw_and (pt_cmpR op_ge (pe_ix ix_tup (pv 4) pe_int (fun _ _ => rfl)) (pv 1) (nomark _)) (pw_and1 (pt_cmpR op_notIn_seq (pe_ix ix_tup (pv 4) pe_int (fun _ _ => rfl)) (pe_fld (pv 0) rfl) (by with_unfolding_all rfl))))))
        (pss_one (ps_expr (pe_bm PySem.F.plainAttrs_list PySem.F.slot_list_append PySem.F.type_list_append mt_append (pv 2) (pa_cons (pe_tup (pa_cons (pe_gint rfl T.i_BACK) (pa_cons (pe_ix ix_tup (pv 4) pe_int (fun _ _ => rfl)) (pa_cons (pe_ix ix_tup (pv 4) pe_int (fun _ _ => rfl)) pa_nil)))) pa_nil))))
        pss_nil)))
        (pss_one (ps_ret (pv 2)))))), ?_⟩
    obtain ⟨dx, s, e, a, hd, A⟩ := id PA
    obtain ⟨tw, htw, hpw⟩ := A.wa
    obtain ⟨dy, r, hs, ⟨ts, ht, hp⟩, ls, lr⟩ := id A.st
    refine ⟨Nat.zero_le _, fun D hD => ?_⟩
    have sm0 : Same H (upd H D (.lst [])) := Same.upd_new hD
    refine ⟨4, rfl, by decide, by decide, for_range (lo := 0) (n := 4) (fun i σ H' => ∃ v3 v4 v5, σ = [some (.ref p), some (.int day), some (.ref D), v3, v4, v5] ∧ Same H H' ∧
        RowsAt H' D ((((List.range i).filter fun k => x.wants.any fun v => v.x == k && !(x.known.any fun l => willDo day x l v)).map fun k => Up.ask k).map upNums)) ⟨_, _, _, rfl, sm0, [], by rw [upd_same] <;> rfl, .nil⟩ ?_ ?_⟩
    · rintro i σ H' hi ⟨v3, v4, v5, rfl, sm, ⟨td, htd, hpd⟩⟩
      have e0 : (0 : Int) + (i : Int) = (i : Int) := Int.zero_add _
      have rs : ((List.range (i + 1)).filter fun k => x.wants.any fun v => v.x == k && !(x.known.any fun l => willDo day x l v)) = ((List.range i).filter fun k => x.wants.any fun v => v.x == k && !(x.known.any fun l => willDo day x l v)) ++ (if (x.wants.any fun v => v.x == i && !(x.known.any fun l => willDo day x l v)) = true then [i] else []) := by
        rw [List.range_succ, List.filter_append, List.filter_cons, List.filter_nil]
      have tdl : td.length ≤ 4 := by
        rw [hpd.length, List.length_map, List.length_map]
        refine Nat.le_trans (List.length_filter_le _ _) ?_
        rw [List.length_range]
        omega
      dsimp only [gName, tIfS, tB, tCB, tCons, List.set]
      rw [e0]
      refine lc_rowsB (a := a) wNums tw x.wants (fun v => v.x == i && !(x.known.any fun l => willDo day x l v)) (fun R k => ⟨_, rfl, p, c.P, dx, _, _, rfl, sm _ _ A.obj, T.clP, T.nP_wants, po_wants, k⟩) (sm _ _ htw) (TupsAt.mono (fun b xs e => sm _ _ e) hpw) (by have := few.2.2.1; omega) (by intro _; rfl)
        (fun u v H2 sm2 hb _ R kk => ?_) (fun H2 q' sm2 hq' hl => ?_)
      · have sm3 := sm.trans sm2
        refine ⟨_, rfl, u, _, _, _, rfl, rfl, SqT.of hb, rix (j := 0) rfl rfl, _, rfl, rfl, _, rfl, ?_⟩
        rw [dec_vint]
        show if ((v.x : Int) == (i : Int)) = true then _ else _
        rw [bnat]
        cases hvi : v.x == i with
        | false =>
          have := kk H2 (Same.refl _)
          rw [hvi] at this
          exact iteF this
        | true =>
          refine iteT ⟨_, rfl, _, rfl, _, rfl, p, u, l, k, x, v, day, rfl, PA.same sm3, few, hb, fun hf H3 sm4 => ⟨rfl, ?_⟩, fun le hf H3 t sm4 htl => ⟨rfl, ?_⟩⟩
          · have := kk H3 sm4
            have hn : (x.known.any fun l => willDo day x l v) = false := by
              rw [List.find?_eq_none] at hf
              rw [List.any_eq_false]
              exact hf
            rw [hvi, hn] at this
            exact this
          · have := kk H3 sm4
            have hn : (x.known.any fun l => willDo day x l v) = true := by
              rw [List.any_eq_true]
              exact ⟨le, List.mem_of_find?_eq_some hf, by have := List.find?_some hf; exact this⟩
            rw [hvi, hn] at this
            exact this
      · have smT := sm.trans sm2
        refine ⟨q', _, rfl, SqL.of hl, _, rfl, ?_⟩
        rw [List.any_map]
        show if (x.wants.any fun v => v.x == i && !(x.known.any fun l => willDo day x l v)) = true then _ else _
        by_cases hany : (x.wants.any fun v => v.x == i && !(x.known.any fun l => willDo day x l v)) = true
        · rw [if_pos hany] at rs ⊢
          refine ⟨_, rfl, .inl ⟨rfl, _, SqL.of (sm2 _ _ htd)⟩, _, rfl, (by show 2 ≤ sizeLine; decide), fun u hu => ?_⟩
          have smu := Same.upd_new (o := .tup [V.int 0, .int (i : Int)]) hu
          refine ⟨D, _, _, rfl, rfl, smu _ _ (sm2 _ _ htd), small1000 (by rw [List.length_map]; omega), ?_⟩
          refine ⟨_, _, _, rfl, fun b o eb => ?_, ?_⟩
          · rw [upd_ne (ne_of_none eb hD)]; exact smu _ _ (smT _ _ eb)
          · rw [rs, List.map_append, List.map_append]
            exact RowsAt.push (row := upNums (.ask i)) (smu _ _ (sm2 _ _ htd)) (TupsAt.mono (fun b xs e => smu _ _ (sm2 _ _ e)) hpd) upd_same
        · rw [if_neg hany] at rs ⊢
          refine ⟨_, _, _, rfl, smT, ?_⟩
          rw [rs, List.append_nil]
          exact ⟨td, sm2 _ _ htd, TupsAt.mono (fun b xs e => sm2 _ _ e) hpd⟩
    · rintro σ H1 ⟨v3, v4, v5, rfl, sm, ⟨td, htd, hpd⟩⟩
      refine ⟨_, rfl, p, c.P, dx, _, _, rfl, sm _ _ A.obj, T.clP, T.nP_station, po_station, s, dy, _, rfl, sm _ _ hs, st_no_safe_records, s, l, k, _, _, rfl, A.st.same sm, fun H2 g sm2 hg hR => ⟨g, rfl, ?_⟩⟩
      obtain ⟨tg, htg, hpg⟩ := hR
      rw [← List.map_take] at hpg
      have ngD : g ≠ D := fun z => by rw [z, htd] at hg; cases hg
      have asks : ((List.range 4).filter fun k => x.wants.any fun v => v.x == k && !(x.known.any fun l => willDo day x l v)).length ≤ 4 := by
        refine Nat.le_trans (List.length_filter_le _ _) ?_
        rw [List.length_range]
        exact Nat.le_refl _
      let G : PostRec → Option Up := fun r => match r with
        | .back m e b => if day ≤ b ∧ x.heard.contains m = false then some (.back m e) else none
        | _ => none
      refine ⟨⟨_, SqL.of htg⟩, for_list (K := K) (a := g) (xs := tg.map V.ref) (fun i σ H' => ∃ v3 v4 v5, σ = [some (.ref p), some (.int day), some (.ref D), v3, v4, v5] ∧ SameB D H2 H' ∧
        RowsAt H' D ((((List.range 4).filter fun k => x.wants.any fun v => v.x == k && !(x.known.any fun l => willDo day x l v)).map fun k => Up.ask k).map upNums ++ (((x.recs.take x.safe).take i).filterMap G).map upNums))
        ⟨_, _, _, rfl, fun b o e _ => e, ?_⟩ (fun i σ H' _ ⟨_, _, _, _, sb, _⟩ => SqL.of (sb _ _ htg ngD)) ?_ ?_⟩
      · rw [List.take_zero]
        show RowsAt H2 D (_ ++ [])
        rw [List.append_nil]
        exact ⟨td, sm2 _ _ htd, TupsAt.mono (fun b xs e => sm2 _ _ e) hpd⟩
      · rintro i y σ H' hi ⟨v3, v4, v5, rfl, sb, ⟨te, hte, hpe⟩⟩
        obtain ⟨t, hti, rfl⟩ := refs_at hi
        obtain ⟨row, hrow, htr⟩ := pairedAt hpg hti
        rw [List.getElem?_map] at hrow
        obtain ⟨rc, hrc, rfl⟩ := Option.map_eq_some_iff.mp hrow
        have hD2 := sm2 _ _ htd
        have htr' := sb _ _ htr (ne_of htr hD2 (by intro z; cases z))
        have smA : Same H H' := sb.out (sm.trans sm2) hD
        have stp : ((x.recs.take x.safe).take (i + 1)).filterMap G = ((x.recs.take x.safe).take i).filterMap G ++ (G rc).toList := by
          rw [take_succ_at hrc, List.filterMap_append]
          cases hG : G rc <;> simp [List.filterMap, hG]
        have tel : te.length ≤ 900 := by
          rw [hpe.length, List.length_append, List.length_map, List.length_map, List.length_map]
          have h1 := List.length_filterMap_le G ((x.recs.take x.safe).take i)
          rw [List.length_take, List.length_take] at h1
          have := few.1
          omega
        have hnone : G rc = none → RowsAt H' D ((((List.range 4).filter fun k => x.wants.any fun v => v.x == k && !(x.known.any fun l => willDo day x l v)).map fun k => Up.ask k).map upNums ++ (((x.recs.take x.safe).take (i + 1)).filterMap G).map upNums) := fun hG => by
          rw [hG] at stp
          rw [stp, show (none : Option Up).toList = [] from rfl, List.append_nil]
          exact ⟨te, hte, hpe⟩
        cases rc with
        | grant m y f' t' =>
          exact ⟨_, rfl, t, _, _, _, rfl, rfl, SqT.of htr', rix (j := 0) rfl rfl, rfl, _, rfl, iteF (iteF ⟨_, _, _, rfl, sb, hnone rfl⟩)⟩
        | back m e' b' =>
          refine ⟨_, rfl, t, _, _, _, rfl, rfl, SqT.of htr', rix (j := 0) rfl rfl, rfl, _, rfl, iteT ⟨_, rfl, t, _, _, _, rfl, rfl, SqT.of htr', rix (j := 3) rfl rfl, _, rfl, _, _, rfl, rfl, _, rfl, ?_⟩⟩
          by_cases hb : day ≤ b'
          · refine if_true_of (decide_eq_true (by show (day : Int) ≤ (b' : Int); omega)) ⟨_, rfl, t, _, _, _, rfl, rfl, SqT.of htr', rix (j := 1) rfl rfl, _, rfl, p, c.P, dx, _, _, rfl, smA _ _ A.obj, T.clP, T.nP_heard, po_heard, hd, _, rfl, .inl (SqL.of (smA _ _ A.he)), rfl, flat_nats _, _, rfl, ?_⟩
            have e1 : (if true = true then !inV (V.int (m : Int)) (x.heard.map fun b : Nat => V.int (b : Int)) else inV (V.int (m : Int)) (x.heard.map fun b : Nat => V.int (b : Int))) = !(x.heard.contains m) := by
              rw [if_pos rfl, inV_nats]
            show if (if true = true then !inV (V.int (m : Int)) (x.heard.map fun b : Nat => V.int (b : Int)) else inV (V.int (m : Int)) (x.heard.map fun b : Nat => V.int (b : Int))) = true then _ else _
            rw [e1]
            cases hc : x.heard.contains m with
            | true => exact iteF ⟨_, _, _, rfl, sb, hnone (if_neg (fun z => by rw [hc] at z; cases z.2))⟩
            | false =>
              have hG : G (.back m e' b') = some (.back m e') := if_pos ⟨hb, hc⟩
              rw [hG] at stp
              refine iteT ⟨_, rfl, .inl ⟨rfl, _, SqL.of hte⟩, _, rfl, t, _, _, _, rfl, rfl, SqT.of htr', rix (j := 1) rfl rfl, _, rfl, t, _, _, _, rfl, rfl, SqT.of htr', rix (j := 2) rfl rfl, (by show 3 ≤ sizeLine; decide), fun u hu => ?_⟩
              have smu := Same.upd_new (o := .tup [V.int 1, .int (m : Int), .int e']) hu
              refine ⟨D, _, _, rfl, rfl, smu _ _ hte, small1000 (by rw [List.length_map]; omega), ?_⟩
              refine ⟨_, _, _, rfl, (sb.step smu).app, ?_⟩
              rw [stp, show (some (Up.back m e')).toList = [Up.back m e'] from rfl, List.map_append, ← List.append_assoc]
              exact RowsAt.push (row := upNums (.back m e')) (smu _ _ hte) (TupsAt.mono (fun b xs e => smu _ _ e) hpe) upd_same
          · refine if_false_of (decide_eq_false (by show ¬ (day : Int) ≤ (b' : Int); omega)) (iteF ⟨_, _, _, rfl, sb, hnone (if_neg (fun z => hb z.1))⟩)
      · rintro σ H' ⟨v3, v4, v5, rfl, sb, hR⟩
        refine ⟨_, rfl, q H' D (sb.out (sm.trans sm2) hD) hD ?_⟩
        rw [List.length_map, hpg.length, List.length_map, List.take_length] at hR
        unfold says
        rw [List.map_append]
        exact hR
end
end Pp

set_option Elab.async false
set_option linter.all false
set_option maxRecDepth 100000
set_option maxHeartbeats 2000000
namespace Pp
open PySem PySem.Spec PyProof.Rows L2
open Vbkoah (Lease HomeRec PostRec Up Down Want endedAt endOf hasBack willDo hasGiven says sendTo homeNums postNums upNums downNums)
theorem Ch.relab {L : Nat → Prop} {l l' : Lab} {H H' : Hp} {D : Addr} {k : Nat} (a : Ch L l H l' H') (h : H D = none) : Ch L l H (setL l' D k) H' :=
  ⟨a.keep, fun b o e => (setL_ne (ne_of_none e h)).trans (a.lab b o e), a.tups, a.there⟩
theorem Ch.out {L : Nat → Prop} {l l' : Lab} {H H' : Hp} {D : Addr} {o : HO} (a : Ch L l H l' H') (h : H D = none) : Ch L l H l' (L2.upd H' D o) :=
  ⟨fun b u e n => by rw [upd_ne (ne_of_none e h)]; exact a.keep b u e n, a.lab, fun b xs e => by rw [upd_ne (ne_of_none e h)]; exact a.tups b xs e, fun b u e => by rw [upd_ne (ne_of_none e h)]; exact a.there b u e⟩
theorem StAt.relab {c : Ad} {H : Hp} {l : Lab} {k : Nat} {s : Addr} {rows : List Row} {sure : Nat} {D : Addr} {m : Nat} (a : StAt c H l k s rows sure) (n : l D ≠ k) : StAt c H (setL l D m) k s rows sure := by
  obtain ⟨dx, r, h1, h2, h3, h4⟩ := a
  have n1 : s ≠ D := fun z => n (by rw [← z]; exact h3)
  have n2 : r ≠ D := fun z => n (by rw [← z]; exact h4)
  exact ⟨dx, r, h1, h2, by rw [setL_ne n1]; exact h3, by rw [setL_ne n2]; exact h4⟩
theorem PAt.relab {c : Ad} {H : Hp} {l : Lab} {k : Nat} {p dx s e a h : Addr} {x : SPost} {D : Addr} {m : Nat} (A : PAt c H l k p dx s e a h x) (n : ¬ PL k (l D)) : PAt c H (setL l D m) k p dx s e a h x := by
  have ne : ∀ b j, l b = j → PL k j → b ≠ D := fun b j hb hj z => n (by rw [← z, hb]; exact hj)
  exact ⟨A.obj, by rw [setL_ne (ne _ _ A.lp ⟨by omega, by omega⟩)]; exact A.lp, A.st.relab fun z => n (by rw [z]; exact ⟨by omega, by omega⟩), A.kn, by rw [setL_ne (ne _ _ A.lk ⟨by omega, by omega⟩)]; exact A.lk, A.wa, by rw [setL_ne (ne _ _ A.lw ⟨by omega, by omega⟩)]; exact A.lw, A.he, by rw [setL_ne (ne _ _ A.lh ⟨by omega, by omega⟩)]; exact A.lh⟩
theorem WireAt.relab {c : Ad} {H : Hp} {l : Lab} {k : Nat} {s : Addr} {rows : List Row} {D : Addr} {m : Nat} (a : WireAt c H l k s rows) (n : l D ≠ k) : WireAt c H (setL l D m) k s rows := by
  obtain ⟨dx, r, h1, h2, h3, h4⟩ := a
  have n1 : s ≠ D := fun z => n (by rw [← z]; exact h3)
  have n2 : r ≠ D := fun z => n (by rw [← z]; exact h4)
  exact ⟨dx, r, h1, h2, by rw [setL_ne n1]; exact h3, by rw [setL_ne n2]; exact h4⟩
theorem goF_same (day : Nat) (x : SPost) (v : Want) : (goF day x v).2.known = x.known ∧ (goF day x v).2.wants = x.wants ∧ (goF day x v).2.heard = x.heard ∧ (goF day x v).2.safe = x.safe ∧ (x.recs.length ≤ 500 → (goF day x v).2.recs.length ≤ 500) := by
  unfold goF
  split
  · exact ⟨rfl, rfl, rfl, rfl, id⟩
  · split
    · exact ⟨rfl, rfl, rfl, rfl, id⟩
    · split
      · refine ⟨rfl, rfl, rfl, rfl, fun _ => ?_⟩
        show (x.recs ++ [_]).length ≤ 500
        rw [List.length_append, List.length_singleton]
        omega
      · exact ⟨rfl, rfl, rfl, rfl, id⟩
theorem goF_few {day : Nat} {x : SPost} {v : Want} (f : Few x) : Few (goF day x v).2 := by
  obtain ⟨h1, h2, h3, _, h5⟩ := goF_same day x v
  exact ⟨h5 f.1, by rw [h1]; exact f.2.1, by rw [h2]; exact f.2.2.1, by rw [h3]; exact f.2.2.2⟩
theorem backP_same (day : Nat) (x : SPost) (l : Lease) : (backP day x l).known = x.known ∧ (backP day x l).wants = x.wants ∧ (backP day x l).heard = x.heard ∧ (backP day x l).safe = x.safe ∧ (x.recs.length ≤ 500 → (backP day x l).recs.length ≤ 500) := by
  unfold backP
  split
  · exact ⟨rfl, rfl, rfl, rfl, id⟩
  · split
    · exact ⟨rfl, rfl, rfl, rfl, id⟩
    · refine ⟨rfl, rfl, rfl, rfl, fun _ => ?_⟩
      show (x.recs ++ [_]).length ≤ 500
      rw [List.length_append, List.length_singleton]
      omega
theorem backP_few {day : Nat} {x : SPost} {l : Lease} (f : Few x) : Few (backP day x l) := by
  obtain ⟨h1, h2, h3, _, h5⟩ := backP_same day x l
  exact ⟨h5 f.1, by rw [h1]; exact f.2.1, by rw [h2]; exact f.2.2.1, by rw [h3]; exact f.2.2.2⟩
theorem fold_go (day : Nat) : ∀ (vs : List Want) (s : List Want × SPost), Few s.2 → Few (vs.foldl (goStep day) s).2 ∧ (vs.foldl (goStep day) s).2.known = s.2.known ∧ (vs.foldl (goStep day) s).1.length ≤ s.1.length + vs.length
  | [], s, f => ⟨f, rfl, Nat.le_refl _⟩
  | v :: vs, s, f => by
    rw [List.foldl_cons]
    obtain ⟨h1, h2, h3⟩ := fold_go day vs (goStep day s v) (goF_few f)
    refine ⟨h1, h2.trans (goF_same day s.2 v).1, ?_⟩
    have : (goStep day s v).1.length ≤ s.1.length + 1 := by
      unfold goStep
      dsimp only
      split
      · omega
      · rw [List.length_append, List.length_singleton]; omega
    rw [List.length_cons]
    omega
theorem fold_back (day : Nat) : ∀ (ls : List Lease) (x : SPost), Few x → Few (ls.foldl (backP day) x) ∧ (ls.foldl (backP day) x).known = x.known
  | [], x, f => ⟨f, rfl⟩
  | v :: vs, x, f => by
    rw [List.foldl_cons]
    obtain ⟨h1, h2⟩ := fold_back day vs (backP day x v) (backP_few f)
    exact ⟨h1, h2.trans (backP_same day x v).1⟩
theorem goStep_t {day : Nat} {s : List Want × SPost} {v : Want} (h : (goF day s.2 v).1 = true) : goStep day s v = (s.1, (goF day s.2 v).2) := by
  unfold goStep
  rw [if_pos h]
theorem goStep_f {day : Nat} {s : List Want × SPost} {v : Want} (h : (goF day s.2 v).1 = false) : goStep day s v = (s.1 ++ [v], (goF day s.2 v).2) := by
  unfold goStep
  rw [if_neg (by rw [h]; exact Bool.false_ne_true)]
theorem foldl_take_succ {α β : Type} {f : α → β → α} {a : α} {l : List β} {i : Nat} {x : β} (h : l[i]? = some x) : (l.take (i + 1)).foldl f a = f ((l.take i).foldl f a) x := by
  rw [take_succ_at h, List.foldl_append] <;> rfl
def spTick (c : Ad) : Sp := fun vs H Q _ => ∃ (p wi : Addr) (l : Lab) (k k2 : Nat) (x : SPost) (up : List Up) (day : Nat), vs = [.ref p, .ref wi, .int day] ∧ PostAt c H l k p x ∧ WireAt c H l k2 wi (up.map upNums) ∧ ¬ PL k k2 ∧ Few x ∧ (∀ v ∈ x.wants, 1 ≤ v.long) ∧
  ∀ H' l', PostAt c H' l' k p (preTick day x) → WireAt c H' l' k2 wi ((sendAll (says day (preTick day x)) up).map upNums) → Ch (fun n => PL k n ∨ n = k2) l H l' H' → Q (.int ((says day (preTick day x)).length : Nat)) H'
section
variable {P : Program} {w : World} {K : PySem.W.Frag} {mg : Str → Option Value} {base : Heap} {c : Ad} {fI : Addr}
theorem ok_tick_posts (T : Txt K mg c fI) {fM_Wire_send : Addr} {fdM_Wire_send : FuncData} (M_Wire_send : MG P w K mg base c.W 1 "send" ["self", "frame"] (spSend c) fM_Wire_send fdM_Wire_send) {fG_frames_of : Addr} {fdG_frames_of : FuncData} (G_frames_of : FG P w K mg base CX0 4 "frames_of" ["post", "day"] (spFramesOf c) fG_frames_of fdG_frames_of) {fG_give_back : Addr} {fdG_give_back : FuncData} (G_give_back : FG P w K mg base CX0 3 "give_back" ["post", "lease", "day"] (spBack c) fG_give_back fdG_give_back) {fG_does_go : Addr} {fdG_does_go : FuncData} (G_does_go : FG P w K mg base CX0 4 "does_go" ["post", "want", "day"] (spDoesGo c) fG_does_go fdG_does_go) {f : Addr} {fd : FuncData} (F : Fun K "tick" "tick" s_tick_posts f fd) : FnOk P w K mg base CX0 5 f fd ["post", "wire", "day"] (spTick c) := by
  refine F.ok sc_tick_posts (fun vs H Q E h => ?_) (fun cdv A outer s H vs Q E hr h => ?_)
  · obtain ⟨p, wi, l, k, k2, x, up, day, rfl, _⟩ := h
    rfl
  · obtain ⟨p, wi, l, k, k2, x, up, day, rfl, PA, wA, nk, few, hlong, q⟩ := h
    refine ⟨_, (pss_cons (ps_set (i := 3) sc_tick_posts.nd rfl (Or.inl rfl) (pe_lst pa_nil))
        (pss_cons (ps_for PassesOwn.never rfl (pi_list (pe_fld (pv 0) rfl)) (pg_name (i := 4) sc_tick_posts.nd rfl (Or.inl rfl))
        (pss_one (ps_if (pt_not (pt_val (pe_call G_does_go.ok (hr.mono (by decide)) rfl G_does_go.g G_does_go.kp G_does_go.b .nil pass0 (pa_cons (pv 0) (pa_cons (pv 4) (pa_cons (pv 2) pa_nil))))))
        (pss_one (ps_expr (pe_bm PySem.F.plainAttrs_list PySem.F.slot_list_append PySem.F.type_list_append mt_append (pv 3) (pa_cons (pv 4) pa_nil))))
        pss_nil)))
        (pss_cons (ps_fld (pv 0) (pv 3) rfl)
        (pss_cons (ps_for PassesOwn.never rfl (pi_list (pe_fld (pv 0) rfl)) (pg_name (i := 5) sc_tick_posts.nd rfl (Or.inl rfl))
        (pss_one (ps_expr (pe_call G_give_back.ok (hr.mono (by decide)) rfl G_give_back.g G_give_back.kp G_give_back.b .nil pass0 (pa_cons (pv 0) (pa_cons (pv 5) (pa_cons (pv 2) pa_nil)))))))
        (pss_cons (ps_set (i := 6) sc_tick_posts.nd rfl (Or.inl rfl) (pe_call G_frames_of.ok (hr.mono (by decide)) rfl G_frames_of.g G_frames_of.kp G_frames_of.b .nil pass0 (pa_cons (pv 0) (pa_cons (pv 2) pa_nil))))
        (pss_cons (ps_for PassesOwn.never rfl (pi_list (pv 6)) (pg_name (i := 7) sc_tick_posts.nd rfl (Or.inl rfl))
        (pss_one (ps_expr (pe_meth (pv 1) T.clW M_Wire_send.m M_Wire_send.ok (hr.mono (by decide)) M_Wire_send.b .nil pass0 (pa_cons (pv 7) pa_nil)))))
        (pss_one (ps_ret (pe_callB (call_len_seq) (by rfl) T.z_len PySem.boot_len (pa_cons (pv 6) pa_nil)))))))))), ?_⟩
    obtain ⟨dx, s, e, a, hd, A⟩ := id PA
    obtain ⟨tw, htw, hpw⟩ := A.wa
    refine ⟨Nat.zero_le _, fun D hD => ?_⟩
    have sm0 : Same H (upd H D (.lst [])) := Same.upd_new hD
    have kD : ¬ PL k (k + k2 + 5) := fun z => by have := z.2; omega
    refine ⟨_, rfl, p, c.P, dx, _, _, rfl, sm0 _ _ A.obj, T.clP, T.nP_wants, po_wants, a, rfl, ⟨_, SqL.of (sm0 _ _ htw)⟩, ?_⟩
    refine for_list (K := K) (a := a) (xs := tw.map V.ref) (fun i σ H' => ∃ l' v4 v5 v6 v7, σ = [some (.ref p), some (.ref wi), some (.int day), some (.ref D), v4, v5, v6, v7] ∧ Ch (· = k) l H l' H' ∧ l' D = k + k2 + 5 ∧
        PostAt c H' l' k p ((x.wants.take i).foldl (goStep day) ([], x)).2 ∧ RowsAt H' D (((x.wants.take i).foldl (goStep day) ([], x)).1.map wNums))
      ⟨setL l D (k + k2 + 5), _, _, _, _, rfl, Ch.of_same_set sm0 hD, setL_same, PostAt.keep PA (Ch.of_same_set (L := fun _ => False) sm0 hD) fun _ _ => id, [], by rw [upd_same] <;> rfl, .nil⟩ (fun i σ H' _ ⟨_, _, _, _, _, _, ch, _⟩ => SqL.of (ch.keep _ _ htw (by rw [A.lw]; omega))) ?_ ?_
    · rintro i y σ H' hi ⟨l', v4, v5, v6, v7, rfl, ch, lD, PA', ⟨td, htd, hpd⟩⟩
      obtain ⟨u, hui, rfl⟩ := refs_at hi
      obtain ⟨row, hrow, hur⟩ := pairedAt hpw hui
      rw [List.getElem?_map] at hrow
      obtain ⟨v, hv, rfl⟩ := Option.map_eq_some_iff.mp hrow
      have fold := fold_go day (x.wants.take i) ([], x) few
      have stp := foldl_take_succ (f := goStep day) (a := ([], x)) hv
      refine ⟨_, rfl, _, rfl, _, rfl, p, u, l', k, _, v, day, rfl, PA', fold.1, ch.tups _ _ hur, by have := hlong v (List.mem_of_getElem? hv); omega, fun H1 l1 PA1 ch1 => ⟨_, rfl, ?_⟩⟩
      have chA := ch.trans ch1
      have hD1 := ch1.keep _ _ htd (by rw [lD]; omega)
      have lD1 := (ch1.lab _ _ htd).trans lD
      have hpd1 := TupsAt.mono ch1.tups hpd
      have tdl : td.length ≤ 900 := by
        rw [hpd.length, List.length_map]
        have := fold.2.2
        rw [List.length_take] at this
        have h2 := few.2.2.1
        simp only [List.length_nil] at this
        omega
      cases hg : (goF day ((x.wants.take i).foldl (goStep day) ([], x)).2 v).1 with
      | true =>
        refine iteF ⟨l1, _, _, _, _, rfl, chA, lD1, ?_⟩
        rw [stp, goStep_t hg]
        exact ⟨PA1, td, hD1, hpd1⟩
      | false =>
        refine iteT ⟨_, rfl, .inl ⟨rfl, _, SqL.of hD1⟩, _, rfl, D, _, _, rfl, rfl, hD1, small1000 (by rw [List.length_map]; omega), ?_⟩
        refine ⟨l1, _, _, _, _, rfl, chA.out hD, lD1, ?_⟩
        rw [stp, goStep_f hg]
        refine ⟨?_, ?_⟩
        · exact PA1.keep (Ch.upd (L := (· = k + k2 + 5)) hD1 (by intro xs z; cases z) lD1) fun m hm z => kD (by rw [← z]; exact hm)
        · show RowsAt _ D ((_ ++ [v]).map wNums)
          rw [List.map_append]
          exact RowsAt.push (row := wNums v) hD1 hpd1 (chA.tups _ _ hur)
    · rintro σ H1 ⟨l1, v4, v5, v6, v7, rfl, ch1, lD1, ⟨dx1, s1, e1, a1, hd1, A1⟩, hRD⟩
      rw [List.length_map, hpw.length, List.length_map, List.take_length] at A1 hRD
      have fold := fold_go day x.wants ([], x) few
      -- post.wants = left
      have A1' := A1.relab (D := D) (m := k + 2) (by rw [lD1]; exact kD)
      have chp : Ch (· = k + 4) (setL l1 D (k + 2)) H1 (setL l1 D (k + 2)) (upd H1 p (.ins c.P dx1 (poF s1 e1 D hd1))) := Ch.upd A1.obj (by intro xs z; cases z) A1'.lp
      refine ⟨_, rfl, _, rfl, p, c.P, dx1, _, rfl, A1.obj, T.clP, T.nP_wants, (by show 4 < 1000; decide), ?_⟩
      rw [po_put_wants]
      have lDk : setL l1 D (k + 2) D = k + 2 := setL_same
      have A2 : PAt c (upd H1 p (.ins c.P dx1 (poF s1 e1 D hd1))) (setL l1 D (k + 2)) k p dx1 s1 e1 D hd1 (servedP day x) := by
        refine ⟨upd_same, A1'.lp, A1'.st.keep chp (by omega), A1'.kn.keep chp (by rw [A1'.lk]; omega), A1'.lk, hRD.keep chp (by rw [lDk]; omega), lDk, chp.keep _ _ A1'.he (by rw [A1'.lh]; omega), A1'.lh⟩
      have few2 : Few (servedP day x) := ⟨fold.1.1, fold.1.2.1, by have h1 := fold.2.2; have h2 := few.2.2.1; simp only [List.length_nil] at h1; show (x.wants.foldl (goStep day) ([], x)).1.length ≤ 500; omega, fold.1.2.2.2⟩
      have kn2 : (servedP day x).known = x.known := fold.2.1
      have ch2 : Ch (PL k) l H (setL l1 D (k + 2)) (upd H1 p (.ins c.P dx1 (poF s1 e1 D hd1))) := by
        refine Ch.trans ((ch1.mono fun n z => ?_).relab hD) (chp.mono fun n z => ?_)
        · rw [z]; exact ⟨by omega, by omega⟩
        · rw [z]; exact ⟨by omega, by omega⟩
      obtain ⟨tl, htl, hptl⟩ := A2.kn
      refine ⟨_, rfl, p, c.P, dx1, _, _, rfl, upd_same, T.clP, T.nP_leases, po_leases, e1, rfl, ⟨_, SqL.of htl⟩, ?_⟩
      refine for_list (K := K) (a := e1) (xs := tl.map V.ref) (fun i σ H' => ∃ l' v4 v5 v6 v7, σ = [some (.ref p), some (.ref wi), some (.int day), some (.ref D), v4, v5, v6, v7] ∧ Ch (· = k) (setL l1 D (k + 2)) (upd H1 p (.ins c.P dx1 (poF s1 e1 D hd1))) l' H' ∧
          PostAt c H' l' k p ((x.known.take i).foldl (backP day) (servedP day x)))
        ⟨_, _, _, _, _, rfl, Ch.refl, _, _, _, _, _, A2⟩ (fun i σ H' _ ⟨_, _, _, _, _, _, ch, _⟩ => SqL.of (ch.keep _ _ htl (by rw [A2.lk]; omega))) ?_ ?_
      · rintro i y σ H' hi ⟨l', v4, v5, v6, v7, rfl, ch, PA'⟩
        obtain ⟨u, hui, rfl⟩ := refs_at hi
        obtain ⟨row, hrow, hur⟩ := pairedAt hptl hui
        rw [List.getElem?_map] at hrow
        obtain ⟨le, hle, rfl⟩ := Option.map_eq_some_iff.mp hrow
        rw [kn2] at hle
        have stp := foldl_take_succ (f := backP day) (a := servedP day x) hle
        refine ⟨_, rfl, _, rfl, _, rfl, p, u, l', k, _, le, day, rfl, PA', (fold_back day _ _ few2).1, ch.tups _ _ hur, fun H2 l2 PA2 ch2 => ?_⟩
        refine ⟨l2, _, _, _, _, rfl, ch.trans ch2, ?_⟩
        rw [stp]
        exact PA2
      · rintro σ H2 ⟨l2, v4, v5, v6, v7, rfl, ch3, PA2⟩
        rw [List.length_map, hptl.length, List.length_map, kn2, List.take_length] at PA2
        have eP : x.known.foldl (backP day) (servedP day x) = preTick day x := by
          unfold preTick backsP
          rw [kn2]
        rw [eP] at PA2
        have few3 : Few (preTick day x) := by rw [← eP]; exact (fold_back day _ _ few2).1
        have ch4 : Ch (PL k) l H l2 H2 := ch2.trans (ch3.mono fun n z => by rw [z]; exact ⟨by omega, by omega⟩)
        refine ⟨_, rfl, _, rfl, p, l2, k, _, day, rfl, PA2, few3, fun H3 g sm3 hg hR => ?_⟩
        have wA3 : WireAt c H3 (setL l2 g (k2 + 1)) k2 wi (up.map upNums) := (wA.keep ch4 nk).keep (Ch.of_same_set (L := fun _ => False) sm3 hg) id
        have PA3 : PostAt c H3 (setL l2 g (k2 + 1)) k p (preTick day x) := PA2.keep (Ch.of_same_set (L := fun _ => False) sm3 hg) fun _ _ => id
        have ch5 : Ch (PL k) l H (setL l2 g (k2 + 1)) H3 := ch4.trans (Ch.of_same_set sm3 hg)
        obtain ⟨tg, htg, hpg⟩ := hR
        refine ⟨_, rfl, g, rfl, ⟨_, SqL.of htg⟩, ?_⟩
        refine for_list (K := K) (a := g) (xs := tg.map V.ref) (fun i σ H' => ∃ l' v4 v5 v7, σ = [some (.ref p), some (.ref wi), some (.int day), some (.ref D), v4, v5, some (.ref g), v7] ∧ Ch (· = k2) (setL l2 g (k2 + 1)) H3 l' H' ∧
            WireAt c H' l' k2 wi ((sendAll ((says day (preTick day x)).take i) up).map upNums))
          ⟨_, _, _, _, rfl, Ch.refl, wA3⟩ (fun i σ H' _ ⟨_, _, _, _, _, ch, _⟩ => SqL.of (ch.keep _ _ htg (by rw [setL_same]; omega))) ?_ ?_
        · rintro i y σ H' hi ⟨l', v4, v5, v7, rfl, ch, wA'⟩
          obtain ⟨u, hui, rfl⟩ := refs_at hi
          obtain ⟨row, hrow, hur⟩ := pairedAt hpg hui
          rw [List.getElem?_map] at hrow
          obtain ⟨f', hf', rfl⟩ := Option.map_eq_some_iff.mp hrow
          obtain ⟨dw, fr, hw, _⟩ := id wA'
          refine ⟨_, rfl, wi, dw, _, rfl, hw, wi_no_send, _, rfl, wi, u, l', k2, _, _, rfl, wA', ch.tups _ _ hur, fun H4 l4 wA4 ch4 => ?_⟩
          refine ⟨l4, _, _, _, rfl, ch.trans ch4, ?_⟩
          have : sendAll ((says day (preTick day x)).take (i + 1)) up = sendTo f' (sendAll ((says day (preTick day x)).take i) up) := foldl_take_succ (f := fun l f => sendTo f l) (a := up) hf'
          rw [this, ← sendTo_map]
          exact wA4
        · rintro σ H' ⟨l', v4, v5, v7, rfl, ch, wA'⟩
          rw [List.length_map, hpg.length, List.length_map, List.take_length] at wA'
          refine ⟨_, rfl, g, _, rfl, .inl (SqL.of (ch.keep _ _ htg (by rw [setL_same]; omega))), ?_⟩
          rw [List.length_map, hpg.length, List.length_map]
          exact q H' l' (PA3.keep ch fun m hm z => nk (by rw [← z]; exact hm)) wA' ((ch5.mono fun n z => Or.inl z).trans (ch.mono fun n z => Or.inr z))
end
end Pp

set_option linter.all false
namespace Pp
open Vbkoah (Lease HomeRec PostRec Up Down Want numbered endedAt endOf hasBack willDo hasGiven says sendTo homeNums postNums upNums downNums)
/-! ### the mirror of the town -/
def setP (s : SState) (p : Nat) (x : SPost) : SState := { s with posts := s.posts.set p x }
def comeUp (s : SState) (p : Nat) (f : Up) : SState := match s.posts[p]? with
  | none => s
  | some x => { setP s p { x with down := (takeInF s.recs s.safe p s.day s.w f x.down).2 } with recs := (takeInF s.recs s.safe p s.day s.w f x.down).1 }
def comeDown (s : SState) (p : Nat) (f : Down) : SState := match s.posts[p]? with
  | none => s
  | some x => setP s p (Vbkoah.toPost x f)
def tickAt (s : SState) (p : Nat) : SState := match s.posts[p]? with
  | none => s
  | some x => setP s p (tickP s.day x)
def drainUpP (s : SState) (p : Nat) : SState := match s.posts[p]? with
  | none => s
  | some x => x.up.foldl (fun s f => comeUp s p f) (setP s p { x with up := [] })
def drainDownP (s : SState) (p : Nat) : SState := match s.posts[p]? with
  | none => s
  | some x => x.down.foldl (fun s f => comeDown s p f) (setP s p { x with down := [] })
def safeHome (s : SState) : SState := { s with safe := max s.safe (min 80 s.recs.length) }
def safePost (x : SPost) : SPost := { x with safe := max x.safe (min 80 x.recs.length) }
def safeAt (s : SState) (p : Nat) : SState := match s.posts[p]? with
  | none => s
  | some x => setP s p (safePost x)
def allSafeP (s : SState) : SState := (List.range s.posts.length).foldl safeAt (safeHome s)
def ticksP (s : SState) : SState := (List.range s.posts.length).foldl tickAt s
def drainUpsP (s : SState) : SState := (List.range s.posts.length).foldl drainUpP s
def drainDownsP (s : SState) : SState := (List.range s.posts.length).foldl drainDownP s
def calmDayP (s : SState) : SState := let e := drainDownsP (allSafeP (drainUpsP (ticksP (allSafeP s))))
  { e with day := e.day + 1 }
def calmP : Nat → SState → SState
  | 0, s => s
  | k + 1, s => calmP k (calmDayP s)
theorem comeUp_eq {s : SState} {p : Nat} {f : Up} {x : SPost} (h : s.posts[p]? = some x) : comeUp s p f = { setP s p { x with down := (takeInF s.recs s.safe p s.day s.w f x.down).2 } with recs := (takeInF s.recs s.safe p s.day s.w f x.down).1 } := by
  unfold comeUp; rw [h]
theorem comeDown_eq {s : SState} {p : Nat} {f : Down} {x : SPost} (h : s.posts[p]? = some x) : comeDown s p f = setP s p (Vbkoah.toPost x f) := by
  unfold comeDown; rw [h]
theorem tickAt_eq {s : SState} {p : Nat} {x : SPost} (h : s.posts[p]? = some x) : tickAt s p = setP s p (tickP s.day x) := by
  unfold tickAt; rw [h]
theorem safeAt_eq {s : SState} {p : Nat} {x : SPost} (h : s.posts[p]? = some x) : safeAt s p = setP s p (safePost x) := by
  unfold safeAt; rw [h]
theorem drainUpP_eq {s : SState} {p : Nat} {x : SPost} (h : s.posts[p]? = some x) : drainUpP s p = x.up.foldl (fun s f => comeUp s p f) (setP s p { x with up := [] }) := by
  unfold drainUpP; rw [h]
theorem drainDownP_eq {s : SState} {p : Nat} {x : SPost} (h : s.posts[p]? = some x) : drainDownP s p = x.down.foldl (fun s f => comeDown s p f) (setP s p { x with down := [] }) := by
  unfold drainDownP; rw [h]
theorem setP_at {s : SState} {p : Nat} {x y : SPost} (h : s.posts[p]? = some x) : (setP s p y).posts[p]? = some y := by
  show (s.posts.set p y)[p]? = some y
  rw [List.getElem?_set_self (List.getElem?_eq_some_iff.mp h).1]
theorem setP_ne {s : SState} {p i : Nat} {y : SPost} (h : i ≠ p) : (setP s p y).posts[i]? = s.posts[i]? := by
  show (s.posts.set p y)[i]? = s.posts[i]?
  rw [List.getElem?_set_ne (Ne.symm h)]
theorem setP_len {s : SState} {p : Nat} {y : SPost} : (setP s p y).posts.length = s.posts.length := by
  show (s.posts.set p y).length = _
  rw [List.length_set]
/-! ### sizes -/
structure PBd (x : SPost) : Prop where
  recs : x.recs.length ≤ 80
  known : x.known.length ≤ 80
  wants : x.wants.length ≤ 6
  heard : x.heard.length ≤ 80
  up : x.up.length ≤ 8
  down : x.down.length ≤ 8
  long : ∀ v ∈ x.wants, 1 ≤ v.long
structure SBd (s : SState) : Prop where
  recs : s.recs.length ≤ 80
  w : 1 ≤ s.w
  post : ∀ x ∈ s.posts, PBd x
theorem sendTo_len {α : Type} {x : α} {l : List α} (h : l.length ≤ 8) : (sendTo x l).length ≤ 8 := by
  unfold sendTo
  split
  · exact h
  · rename_i z
    have : Vbkoah.ROW = 8 := rfl
    rw [List.length_append, List.length_singleton]
    omega
theorem sendAll_len : ∀ (fs : List Up) {l : List Up}, l.length ≤ 8 → (sendAll fs l).length ≤ 8
  | [], l, h => h
  | f :: fs, l, h => sendAll_len fs (sendTo_len h)
theorem mem_set {α : Type} {l : List α} {i : Nat} {y z : α} (h : z ∈ l.set i y) : z = y ∨ z ∈ l := by
  obtain h | h := List.mem_or_eq_of_mem_set h
  · exact .inr h
  · exact .inl h
theorem SBd.setP {s : SState} {p : Nat} {y : SPost} (b : SBd s) (h : PBd y) : SBd (setP s p y) :=
  ⟨b.recs, b.w, fun x hx => by
    rcases mem_set (l := s.posts) (i := p) hx with e | e
    · rw [e]; exact h
    · exact b.post x e⟩
theorem SBd.at {s : SState} {p : Nat} {x : SPost} (b : SBd s) (h : s.posts[p]? = some x) : PBd x := b.post x (List.mem_of_getElem? h)
theorem askedF_bd {recs : List HomeRec} {sure p x day w : Nat} {down : List Down} (h : recs.length ≤ 80) (h2 : down.length ≤ 8) : (askedF recs sure p x day w down).1.length ≤ 80 ∧ (askedF recs sure p x day w down).2.length ≤ 8 := by
  unfold askedF
  split
  · refine ⟨h, ?_⟩
    dsimp only
    split
    · exact sendTo_len h2
    · exact h2
  · split
    · rename_i z
      refine ⟨?_, h2⟩
      show (recs ++ [_]).length ≤ 80
      rw [List.length_append, List.length_singleton]
      have := z.2
      omega
    · exact ⟨h, h2⟩
theorem givenBackF_bd {recs : List HomeRec} {sure m : Nat} {e : Int} {down : List Down} (h : recs.length ≤ 80) (h2 : down.length ≤ 8) : (givenBackF recs sure m e down).1.length ≤ 80 ∧ (givenBackF recs sure m e down).2.length ≤ 8 := by
  unfold givenBackF
  split
  · refine ⟨h, ?_⟩
    dsimp only
    split
    · exact sendTo_len h2
    · exact h2
  · split
    · refine ⟨?_, h2⟩
      show (recs ++ [_]).length ≤ 80
      rw [List.length_append, List.length_singleton]
      omega
    · exact ⟨h, h2⟩
theorem takeInF_bd {recs : List HomeRec} {sure p day w : Nat} {f : Up} {down : List Down} (h : recs.length ≤ 80) (h2 : down.length ≤ 8) : (takeInF recs sure p day w f down).1.length ≤ 80 ∧ (takeInF recs sure p day w f down).2.length ≤ 8 := by
  cases f with
  | ask x => exact askedF_bd h h2
  | back m e => exact givenBackF_bd h h2
theorem comeUp_bd {s : SState} {p : Nat} {f : Up} (b : SBd s) : SBd (comeUp s p f) := by
  cases h : s.posts[p]? with
  | none =>
    have : comeUp s p f = s := by unfold comeUp; rw [h]
    rw [this]; exact b
  | some x =>
    rw [comeUp_eq h]
    have bx := b.at h
    have t := takeInF_bd (sure := s.safe) (p := p) (day := s.day) (w := s.w) (f := f) b.recs bx.down
    have b2 := b.setP (p := p) (y := { x with down := (takeInF s.recs s.safe p s.day s.w f x.down).2 }) ⟨bx.recs, bx.known, bx.wants, bx.heard, bx.up, t.2, bx.long⟩
    exact ⟨t.1, b2.w, b2.post⟩
theorem comeUps_bd {p : Nat} : ∀ (fs : List Up) {s : SState}, SBd s → SBd (fs.foldl (fun s f => comeUp s p f) s)
  | [], s, b => b
  | f :: fs, s, b => comeUps_bd fs (comeUp_bd b)
theorem drainUpP_bd {s : SState} {p : Nat} (b : SBd s) : SBd (drainUpP s p) := by
  cases h : s.posts[p]? with
  | none =>
    have : drainUpP s p = s := by unfold drainUpP; rw [h]
    rw [this]; exact b
  | some x =>
    rw [drainUpP_eq h]
    have bx := b.at h
    exact comeUps_bd _ (b.setP ⟨bx.recs, bx.known, bx.wants, bx.heard, Nat.zero_le _, bx.down, bx.long⟩)
theorem fold_bd {f : SState → Nat → SState} (hf : ∀ s p, SBd s → SBd (f s p)) : ∀ (l : List Nat) {s : SState}, SBd s → SBd (l.foldl f s)
  | [], s, b => b
  | p :: l, s, b => fold_bd hf l (hf s p b)
theorem safeAt_bd {s : SState} {p : Nat} (b : SBd s) : SBd (safeAt s p) := by
  cases h : s.posts[p]? with
  | none =>
    have : safeAt s p = s := by unfold safeAt; rw [h]
    rw [this]; exact b
  | some x =>
    rw [safeAt_eq h]
    have bx := b.at h
    exact b.setP ⟨bx.recs, bx.known, bx.wants, bx.heard, bx.up, bx.down, bx.long⟩
theorem allSafeP_bd {s : SState} (b : SBd s) : SBd (allSafeP s) := fold_bd (fun s p b => safeAt_bd b) _ (s := safeHome s) ⟨b.recs, b.w, b.post⟩
theorem goF_bd {day : Nat} {x : SPost} {v : Want} (h : x.recs.length ≤ 80) : (goF day x v).2.recs.length ≤ 80 ∧ (goF day x v).2.known = x.known ∧ (goF day x v).2.wants = x.wants ∧ (goF day x v).2.heard = x.heard ∧ (goF day x v).2.up = x.up ∧ (goF day x v).2.down = x.down ∧ (goF day x v).2.safe = x.safe := by
  unfold goF
  split
  · exact ⟨h, rfl, rfl, rfl, rfl, rfl, rfl⟩
  · split
    · exact ⟨h, rfl, rfl, rfl, rfl, rfl, rfl⟩
    · split
      · refine ⟨?_, rfl, rfl, rfl, rfl, rfl, rfl⟩
        show (x.recs ++ [_]).length ≤ 80
        rw [List.length_append, List.length_singleton]
        omega
      · exact ⟨h, rfl, rfl, rfl, rfl, rfl, rfl⟩
theorem goFold_bd {day : Nat} : ∀ (vs : List Want) {s : List Want × SPost}, s.2.recs.length ≤ 80 → (vs.foldl (goStep day) s).2.recs.length ≤ 80 ∧ (vs.foldl (goStep day) s).2.known = s.2.known ∧ (vs.foldl (goStep day) s).2.heard = s.2.heard ∧ (vs.foldl (goStep day) s).2.up = s.2.up ∧ (vs.foldl (goStep day) s).2.down = s.2.down ∧
    (vs.foldl (goStep day) s).1.length ≤ s.1.length + vs.length ∧ (∀ v ∈ (vs.foldl (goStep day) s).1, v ∈ s.1 ∨ v ∈ vs) ∧ (vs.foldl (goStep day) s).2.safe = s.2.safe
  | [], s, h => ⟨h, rfl, rfl, rfl, rfl, Nat.le_refl _, fun v hv => .inl hv, rfl⟩
  | v :: vs, s, h => by
    have g := goF_bd (day := day) (v := v) h
    obtain ⟨h1, h2, h3, h4, h5, h6, h7, h8⟩ := goFold_bd vs (s := goStep day s v) g.1
    rw [List.foldl_cons]
    have e : (goStep day s v).1 = s.1 ∨ (goStep day s v).1 = s.1 ++ [v] := by
      unfold goStep
      dsimp only
      split
      · exact .inl rfl
      · exact .inr rfl
    refine ⟨h1, h2.trans g.2.1, h3.trans g.2.2.2.1, h4.trans g.2.2.2.2.1, h5.trans g.2.2.2.2.2.1, ?_, fun u hu => ?_, h8.trans g.2.2.2.2.2.2⟩
    · rcases e with e | e
      · rw [e] at h6; rw [List.length_cons]; omega
      · rw [e, List.length_append, List.length_singleton] at h6; rw [List.length_cons]; omega
    · rcases h7 u hu with z | z
      · rcases e with e | e
        · rw [e] at z; exact .inl z
        · rw [e, List.mem_append, List.mem_singleton] at z
          rcases z with z | z
          · exact .inl z
          · exact .inr (by rw [z]; exact List.mem_cons_self)
      · exact .inr (List.mem_cons_of_mem _ z)
theorem backP_bd {day : Nat} {x : SPost} {l : Lease} (h : x.recs.length ≤ 80) : (backP day x l).recs.length ≤ 80 ∧ (backP day x l).known = x.known ∧ (backP day x l).wants = x.wants ∧ (backP day x l).heard = x.heard ∧ (backP day x l).up = x.up ∧ (backP day x l).down = x.down ∧ (backP day x l).safe = x.safe := by
  unfold backP
  split
  · exact ⟨h, rfl, rfl, rfl, rfl, rfl, rfl⟩
  · rename_i z
    split
    · exact ⟨h, rfl, rfl, rfl, rfl, rfl, rfl⟩
    · refine ⟨?_, rfl, rfl, rfl, rfl, rfl, rfl⟩
      show (x.recs ++ [_]).length ≤ 80
      rw [List.length_append, List.length_singleton]
      have : x.recs.length < 80 := Decidable.byContradiction fun y => z (.inr (.inr y))
      omega
theorem backFold_bd {day : Nat} : ∀ (ls : List Lease) {x : SPost}, x.recs.length ≤ 80 → (ls.foldl (backP day) x).recs.length ≤ 80 ∧ (ls.foldl (backP day) x).known = x.known ∧ (ls.foldl (backP day) x).wants = x.wants ∧ (ls.foldl (backP day) x).heard = x.heard ∧ (ls.foldl (backP day) x).up = x.up ∧ (ls.foldl (backP day) x).down = x.down ∧ (ls.foldl (backP day) x).safe = x.safe
  | [], x, h => ⟨h, rfl, rfl, rfl, rfl, rfl, rfl⟩
  | l :: ls, x, h => by
    have g := backP_bd (day := day) (l := l) h
    obtain ⟨h1, h2, h3, h4, h5, h6, h7⟩ := backFold_bd ls (x := backP day x l) g.1
    rw [List.foldl_cons]
    exact ⟨h1, h2.trans g.2.1, h3.trans g.2.2.1, h4.trans g.2.2.2.1, h5.trans g.2.2.2.2.1, h6.trans g.2.2.2.2.2.1, h7.trans g.2.2.2.2.2.2⟩
/-- a tick leaves these as they were -/
theorem preTick_same {day : Nat} {x : SPost} (h : x.recs.length ≤ 80) : (preTick day x).recs.length ≤ 80 ∧ (preTick day x).known = x.known ∧ (preTick day x).heard = x.heard ∧ (preTick day x).up = x.up ∧ (preTick day x).down = x.down ∧ (preTick day x).safe = x.safe ∧ (preTick day x).wants.length ≤ x.wants.length ∧ ∀ v ∈ (preTick day x).wants, v ∈ x.wants := by
  obtain ⟨h1, h2, h3, h4, h5, h6, h7, h8⟩ := goFold_bd (day := day) x.wants (s := ([], x)) h
  obtain ⟨b1, b2, b3, b4, b5, b6, b7⟩ := backFold_bd (day := day) (servedP day x).known (x := servedP day x) h1
  refine ⟨b1, b2.trans h2, b4.trans h3, b5.trans h4, b6.trans h5, b7.trans h8, ?_, fun v hv => ?_⟩
  · have e : (preTick day x).wants = (x.wants.foldl (goStep day) ([], x)).1 := b3
    rw [e]
    simpa using h6
  · have e : (preTick day x).wants = (x.wants.foldl (goStep day) ([], x)).1 := b3
    rw [e] at hv
    rcases h7 v hv with z | z
    · cases z
    · exact z
theorem tickP_bd {day : Nat} {x : SPost} (b : PBd x) : PBd (tickP day x) := by
  obtain ⟨h1, h2, h3, h4, h5, h6, h7, h8⟩ := preTick_same (day := day) b.recs
  exact ⟨h1, by show (preTick day x).known.length ≤ 80; rw [h2]; exact b.known, Nat.le_trans h7 b.wants, by show (preTick day x).heard.length ≤ 80; rw [h3]; exact b.heard, sendAll_len _ b.up, by show (preTick day x).down.length ≤ 8; rw [h5]; exact b.down, fun v hv => b.long v (h8 v hv)⟩
theorem tickAt_bd {s : SState} {p : Nat} (b : SBd s) : SBd (tickAt s p) := by
  cases h : s.posts[p]? with
  | none =>
    have : tickAt s p = s := by unfold tickAt; rw [h]
    rw [this]; exact b
  | some x =>
    rw [tickAt_eq h]
    exact b.setP (tickP_bd (b.at h))
/-! ### lengths -/
theorem comeUp_len {s : SState} {p : Nat} {f : Up} : (comeUp s p f).posts.length = s.posts.length := by
  cases h : s.posts[p]? with
  | none => unfold comeUp; rw [h]
  | some x => rw [comeUp_eq h]; exact setP_len
theorem comeDown_len {s : SState} {p : Nat} {f : Down} : (comeDown s p f).posts.length = s.posts.length := by
  cases h : s.posts[p]? with
  | none => unfold comeDown; rw [h]
  | some x => rw [comeDown_eq h]; exact setP_len
theorem tickAt_len {s : SState} {p : Nat} : (tickAt s p).posts.length = s.posts.length := by
  cases h : s.posts[p]? with
  | none => unfold tickAt; rw [h]
  | some x => rw [tickAt_eq h]; exact setP_len
theorem safeAt_len {s : SState} {p : Nat} : (safeAt s p).posts.length = s.posts.length := by
  cases h : s.posts[p]? with
  | none => unfold safeAt; rw [h]
  | some x => rw [safeAt_eq h]; exact setP_len
theorem comeUps_len {p : Nat} : ∀ (fs : List Up) {s : SState}, (fs.foldl (fun s f => comeUp s p f) s).posts.length = s.posts.length
  | [], s => rfl
  | f :: fs, s => (comeUps_len fs (s := comeUp s p f)).trans comeUp_len
theorem comeDowns_len {p : Nat} : ∀ (fs : List Down) {s : SState}, (fs.foldl (fun s f => comeDown s p f) s).posts.length = s.posts.length
  | [], s => rfl
  | f :: fs, s => (comeDowns_len fs (s := comeDown s p f)).trans comeDown_len
theorem drainUpP_len {s : SState} {p : Nat} : (drainUpP s p).posts.length = s.posts.length := by
  cases h : s.posts[p]? with
  | none => unfold drainUpP; rw [h]
  | some x => rw [drainUpP_eq h, comeUps_len]; exact setP_len
theorem drainDownP_len {s : SState} {p : Nat} : (drainDownP s p).posts.length = s.posts.length := by
  cases h : s.posts[p]? with
  | none => unfold drainDownP; rw [h]
  | some x => rw [drainDownP_eq h, comeDowns_len]; exact setP_len
theorem fold_len {f : SState → Nat → SState} (hf : ∀ s p, (f s p).posts.length = s.posts.length) : ∀ (l : List Nat) {s : SState}, (l.foldl f s).posts.length = s.posts.length
  | [], s => rfl
  | p :: l, s => (fold_len hf l (s := f s p)).trans (hf s p)
end Pp

set_option Elab.async false
set_option linter.all false
set_option maxRecDepth 100000
set_option maxHeartbeats 2000000
namespace Pp
open PySem PySem.Spec PyProof.Rows L2
open Vbkoah (Lease HomeRec PostRec Up Down Want endedAt endOf hasBack willDo hasGiven says sendTo homeNums postNums upNums downNums)
/-! ### 10. the town -/
structure Lay where
  h : Addr
  lp : Addr
  lu : Addr
  ld : Addr
  ps : List Addr
  us : List Addr
  ds : List Addr
/-- the labels of post i and its wires; of all that a town changes -/
def TL (i n : Nat) : Prop := 20 + 10 * i ≤ n ∧ n ≤ 26 + 10 * i
theorem tl_lo {i m : Nat} (h : m = 4 ∨ TL i m) : m = 4 ∨ 20 ≤ m := h.imp id fun e => by have := e.1; omega
theorem tl_mid {i m : Nat} (h : m = 4 ∨ TL i m) : m = 4 ∨ (20 + 10 * i ≤ m ∧ m ≤ 26 + 10 * i) := h
def TA (n : Nat) : Prop := n = 2 ∨ n = 4 ∨ 20 ≤ n
structure TAt (c : Ad) (H : Hp) (l : Lab) (t dx : Addr) (Y : Lay) (s : SState) : Prop where
  obj : H t = some (.ins c.T dx (toF Y.h Y.lp Y.lu Y.ld (s.w : Int) (s.day : Int)))
  lt : l t = 2
  pl : H Y.lp = some (.lst (Y.ps.map V.ref))
  ul : H Y.lu = some (.lst (Y.us.map V.ref))
  dl : H Y.ld = some (.lst (Y.ds.map V.ref))
  lpl : l Y.lp = 3
  lul : l Y.lu = 3
  ldl : l Y.ld = 3
  np : Y.ps.length = s.posts.length
  nu : Y.us.length = s.posts.length
  nd : Y.ds.length = s.posts.length
  home : HomeAt c H l 4 Y.h s.recs s.safe
  post : ∀ i x p, s.posts[i]? = some x → Y.ps[i]? = some p → PostAt c H l (20 + 10 * i) p x
  up : ∀ i x u, s.posts[i]? = some x → Y.us[i]? = some u → WireAt c H l (25 + 10 * i) u (x.up.map upNums)
  down : ∀ i x d, s.posts[i]? = some x → Y.ds[i]? = some d → WireAt c H l (26 + 10 * i) d (x.down.map downNums)
def TownAt (c : Ad) (H : Hp) (l : Lab) (t : Addr) (Y : Lay) (s : SState) : Prop := ∃ dx, TAt c H l t dx Y s
theorem get_of_lt {α : Type} {l : List α} {i : Nat} (h : i < l.length) : ∃ x, l[i]? = some x := ⟨_, List.getElem?_eq_getElem h⟩
theorem TAt.keep {c : Ad} {L : Nat → Prop} {l l' : Lab} {H H' : Hp} {t dx : Addr} {Y : Lay} {s : SState} (A : TAt c H l t dx Y s) (ch : Ch L l H l' H') (n : ∀ m, TA m ∨ m = 3 ∨ m = 5 → ¬ L m) : TAt c H' l' t dx Y s where
  obj := ch.keep _ _ A.obj (by rw [A.lt]; exact n _ (.inl (.inl rfl)))
  lt := (ch.lab _ _ A.obj).trans A.lt
  pl := ch.keep _ _ A.pl (by rw [A.lpl]; exact n _ (.inr (.inl rfl)))
  ul := ch.keep _ _ A.ul (by rw [A.lul]; exact n _ (.inr (.inl rfl)))
  dl := ch.keep _ _ A.dl (by rw [A.ldl]; exact n _ (.inr (.inl rfl)))
  lpl := (ch.lab _ _ A.pl).trans A.lpl
  lul := (ch.lab _ _ A.ul).trans A.lul
  ldl := (ch.lab _ _ A.dl).trans A.ldl
  np := A.np
  nu := A.nu
  nd := A.nd
  home := A.home.keep ch (n _ (.inl (.inr (.inl rfl)))) (n _ (.inr (.inr rfl)))
  post := fun i x p h1 h2 => (A.post i x p h1 h2).keep ch fun m hm => n m (.inl (.inr (.inr (by have := hm.1; omega))))
  up := fun i x p h1 h2 => (A.up i x p h1 h2).keep ch (n _ (.inl (.inr (.inr (by omega)))))
  down := fun i x p h1 h2 => (A.down i x p h1 h2).keep ch (n _ (.inl (.inr (.inr (by omega)))))
theorem TAt.same {c : Ad} {l : Lab} {H H' : Hp} {t dx : Addr} {Y : Lay} {s : SState} (A : TAt c H l t dx Y s) (sm : Same H H') : TAt c H' l t dx Y s := A.keep (Ch.of_same (L := fun _ => False) sm) fun _ _ => id
/-- post i, its wires and home's station are changed -/
theorem TAt.put {c : Ad} {L : Nat → Prop} {l l' : Lab} {H H' : Hp} {t dx : Addr} {Y : Lay} {s : SState} {i : Nat} {y : SPost} {recs : List HomeRec} {safe : Nat} (A : TAt c H l t dx Y s) (ch : Ch L l H l' H') (n : ∀ m, L m → m = 4 ∨ TL i m)
    (hh : HomeAt c H' l' 4 Y.h recs safe) (hp : ∀ p, Y.ps[i]? = some p → PostAt c H' l' (20 + 10 * i) p y) (hu : ∀ p, Y.us[i]? = some p → WireAt c H' l' (25 + 10 * i) p (y.up.map upNums)) (hd : ∀ p, Y.ds[i]? = some p → WireAt c H' l' (26 + 10 * i) p (y.down.map downNums)) :
    TAt c H' l' t dx Y { setP s i y with recs := recs, safe := safe } where
  obj := ch.keep _ _ A.obj (by rw [A.lt]; intro z; have := tl_lo (n _ z); omega)
  lt := (ch.lab _ _ A.obj).trans A.lt
  pl := ch.keep _ _ A.pl (by rw [A.lpl]; intro z; have := tl_lo (n _ z); omega)
  ul := ch.keep _ _ A.ul (by rw [A.lul]; intro z; have := tl_lo (n _ z); omega)
  dl := ch.keep _ _ A.dl (by rw [A.ldl]; intro z; have := tl_lo (n _ z); omega)
  lpl := (ch.lab _ _ A.pl).trans A.lpl
  lul := (ch.lab _ _ A.ul).trans A.lul
  ldl := (ch.lab _ _ A.dl).trans A.ldl
  np := A.np.trans setP_len.symm
  nu := A.nu.trans setP_len.symm
  nd := A.nd.trans setP_len.symm
  home := hh
  post := fun j x p h1 h2 => by
    by_cases hj : j = i
    · subst hj
      have hlt : j < s.posts.length := by rw [← A.np]; exact lt_at h2
      obtain ⟨z, hz⟩ := get_of_lt hlt
      have e : (setP s j y).posts[j]? = some x := h1
      rw [setP_at hz] at e
      cases e
      exact hp p h2
    · have e : (setP s i y).posts[j]? = some x := h1
      rw [setP_ne hj] at e
      exact (A.post j x p e h2).keep ch fun m hm z => by have h1 := tl_mid (n _ z); have h2 := hm.1; have h3 := hm.2; omega
  up := fun j x p h1 h2 => by
    by_cases hj : j = i
    · subst hj
      have hlt : j < s.posts.length := by rw [← A.nu]; exact lt_at h2
      obtain ⟨z, hz⟩ := get_of_lt hlt
      have e : (setP s j y).posts[j]? = some x := h1
      rw [setP_at hz] at e
      cases e
      exact hu p h2
    · have e : (setP s i y).posts[j]? = some x := h1
      rw [setP_ne hj] at e
      exact (A.up j x p e h2).keep ch fun z => by have h1 := tl_mid (n _ z); omega
  down := fun j x p h1 h2 => by
    by_cases hj : j = i
    · subst hj
      have hlt : j < s.posts.length := by rw [← A.nd]; exact lt_at h2
      obtain ⟨z, hz⟩ := get_of_lt hlt
      have e : (setP s j y).posts[j]? = some x := h1
      rw [setP_at hz] at e
      cases e
      exact hd p h2
    · have e : (setP s i y).posts[j]? = some x := h1
      rw [setP_ne hj] at e
      exact (A.down j x p e h2).keep ch fun z => by have h1 := tl_mid (n _ z); omega
/-- the same, home as it was -/
theorem TAt.put0 {c : Ad} {L : Nat → Prop} {l l' : Lab} {H H' : Hp} {t dx : Addr} {Y : Lay} {s : SState} {i : Nat} {y : SPost} (A : TAt c H l t dx Y s) (ch : Ch L l H l' H') (n : ∀ m, L m → TL i m)
    (hp : ∀ p, Y.ps[i]? = some p → PostAt c H' l' (20 + 10 * i) p y) (hu : ∀ p, Y.us[i]? = some p → WireAt c H' l' (25 + 10 * i) p (y.up.map upNums)) (hd : ∀ p, Y.ds[i]? = some p → WireAt c H' l' (26 + 10 * i) p (y.down.map downNums)) :
    TAt c H' l' t dx Y (setP s i y) :=
  A.put ch (fun m z => .inr (n m z)) (A.home.keep ch (fun z => by have := (n _ z).1; omega) (fun z => by have := (n _ z).1; omega)) hp hu hd
/-- wires do not matter to a post's own objects -/
theorem PostAt.like {c : Ad} {l : Lab} {H : Hp} {k : Nat} {p : Addr} {x y : SPost} (A : PostAt c H l k p x) (h1 : y.recs = x.recs) (h2 : y.safe = x.safe) (h3 : y.known = x.known) (h4 : y.wants = x.wants) (h5 : y.heard = x.heard) : PostAt c H l k p y := by
  obtain ⟨dx, s, e, a, h, A⟩ := A
  exact ⟨dx, s, e, a, h, A.obj, A.lp, by rw [h1, h2]; exact A.st, by rw [h3]; exact A.kn, A.lk, by rw [h4]; exact A.wa, A.lw, by rw [h5]; exact A.he, A.lh⟩
/-- the wires' and the post's places in a town of a state with a post i -/
theorem TAt.places {c : Ad} {l : Lab} {H : Hp} {t dx : Addr} {Y : Lay} {s : SState} {i : Nat} {x : SPost} (A : TAt c H l t dx Y s) (h : s.posts[i]? = some x) : ∃ p u d, Y.ps[i]? = some p ∧ Y.us[i]? = some u ∧ Y.ds[i]? = some d := by
  have hl := lt_at h
  obtain ⟨p, hp⟩ := get_of_lt (l := Y.ps) (i := i) (by rw [A.np]; exact hl)
  obtain ⟨u, hu⟩ := get_of_lt (l := Y.us) (i := i) (by rw [A.nu]; exact hl)
  obtain ⟨d, hd⟩ := get_of_lt (l := Y.ds) (i := i) (by rw [A.nd]; exact hl)
  exact ⟨p, u, d, hp, hu, hd⟩
theorem ref_at {l : List Addr} {i : Nat} {p : Addr} (h : l[i]? = some p) : (l.map V.ref)[i]? = some (.ref p) := by rw [List.getElem?_map, h] <;> rfl
theorem Few.of {x : SPost} (b : PBd x) : Few x := ⟨by have := b.recs; omega, by have := b.known; omega, by have := b.wants; omega, by have := b.heard; omega⟩
def spToWire (c : Ad) : Sp := fun vs H Q _ => ∃ (t : Addr) (l : Lab) (Y : Lay) (s : SState) (way : Int) (i : Nat) (x : SPost), vs = [.ref t, .int way, .int i] ∧ TownAt c H l t Y s ∧ s.posts[i]? = some x ∧
  (way = 0 → ∀ u, Y.us[i]? = some u → Q (.ref u) H) ∧ (way ≠ 0 → ∀ d, Y.ds[i]? = some d → Q (.ref d) H)
def spCome (c : Ad) : Sp := fun vs H Q _ => ∃ (t f : Addr) (l : Lab) (Y : Lay) (s : SState) (way : Int) (i : Nat) (x : SPost), vs = [.ref t, .int way, .int i, .ref f] ∧ TownAt c H l t Y s ∧ s.posts[i]? = some x ∧ s.recs.length ≤ 900 ∧ 1 ≤ s.w ∧
  ((way = 0 ∧ ∃ g, H f = some (tupO (upNums g)) ∧ ∀ H' l', TownAt c H' l' t Y (comeUp s i g) → Ch (fun n => n = 4 ∨ n = (26 + 10 * i)) l H l' H' → Q .non H') ∨
   (way = 1 ∧ Few x ∧ ∃ g, H f = some (tupO (downNums g)) ∧ ∀ H' l', TownAt c H' l' t Y (comeDown s i g) → Ch (PL (20 + 10 * i)) l H l' H' → Q .non H'))
def spTickPost (c : Ad) : Sp := fun vs H Q _ => ∃ (t : Addr) (l : Lab) (Y : Lay) (s : SState) (i : Nat) (x : SPost), vs = [.ref t, .int i] ∧ TownAt c H l t Y s ∧ s.posts[i]? = some x ∧ PBd x ∧
  ∀ H' l', TownAt c H' l' t Y (tickAt s i) → Ch (TL i) l H l' H' → Q (.int ((says s.day (preTick s.day x)).length : Nat)) H'
section
variable {P : Program} {w : World} {K : PySem.W.Frag} {mg : Str → Option Value} {base : Heap} {c : Ad} {fI : Addr}
theorem ok_Town_wire (T : Txt K mg c fI) {f : Addr} {fd : FuncData} (F : Fun K "wire" "Town.wire" s_Town_wire f fd) : FnOk P w K mg base CX0 1 f fd ["self", "way", "post"] (spToWire c) := by
  refine F.ok sc_Town_wire (fun vs H Q E h => ?_) (fun cdv A outer s H vs Q E hr h => ?_)
  · obtain ⟨t, l, Y, s, way, i, x, rfl, _⟩ := h
    rfl
  · obtain ⟨t, l, Y, s, way, i, x, rfl, ⟨dx, A⟩, hx, q1, q2⟩ := h
    refine ⟨_, (pss_one (ps_ret (pe_ifExp (pt_cmpR op_eq (pv 1) pe_int (nomark _)) (pe_ix ix_list (pe_fld (pv 0) rfl) (pv 2) (fun _ _ => rfl)) (pe_ix ix_list (pe_fld (pv 0) rfl) (pv 2) (fun _ _ => rfl))))), ?_⟩
    obtain ⟨p, u, d, hp, hu, hd⟩ := A.places hx
    refine ⟨_, rfl, rfl, _, rfl, ?_⟩
    refine ite2 (fun z => ?_) (fun z => ?_)
    · have z : V.int way = V.int 0 := of_decide_eq_true z
      injection z with z
      exact ⟨_, rfl, t, c.T, dx, _, _, rfl, A.obj, T.clT, T.nT_to_home, to_to_home, _, rfl, Y.lu, _, _, _, rfl, rfl, SqL.of A.ul, atI_nat (ref_at hu), q1 z u hu⟩
    · have z : way ≠ 0 := fun e => z (decide_eq_true (by rw [e]))
      exact ⟨_, rfl, t, c.T, dx, _, _, rfl, A.obj, T.clT, T.nT_to_post, to_to_post, _, rfl, Y.ld, _, _, _, rfl, rfl, SqL.of A.dl, atI_nat (ref_at hd), q2 z d hd⟩
theorem ok_Town_come (T : Txt K mg c fI) {fG_take_in : Addr} {fdG_take_in : FuncData} (G_take_in : FG P w K mg base CX0 4 "take_in" ["home", "wire", "post", "frame", "day", "length"] (spTakeIn c) fG_take_in fdG_take_in) {fM_Post_learn : Addr} {fdM_Post_learn : FuncData} (M_Post_learn : MG P w K mg base c.P 1 "learn" ["self", "frame"] (spLearn c) fM_Post_learn fdM_Post_learn) {f : Addr} {fd : FuncData} (F : Fun K "come" "Town.come" s_Town_come f fd) : FnOk P w K mg base CX0 5 f fd ["self", "way", "post", "frame"] (spCome c) := by
  refine F.ok sc_Town_come (fun vs H Q E h => ?_) (fun cdv A outer s H vs Q E hr h => ?_)
  · obtain ⟨t, f, l, Y, s, way, i, x, rfl, _⟩ := h
    rfl
  · obtain ⟨t, f, l, Y, s, way, i, x, rfl, ⟨dx, A⟩, hx, hrec, hw, h⟩ := h
    refine ⟨_, (pss_one (ps_if (pt_cmpR op_eq (pv 1) pe_int (nomark _))
        (pss_one (ps_expr (pe_call G_take_in.ok (hr.mono (by decide)) rfl G_take_in.g G_take_in.kp G_take_in.b .nil pass0 (pa_cons (pe_fld (pv 0) rfl) (pa_cons (pe_ix ix_list (pe_fld (pv 0) rfl) (pv 2) (fun _ _ => rfl)) (pa_cons (pv 2) (pa_cons (pv 3) (pa_cons (pe_fld (pv 0) rfl) (pa_cons (pe_fld (pv 0) rfl) pa_nil)))))))))
        (pss_one (ps_expr (pe_meth (pe_ix ix_list (pe_fld (pv 0) rfl) (pv 2) (fun _ _ => rfl)) T.clP M_Post_learn.m M_Post_learn.ok (hr.mono (by decide)) M_Post_learn.b .nil pass0 (pa_cons (pv 3) pa_nil)))))), ?_⟩
    obtain ⟨p, u, d, hp, hu, hd⟩ := A.places hx
    rcases h with ⟨rfl, g, hg, q⟩ | ⟨rfl, few, g, hg, q⟩
    · refine ⟨_, rfl, rfl, _, rfl, iteT ?_⟩
      refine ⟨_, rfl, t, c.T, dx, _, _, rfl, A.obj, T.clT, T.nT_home, to_home, _, rfl, t, c.T, dx, _, _, rfl, A.obj, T.clT, T.nT_to_post, to_to_post, _, rfl, Y.ld, _, _, _, rfl, rfl, SqL.of A.dl, atI_nat (ref_at hd), _, rfl, _, rfl, _, rfl, t, c.T, dx, _, _, rfl, A.obj, T.clT, T.nT_today, to_today, _, rfl, t, c.T, dx, _, _, rfl, A.obj, T.clT, T.nT_length, to_length, ?_⟩
      refine ⟨Y.h, d, f, l, 4, (26 + 10 * i), s.recs, s.safe, i, s.day, s.w, g, x.down, rfl, A.home, A.down i x d hx hd, hg, by omega, by omega, hrec, hw, fun H1 l1 hA wA ch => ?_⟩
      rw [comeUp_eq hx] at q
      refine q H1 l1 ⟨dx, A.put (y := { x with down := (takeInF s.recs s.safe i s.day s.w g x.down).2 }) ch (fun m z => z.imp id fun z => ?_) hA (fun p' h' => ?_) (fun u' h' => ?_) (fun d' h' => ?_)⟩ ch
      · rw [z]; exact ⟨by omega, by omega⟩
      · exact PostAt.keep (PostAt.like (A.post i x p' hx h') rfl rfl rfl rfl rfl) ch fun m hm z => by have := hm.1; have := hm.2; rcases z with z | z <;> omega
      · exact (A.up i x u' hx h').keep ch fun z => by rcases z with z | z <;> omega
      · rw [hd] at h'
        cases h'
        exact wA
    · refine ⟨_, rfl, rfl, _, rfl, iteF ?_⟩
      obtain ⟨dp, sp, ep, ap, hp', PA⟩ := A.post i x p hx hp
      refine ⟨_, rfl, t, c.T, dx, _, _, rfl, A.obj, T.clT, T.nT_posts, to_posts, _, rfl, Y.lp, _, _, _, rfl, rfl, SqL.of A.pl, atI_nat (ref_at hp), p, dp, _, rfl, PA.obj, po_no_learn, _, rfl, ?_⟩
      refine ⟨p, f, l, (20 + 10 * i), x, g, rfl, A.post i x p hx hp, few, hg, fun H1 l1 PA1 ch => ?_⟩
      rw [comeDown_eq hx] at q
      have ud : (Vbkoah.toPost x g).up = x.up ∧ (Vbkoah.toPost x g).down = x.down := by
        cases g <;> (unfold Vbkoah.toPost; dsimp only; split <;> exact ⟨rfl, rfl⟩)
      refine q H1 l1 ⟨dx, A.put0 ch (fun m z => ⟨by have := z.1; omega, by have := z.2; omega⟩) (fun p' h' => ?_) (fun u' h' => ?_) (fun d' h' => ?_)⟩ ch
      · rw [hp] at h'
        cases h'
        exact PA1
      · rw [ud.1]
        exact (A.up i x u' hx h').keep ch fun z => by have := z.2; omega
      · rw [ud.2]
        exact (A.down i x d' hx h').keep ch fun z => by have := z.2; omega
theorem ok_Town_tick_post (T : Txt K mg c fI) {fG_tick_posts : Addr} {fdG_tick_posts : FuncData} (G_tick_posts : FG P w K mg base CX0 5 "tick_posts" ["post", "wire", "day"] (spTick c) fG_tick_posts fdG_tick_posts) {f : Addr} {fd : FuncData} (F : Fun K "tick_post" "Town.tick_post" s_Town_tick_post f fd) : FnOk P w K mg base CX0 6 f fd ["self", "post"] (spTickPost c) := by
  refine F.ok sc_Town_tick_post (fun vs H Q E h => ?_) (fun cdv A outer s H vs Q E hr h => ?_)
  · obtain ⟨t, l, Y, s, i, x, rfl, _⟩ := h
    rfl
  · obtain ⟨t, l, Y, s, i, x, rfl, ⟨dx, A⟩, hx, bd, q⟩ := h
    refine ⟨_, (pss_one (ps_ret (pe_call G_tick_posts.ok (hr.mono (by decide)) rfl G_tick_posts.g G_tick_posts.kp G_tick_posts.b .nil pass0 (pa_cons (pe_ix ix_list (pe_fld (pv 0) rfl) (pv 1) (fun _ _ => rfl)) (pa_cons (pe_ix ix_list (pe_fld (pv 0) rfl) (pv 1) (fun _ _ => rfl)) (pa_cons (pe_fld (pv 0) rfl) pa_nil)))))), ?_⟩
    obtain ⟨p, u, d, hp, hu, hd⟩ := A.places hx
    refine ⟨_, rfl, t, c.T, dx, _, _, rfl, A.obj, T.clT, T.nT_posts, to_posts, _, rfl, Y.lp, _, _, _, rfl, rfl, SqL.of A.pl, atI_nat (ref_at hp), _, rfl, t, c.T, dx, _, _, rfl, A.obj, T.clT, T.nT_to_home, to_to_home, _, rfl, Y.lu, _, _, _, rfl, rfl, SqL.of A.ul, atI_nat (ref_at hu), _, rfl, t, c.T, dx, _, _, rfl, A.obj, T.clT, T.nT_today, to_today, ?_⟩
    refine ⟨p, u, l, (20 + 10 * i), (25 + 10 * i), x, x.up, s.day, rfl, A.post i x p hx hp, A.up i x u hx hu, fun z => by have := z.2; omega, Few.of bd, bd.long, fun H1 l1 PA1 wA1 ch => ?_⟩
    rw [tickAt_eq hx] at q
    have ch' : Ch (TL i) l H l1 H1 := ch.mono fun m z => by
      rcases z with z | z
      · exact ⟨by have := z.1; omega, by have := z.2; omega⟩
      · exact ⟨by omega, by omega⟩
    refine q H1 l1 ⟨dx, A.put0 ch (fun m z => ?_) (fun p' h' => ?_) (fun u' h' => ?_) (fun d' h' => ?_)⟩ ch'
    · rcases z with z | z
      · exact ⟨by have := z.1; omega, by have := z.2; omega⟩
      · exact ⟨by omega, by omega⟩
    · rw [hp] at h'
      cases h'
      exact PostAt.like PA1 rfl rfl rfl rfl rfl
    · rw [hu] at h'
      cases h'
      exact wA1
    · have e : (tickP s.day x).down = x.down := (preTick_same (day := s.day) bd.recs).2.2.2.2.1
      rw [e]
      exact (A.down i x d' hx h').keep ch fun z => by
        rcases z with z | z
        · have := z.2; omega
        · omega
end
end Pp

set_option Elab.async false
set_option linter.all false
set_option maxRecDepth 100000
set_option maxHeartbeats 2000000
namespace Pp
open PySem PySem.Spec PyProof.Rows L2
open Vbkoah (Lease HomeRec PostRec Up Down Want endedAt endOf hasBack willDo hasGiven says sendTo homeNums postNums upNums downNums)
theorem Ch.ta {i : Nat} {l l' : Lab} {H H' : Hp} (ch : Ch (TL i) l H l' H') : Ch TA l H l' H' := ch.mono fun m z => .inr (.inr (by have := z.1; omega))
theorem toPost_len {x : SPost} {f : Down} : (Vbkoah.toPost x f).recs = x.recs ∧ (Vbkoah.toPost x f).wants = x.wants ∧ (Vbkoah.toPost x f).known.length ≤ x.known.length + 1 ∧ (Vbkoah.toPost x f).heard.length ≤ x.heard.length + 1 := by
  cases f with
  | lease l =>
    unfold Vbkoah.toPost
    dsimp only
    split
    · exact ⟨rfl, rfl, Nat.le_succ _, Nat.le_succ _⟩
    · refine ⟨rfl, rfl, ?_, Nat.le_succ _⟩
      show (x.known ++ [l]).length ≤ _
      rw [List.length_append, List.length_singleton]
      exact Nat.le_refl _
  | heard m =>
    unfold Vbkoah.toPost
    dsimp only
    split
    · exact ⟨rfl, rfl, Nat.le_succ _, Nat.le_succ _⟩
    · refine ⟨rfl, rfl, Nat.le_succ _, ?_⟩
      show (x.heard ++ [m]).length ≤ _
      rw [List.length_append, List.length_singleton]
      exact Nat.le_refl _
theorem toPosts_len : ∀ (fs : List Down) {x : SPost}, (fs.foldl Vbkoah.toPost x).recs = x.recs ∧ (fs.foldl Vbkoah.toPost x).wants = x.wants ∧ (fs.foldl Vbkoah.toPost x).known.length ≤ x.known.length + fs.length ∧ (fs.foldl Vbkoah.toPost x).heard.length ≤ x.heard.length + fs.length
  | [], x => ⟨rfl, rfl, Nat.le_refl _, Nat.le_refl _⟩
  | f :: fs, x => by
    obtain ⟨a1, a2, a3, a4⟩ := toPost_len (x := x) (f := f)
    obtain ⟨b1, b2, b3, b4⟩ := toPosts_len fs (x := Vbkoah.toPost x f)
    rw [List.foldl_cons, List.length_cons]
    exact ⟨b1.trans a1, b2.trans a2, by omega, by omega⟩
theorem comeDowns_at {p : Nat} : ∀ (fs : List Down) {s : SState} {x : SPost}, s.posts[p]? = some x → (fs.foldl (fun s f => comeDown s p f) s).posts[p]? = some (fs.foldl Vbkoah.toPost x)
  | [], s, x, h => h
  | f :: fs, s, x, h => comeDowns_at fs (s := comeDown s p f) (by rw [comeDown_eq h]; exact setP_at h)
theorem comeDowns_else {p i : Nat} (n : i ≠ p) : ∀ (fs : List Down) {s : SState}, (fs.foldl (fun s f => comeDown s p f) s).posts[i]? = s.posts[i]?
  | [], s => rfl
  | f :: fs, s => (comeDowns_else n fs (s := comeDown s p f)).trans (by
      cases h : s.posts[p]? with
      | none => unfold comeDown; rw [h]
      | some x => rw [comeDown_eq h]; exact setP_ne n)
theorem comeDowns_rest {p : Nat} : ∀ (fs : List Down) {s : SState}, (fs.foldl (fun s f => comeDown s p f) s).recs = s.recs ∧ (fs.foldl (fun s f => comeDown s p f) s).w = s.w
  | [], s => ⟨rfl, rfl⟩
  | f :: fs, s => by
    obtain ⟨h1, h2⟩ := comeDowns_rest fs (p := p) (s := comeDown s p f)
    have e : (comeDown s p f).recs = s.recs ∧ (comeDown s p f).w = s.w := by
      cases h : s.posts[p]? with
      | none => unfold comeDown; rw [h]; exact ⟨rfl, rfl⟩
      | some x => rw [comeDown_eq h]; exact ⟨rfl, rfl⟩
    exact ⟨h1.trans e.1, h2.trans e.2⟩
theorem drainDownP_else {s : SState} {p i : Nat} (n : i ≠ p) : (drainDownP s p).posts[i]? = s.posts[i]? := by
  cases h : s.posts[p]? with
  | none => unfold drainDownP; rw [h]
  | some x => rw [drainDownP_eq h, comeDowns_else n]; exact setP_ne n
theorem drainDownP_rest {s : SState} {p : Nat} : (drainDownP s p).recs = s.recs ∧ (drainDownP s p).w = s.w := by
  cases h : s.posts[p]? with
  | none => unfold drainDownP; rw [h]; exact ⟨rfl, rfl⟩
  | some x => rw [drainDownP_eq h]; exact comeDowns_rest _
/-- where all below i has come down -/
structure HalfBd (s : SState) (i : Nat) : Prop where
  recs : s.recs.length ≤ 80
  w : 1 ≤ s.w
  post : ∀ j x, i ≤ j → s.posts[j]? = some x → PBd x
theorem HalfBd.next {s : SState} {i : Nat} (b : HalfBd s i) : HalfBd (drainDownP s i) (i + 1) :=
  ⟨by rw [drainDownP_rest.1]; exact b.recs, by rw [drainDownP_rest.2]; exact b.w, fun j x hj h => by
    rw [drainDownP_else (by omega)] at h
    exact b.post j x (by omega) h⟩
theorem range_fold_succ {f : SState → Nat → SState} {s : SState} {i : Nat} : (List.range (i + 1)).foldl f s = f ((List.range i).foldl f s) i := by
  rw [List.range_succ, List.foldl_append] <;> rfl
def spComeAll (c : Ad) : Sp := fun vs H Q _ => ∃ (t : Addr) (l : Lab) (Y : Lay) (s : SState) (way : Int), vs = [.ref t, .int way] ∧ TownAt c H l t Y s ∧ SBd s ∧ s.posts.length ≤ 100 ∧
  ((way = 0 ∧ ∀ H' l', TownAt c H' l' t Y (drainUpsP s) → Ch TA l H l' H' → Q .non H') ∨
   (way = 1 ∧ ∀ H' l', TownAt c H' l' t Y (drainDownsP s) → Ch TA l H l' H' → Q .non H'))
def spMkSafe (c : Ad) : Sp := fun vs H Q _ => ∃ (t : Addr) (l : Lab) (Y : Lay) (s : SState), vs = [.ref t] ∧ TownAt c H l t Y s ∧ s.posts.length ≤ 100 ∧ ∀ H' l', TownAt c H' l' t Y (allSafeP s) → Ch TA l H l' H' → Q .non H'
def spCalmDay (c : Ad) : Sp := fun vs H Q _ => ∃ (t : Addr) (l : Lab) (Y : Lay) (s : SState), vs = [.ref t] ∧ TownAt c H l t Y s ∧ SBd s ∧ s.posts.length ≤ 100 ∧ ∀ H' l', TownAt c H' l' t Y (calmDayP s) → Ch TA l H l' H' → Q .non H'
section
variable {P : Program} {w : World} {K : PySem.W.Frag} {mg : Str → Option Value} {base : Heap} {c : Ad} {fI : Addr}
theorem ok_Town_come_all (T : Txt K mg c fI) {fM_Wire_take_all : Addr} {fdM_Wire_take_all : FuncData} (M_Wire_take_all : MG P w K mg base c.W 1 "take_all" ["self"] (spTakeAll c) fM_Wire_take_all fdM_Wire_take_all) {fM_Town_wire : Addr} {fdM_Town_wire : FuncData} (M_Town_wire : MG P w K mg base c.T 1 "wire" ["self", "way", "post"] (spToWire c) fM_Town_wire fdM_Town_wire) {fM_Town_come : Addr} {fdM_Town_come : FuncData} (M_Town_come : MG P w K mg base c.T 5 "come" ["self", "way", "post", "frame"] (spCome c) fM_Town_come fdM_Town_come) {f : Addr} {fd : FuncData} (F : Fun K "come_all" "Town.come_all" s_Town_come_all f fd) : FnOk P w K mg base CX0 6 f fd ["self", "way"] (spComeAll c) := by
  refine F.ok sc_Town_come_all (fun vs H Q E h => ?_) (fun cdv A outer s H vs Q E hr h => ?_)
  · obtain ⟨t, l, Y, s, way, rfl, _⟩ := h
    rfl
  · obtain ⟨t, l, Y, s, way, rfl, ⟨dx, A⟩, bd, hn, h⟩ := h
    refine ⟨_, (pss_one (ps_for PassesOwn.never rfl (pi_range1 rfl T.z_range (pa_cons (pe_callB (call_len_seq) (by rfl) T.z_len PySem.boot_len (pa_cons (pe_fld (pv 0) rfl) pa_nil)) pa_nil)) (pg_name (i := 2) sc_Town_come_all.nd rfl (Or.inl rfl))
        (pss_one (ps_for PassesOwn.never rfl (pi_list (pe_meth0 (pe_meth (pv 0) T.clT M_Town_wire.m M_Town_wire.ok (hr.mono (by decide)) M_Town_wire.b .nil pass0 (pa_cons (pv 1) (pa_cons (pv 2) pa_nil))) T.clW M_Wire_take_all.m M_Wire_take_all.ok (hr.mono (by decide)) M_Wire_take_all.b .nil pass0)) (pg_name (i := 3) sc_Town_come_all.nd rfl (Or.inl rfl))
        (pss_one (ps_expr (pe_meth (pv 0) T.clT M_Town_come.m M_Town_come.ok (hr.mono (by decide)) M_Town_come.b .nil pass0 (pa_cons (pv 1) (pa_cons (pv 2) (pa_cons (pv 3) pa_nil)))))))))), ?_⟩
    refine ⟨_, rfl, t, c.T, dx, _, _, rfl, A.obj, T.clT, T.nT_posts, to_posts, Y.lp, _, rfl, .inl (SqL.of A.pl), _, rfl, by omega, by rw [List.length_map, A.np]; omega, ?_⟩
    rw [List.length_map, A.np, show (((s.posts.length : Nat) : Int)).toNat = s.posts.length from rfl]
    rcases h with ⟨rfl, q⟩ | ⟨rfl, q⟩
    · refine for_range (lo := 0) (n := s.posts.length) (fun i σ H' => ∃ l' v2 v3, σ = [some (.ref t), some (.int 0), v2, v3] ∧ TownAt c H' l' t Y ((List.range i).foldl drainUpP s) ∧ Ch TA l H l' H') ⟨l, _, _, rfl, ⟨dx, A⟩, Ch.refl⟩ ?_ ?_
      · rintro i σ H' hi ⟨l', v2, v3, rfl, ⟨dy, B⟩, ch⟩
        have e0 : (0 : Int) + (i : Int) = (i : Int) := Int.zero_add _
        have bS : SBd ((List.range i).foldl drainUpP s) := fold_bd (fun s p b => drainUpP_bd b) _ bd
        have lS : ((List.range i).foldl drainUpP s).posts.length = s.posts.length := fold_len (fun s p => drainUpP_len) _
        obtain ⟨x, hx⟩ := get_of_lt (l := ((List.range i).foldl drainUpP s).posts) (i := i) (by rw [lS]; exact hi)
        obtain ⟨p, u, d, hp, hu, hd⟩ := B.places hx
        have wU := B.up i x u hx hu
        obtain ⟨dw, fr, hw, _⟩ := id wU
        dsimp only [gName, List.set]
        rw [e0]
        refine ⟨_, rfl, t, dy, _, rfl, B.obj, to_no_wire, _, rfl, _, rfl, t, l', Y, _, 0, i, x, rfl, ⟨dy, B⟩, hx, fun _ u' hu' => ?_, fun z => absurd rfl z⟩
        rw [hu] at hu'
        cases hu'
        refine ⟨u, dw, _, rfl, hw, wi_no_take_all, u, l', _, _, rfl, wU, fun H1 l1 pl hR lpl wU1 ch1 => ⟨pl, rfl, ?_⟩⟩
        have B1 : TAt c H1 l1 t dy Y (setP ((List.range i).foldl drainUpP s) i { x with up := [] }) := B.put0 ch1 (fun m z => by rw [z]; exact ⟨by omega, by omega⟩) (fun p' h' => PostAt.keep (PostAt.like (B.post i x p' hx h') rfl rfl rfl rfl rfl) ch1 fun m hm z => by have := hm.2; omega)
          (fun u' h' => by rw [hu] at h'; cases h'; exact wU1) (fun d' h' => (B.down i x d' hx h').keep ch1 (by omega))
        obtain ⟨tl, htl, hptl⟩ := hR
        have stp := drainUpP_eq hx
        refine ⟨⟨_, SqL.of htl⟩, for_list (K := K) (a := pl) (xs := tl.map V.ref) (fun j σ H' => ∃ l2 v3, σ = [some (.ref t), some (.int 0), some (.int i), v3] ∧ TownAt c H' l2 t Y ((x.up.take j).foldl (fun s f => comeUp s i f) (setP ((List.range i).foldl drainUpP s) i { x with up := [] })) ∧ Ch (fun n => n = 4 ∨ n = 26 + 10 * i) l1 H1 l2 H')
          ⟨l1, _, rfl, ⟨dy, B1⟩, Ch.refl⟩ (fun j σ H' _ ⟨l2, v3, _, _, ch2⟩ => SqL.of (ch2.keep _ _ htl (by rw [lpl]; omega))) ?_ ?_⟩
        · rintro j y σ H' hj ⟨l2, v3, rfl, ⟨dz, C⟩, ch2⟩
          obtain ⟨f', hf', rfl⟩ := refs_at hj
          obtain ⟨row, hrow, hfr⟩ := pairedAt hptl hf'
          rw [List.getElem?_map] at hrow
          obtain ⟨g, hg, rfl⟩ := Option.map_eq_some_iff.mp hrow
          have bx := bS.at hx
          have bC := comeUps_bd (p := i) (x.up.take j) (bS.setP (p := i) (y := { x with up := [] }) ⟨bx.recs, bx.known, bx.wants, bx.heard, Nat.zero_le _, bx.down, bx.long⟩)
          obtain ⟨x', hx'⟩ := get_of_lt (l := ((x.up.take j).foldl (fun s f => comeUp s i f) (setP ((List.range i).foldl drainUpP s) i { x with up := [] })).posts) (i := i) (by rw [comeUps_len, setP_len, lS]; exact hi)
          refine ⟨_, rfl, t, dz, _, rfl, C.obj, to_no_come, _, rfl, _, rfl, _, rfl, t, f', l2, Y, _, 0, i, x', rfl, ⟨dz, C⟩, hx', by have := bC.recs; omega, bC.w, .inl ⟨rfl, g, ch2.tups _ _ hfr, fun H3 l3 D3 ch3 => ?_⟩⟩
          refine ⟨l3, _, rfl, ?_, ch2.trans ch3⟩
          rw [foldl_take_succ (f := fun s f => comeUp s i f) hg]
          exact D3
        · rintro σ H2 ⟨l2, v3, rfl, C, ch2⟩
          rw [List.length_map, hptl.length, List.length_map, List.take_length] at C
          refine ⟨l2, _, _, rfl, ?_, (ch.trans (ch1.mono fun m z => .inr (.inr (by omega)))).trans (ch2.mono fun m z => ?_)⟩
          · rw [range_fold_succ, stp]
            exact C
          · rcases z with z | z
            · exact .inr (.inl z)
            · exact .inr (.inr (by omega))
      · rintro σ H' ⟨l', v2, v3, rfl, B, ch⟩
        exact q H' l' B ch
    · refine for_range (lo := 0) (n := s.posts.length) (fun i σ H' => ∃ l' v2 v3, σ = [some (.ref t), some (.int 1), v2, v3] ∧ TownAt c H' l' t Y ((List.range i).foldl drainDownP s) ∧ Ch TA l H l' H' ∧ HalfBd ((List.range i).foldl drainDownP s) i) ⟨l, _, _, rfl, ⟨dx, A⟩, Ch.refl, bd.recs, bd.w, fun j x _ h => bd.at h⟩ ?_ ?_
      · rintro i σ H' hi ⟨l', v2, v3, rfl, ⟨dy, B⟩, ch, hb⟩
        have e0 : (0 : Int) + (i : Int) = (i : Int) := Int.zero_add _
        have lS : ((List.range i).foldl drainDownP s).posts.length = s.posts.length := fold_len (fun s p => drainDownP_len) _
        obtain ⟨x, hx⟩ := get_of_lt (l := ((List.range i).foldl drainDownP s).posts) (i := i) (by rw [lS]; exact hi)
        obtain ⟨p, u, d, hp, hu, hd⟩ := B.places hx
        have wD := B.down i x d hx hd
        obtain ⟨dw, fr, hw, _⟩ := id wD
        have bx := hb.post i x (Nat.le_refl _) hx
        dsimp only [gName, List.set]
        rw [e0]
        refine ⟨_, rfl, t, dy, _, rfl, B.obj, to_no_wire, _, rfl, _, rfl, t, l', Y, _, 1, i, x, rfl, ⟨dy, B⟩, hx, fun z => absurd z (by decide), fun _ d' hd' => ?_⟩
        rw [hd] at hd'
        cases hd'
        refine ⟨d, dw, _, rfl, hw, wi_no_take_all, d, l', _, _, rfl, wD, fun H1 l1 pl hR lpl wD1 ch1 => ⟨pl, rfl, ?_⟩⟩
        have B1 : TAt c H1 l1 t dy Y (setP ((List.range i).foldl drainDownP s) i { x with down := [] }) := B.put0 ch1 (fun m z => by rw [z]; exact ⟨by omega, by omega⟩) (fun p' h' => PostAt.keep (PostAt.like (B.post i x p' hx h') rfl rfl rfl rfl rfl) ch1 fun m hm z => by have := hm.2; omega)
          (fun u' h' => (B.up i x u' hx h').keep ch1 (by omega)) (fun d' h' => by rw [hd] at h'; cases h'; exact wD1)
        obtain ⟨tl, htl, hptl⟩ := hR
        have stp := drainDownP_eq hx
        have hx1 : (setP ((List.range i).foldl drainDownP s) i { x with down := [] }).posts[i]? = some { x with down := [] } := setP_at hx
        refine ⟨⟨_, SqL.of htl⟩, for_list (K := K) (a := pl) (xs := tl.map V.ref) (fun j σ H' => ∃ l2 v3, σ = [some (.ref t), some (.int 1), some (.int i), v3] ∧ TownAt c H' l2 t Y ((x.down.take j).foldl (fun s f => comeDown s i f) (setP ((List.range i).foldl drainDownP s) i { x with down := [] })) ∧ Ch (PL (20 + 10 * i)) l1 H1 l2 H')
          ⟨l1, _, rfl, ⟨dy, B1⟩, Ch.refl⟩ (fun j σ H' _ ⟨l2, v3, _, _, ch2⟩ => SqL.of (ch2.keep _ _ htl (by rw [lpl]; intro z; have := z.2; omega))) ?_ ?_⟩
        · rintro j y σ H' hj ⟨l2, v3, rfl, ⟨dz, C⟩, ch2⟩
          obtain ⟨f', hf', rfl⟩ := refs_at hj
          obtain ⟨row, hrow, hfr⟩ := pairedAt hptl hf'
          rw [List.getElem?_map] at hrow
          obtain ⟨g, hg, rfl⟩ := Option.map_eq_some_iff.mp hrow
          have hx' := comeDowns_at (p := i) (x.down.take j) hx1
          have tl' := toPosts_len (x.down.take j) (x := { x with down := [] })
          have few : Few ((x.down.take j).foldl Vbkoah.toPost { x with down := [] }) := by
            obtain ⟨t1, t2, t3, t4⟩ := tl'
            rw [List.length_take] at t3 t4
            have b1 := bx.recs
            have b2 := bx.known
            have b3 := bx.wants
            have b4 := bx.heard
            have b5 := bx.down
            refine ⟨by rw [t1]; show x.recs.length ≤ 500; omega, ?_, by rw [t2]; show x.wants.length ≤ 500; omega, ?_⟩
            · have : (x.known).length ≤ 80 := b2
              refine Nat.le_trans t3 ?_
              show x.known.length + _ ≤ 500
              omega
            · refine Nat.le_trans t4 ?_
              show x.heard.length + _ ≤ 500
              omega
          have hrest := comeDowns_rest (p := i) (x.down.take j) (s := setP ((List.range i).foldl drainDownP s) i { x with down := [] })
          refine ⟨_, rfl, t, dz, _, rfl, C.obj, to_no_come, _, rfl, _, rfl, _, rfl, t, f', l2, Y, _, 1, i, _, rfl, ⟨dz, C⟩, hx', by rw [hrest.1]; have : ((List.range i).foldl drainDownP s).recs.length ≤ 80 := hb.recs; show ((List.range i).foldl drainDownP s).recs.length ≤ 900; omega, by rw [hrest.2]; exact hb.w, .inr ⟨rfl, few, g, ch2.tups _ _ hfr, fun H3 l3 D3 ch3 => ?_⟩⟩
          refine ⟨l3, _, rfl, ?_, ch2.trans ch3⟩
          rw [foldl_take_succ (f := fun s f => comeDown s i f) hg]
          exact D3
        · rintro σ H2 ⟨l2, v3, rfl, C, ch2⟩
          rw [List.length_map, hptl.length, List.length_map, List.take_length] at C
          refine ⟨l2, _, _, rfl, ?_, (ch.trans (ch1.mono fun m z => .inr (.inr (by omega)))).trans (ch2.mono fun m z => .inr (.inr (by have := z.1; omega))), ?_⟩
          · rw [range_fold_succ, stp]
            exact C
          · rw [range_fold_succ]
            exact hb.next
      · rintro σ H' ⟨l', v2, v3, rfl, B, ch, _⟩
        exact q H' l' B ch
end
end Pp

set_option Elab.async false
set_option linter.all false
set_option maxRecDepth 100000
set_option maxHeartbeats 2000000
namespace Pp
open PySem PySem.Spec PyProof.Rows L2
open Vbkoah (Lease HomeRec PostRec Up Down Want endedAt endOf hasBack willDo hasGiven says sendTo homeNums postNums upNums downNums)
theorem choose_list {R : Addr → Addr → Prop} : ∀ {ps : List Addr}, (∀ p ∈ ps, ∃ s, R p s) → ∃ ss, Paired R ps ss
  | [], _ => ⟨[], .nil⟩
  | p :: ps, h => by
    obtain ⟨s, hs⟩ := h p List.mem_cons_self
    obtain ⟨ss, hss⟩ := choose_list (ps := ps) fun q hq => h q (List.mem_cons_of_mem _ hq)
    exact ⟨s :: ss, .cons hs hss⟩
/-- the state behind i stations made safe: home's first -/
def safeSeq (s : SState) : Nat → SState
  | 0 => s
  | i + 1 => (List.range i).foldl safeAt (safeHome s)
theorem safeSeq_len {s : SState} : ∀ {i : Nat}, (safeSeq s i).posts.length = s.posts.length
  | 0 => rfl
  | i + 1 => fold_len (fun s p => safeAt_len) _
def SL (n : Nat) : Prop := n = 4 ∨ ∃ j, n = 20 + 10 * j
theorem ins_fs {C C' d d' : Addr} {fs fs' : List (Str × V)} (h : some (HO.ins C d fs) = some (HO.ins C' d' fs')) : fs = fs' := by
  injection h with h
  injection h
theorem poF_st {s e a h s' e' a' h' : Addr} (z : poF s e a h = poF s' e' a' h') : s = s' := by
  injection z with z _
  injection z with _ z
  injection z
theorem hoF_st {s s' : Addr} (z : hoF s = hoF s') : s = s' := by
  injection z with z _
  injection z with _ z
  injection z
theorem TAt.putHome {c : Ad} {l l' : Lab} {H H' : Hp} {t dx : Addr} {Y : Lay} {s : SState} {safe : Nat} (A : TAt c H l t dx Y s) (ch : Ch (· = 4) l H l' H') (hh : HomeAt c H' l' 4 Y.h s.recs safe) : TAt c H' l' t dx Y { s with safe := safe } where
  obj := ch.keep _ _ A.obj (by rw [A.lt]; omega)
  lt := (ch.lab _ _ A.obj).trans A.lt
  pl := ch.keep _ _ A.pl (by rw [A.lpl]; omega)
  ul := ch.keep _ _ A.ul (by rw [A.lul]; omega)
  dl := ch.keep _ _ A.dl (by rw [A.ldl]; omega)
  lpl := (ch.lab _ _ A.pl).trans A.lpl
  lul := (ch.lab _ _ A.ul).trans A.lul
  ldl := (ch.lab _ _ A.dl).trans A.ldl
  np := A.np
  nu := A.nu
  nd := A.nd
  home := hh
  post := fun i x p h1 h2 => (A.post i x p h1 h2).keep ch fun m hm z => by have := hm.1; omega
  up := fun i x p h1 h2 => (A.up i x p h1 h2).keep ch (by omega)
  down := fun i x p h1 h2 => (A.down i x p h1 h2).keep ch (by omega)
theorem TAt.putDay {c : Ad} {l l' : Lab} {H H' : Hp} {t dx : Addr} {Y : Lay} {s : SState} {day : Nat} (A : TAt c H l t dx Y s) (ch : Ch (· = 2) l H l' H') (ob : H' t = some (.ins c.T dx (toF Y.h Y.lp Y.lu Y.ld (s.w : Int) (day : Int)))) : TAt c H' l' t dx Y { s with day := day } where
  obj := ob
  lt := (ch.lab _ _ A.obj).trans A.lt
  pl := ch.keep _ _ A.pl (by rw [A.lpl]; omega)
  ul := ch.keep _ _ A.ul (by rw [A.lul]; omega)
  dl := ch.keep _ _ A.dl (by rw [A.ldl]; omega)
  lpl := (ch.lab _ _ A.pl).trans A.lpl
  lul := (ch.lab _ _ A.ul).trans A.lul
  ldl := (ch.lab _ _ A.dl).trans A.ldl
  np := A.np
  nu := A.nu
  nd := A.nd
  home := A.home.keep ch (by omega) (by omega)
  post := fun i x p h1 h2 => (A.post i x p h1 h2).keep ch fun m hm z => by have := hm.1; omega
  up := fun i x p h1 h2 => (A.up i x p h1 h2).keep ch (by omega)
  down := fun i x p h1 h2 => (A.down i x p h1 h2).keep ch (by omega)
section
variable {P : Program} {w : World} {K : PySem.W.Frag} {mg : Str → Option Value} {base : Heap} {c : Ad} {fI : Addr}
theorem ok_Town_make_all_safe (T : Txt K mg c fI) {fM_Station_make_safe : Addr} {fdM_Station_make_safe : FuncData} (M_Station_make_safe : MG P w K mg base c.S 1 "make_safe" ["self", "many"] (spMakeSafe c) fM_Station_make_safe fdM_Station_make_safe) {f : Addr} {fd : FuncData} (F : Fun K "make_all_safe" "Town.make_all_safe" s_Town_make_all_safe f fd) : FnOk P w K mg base CX0 2 f fd ["self"] (spMkSafe c) := by
  refine F.ok sc_Town_make_all_safe (fun vs H Q E h => ?_) (fun cdv A outer s H vs Q E hr h => ?_)
  · obtain ⟨t, l, Y, s, rfl, _⟩ := h
    rfl
  · obtain ⟨t, l, Y, s, rfl, ⟨dx, A⟩, hn, q⟩ := h
    refine ⟨_, (pss_one (ps_for PassesOwn.never rfl (pi_list (pe_op op_cat (pe_lst (pa_cons (pe_fld (pe_fld (pv 0) rfl) rfl) pa_nil)) (pe_lc (own := [("post", 2)]) (g := gName 2) (tt := tYes) rfl sc_Town_make_all_safe.nd (pi_list (pe_fld (pv 0) rfl)) (blkOk_by (own := [("post", 2)]) (N := N_Town_make_all_safe) (sc := defScope s_Town_make_all_safe) (by decide +kernel)) (fun _ _ _ _ _ => pg_name (i := 2) sc_Town_make_all_safe.nd rfl (Or.inl rfl)) (fun _ _ _ _ _ => pts_nil) (fun _ _ _ _ _ => (pe_fldK (K := K) rfl (pv 2) rfl))))) (pg_name (i := 1) sc_Town_make_all_safe.nd rfl (Or.inl rfl))
        (pss_one (ps_expr (pe_meth (pv 1) T.clS M_Station_make_safe.m M_Station_make_safe.ok (hr.mono (by decide)) M_Station_make_safe.b .nil pass0 (pa_cons (pe_gint rfl T.i_MOST_RECORDS) pa_nil)))))), ?_⟩
    obtain ⟨dh, hs, hh, lh, hS⟩ := id A.home
    have ex : ∀ p ∈ Y.ps, ∃ st, ∃ dp e a hd, H p = some (.ins c.P dp (poF st e a hd)) ∧ ∃ i, l p = 24 + 10 * i := fun p hp => by
      obtain ⟨i, hi1, hi2⟩ := List.getElem_of_mem hp
      obtain ⟨x, hx⟩ := get_of_lt (l := s.posts) (i := i) (by rw [← A.np]; exact hi1)
      obtain ⟨dp, st, e, a, hd, PA⟩ := A.post i x p hx (by rw [List.getElem?_eq_getElem hi1, hi2])
      exact ⟨st, dp, e, a, hd, PA.obj, i, by rw [PA.lp]; omega⟩
    obtain ⟨sts, hsts⟩ := choose_list ex
    refine ⟨_, rfl, t, c.T, dx, _, _, rfl, A.obj, T.clT, T.nT_home, to_home, Y.h, c.H, dh, _, _, rfl, hh, T.clH, T.nH_station, ho_station, (by show 1 ≤ sizeLine; decide), fun p1 hp1 => ?_⟩
    have sm1 : Same H (upd H p1 (.lst [.ref hs])) := Same.upd_new hp1
    refine lc_pure (K := K) (a := Y.lp) sts (fun st => some (.ref st)) (fun R k => ⟨_, rfl, t, c.T, dx, _, _, rfl, sm1 _ _ A.obj, T.clT, T.nT_posts, to_posts, k⟩) (SqL.of (sm1 _ _ A.pl)) (by rw [List.length_map, A.np]; omega) (by rw [← hsts.length, List.length_map]) (by intro _; rfl)
      (fun i x st H1 hx hst sm R k => ?_) (fun H1 p2 sm2 hp2 hl2 => ?_)
    · obtain ⟨p, hp, rfl⟩ := refs_at hx
      obtain ⟨st', hst', dp, e, a, hd, hob, _⟩ := pairedAt hsts hp
      rw [hst] at hst'
      cases hst'
      exact iteT (B := R none H1) ⟨_, rfl, p, c.P, dp, _, _, rfl, sm _ _ (sm1 _ _ hob), T.clP, T.nP_station, po_station, k H1 (Same.refl _)⟩
    · have e2 : (sts.filterMap fun st => some (V.ref st)) = sts.map V.ref := by rw [List.filterMap_eq_map']
      rw [e2] at hl2
      have hl1 := sm2 _ _ (show upd H p1 (.lst [V.ref hs]) p1 = some (.lst [V.ref hs]) from upd_same)
      have slen : sts.length ≤ 100 := by rw [← hsts.length, A.np]; exact hn
      refine ⟨p1, p2, _, _, rfl, rfl, hl1, hl2, (by
        refine Nat.le_of_lt (small1000 ?_)
        rw [List.length_map]
        show 1 + sts.length ≤ 1000
        omega), fun p3 hp3 => ⟨p3, rfl, ⟨_, SqL.of upd_same⟩, ?_⟩⟩
      have sm3 : Same H (upd H1 p3 (.lst ([V.ref hs] ++ sts.map V.ref))) := (sm1.trans sm2).trans (Same.upd_new hp3)
      have hp3' : H p3 = none := (sm1.trans sm2).free hp3
      have A3 : TAt c _ (setL l p3 0) t dx Y s := A.keep (Ch.of_same_set (L := fun _ => False) sm3 hp3') fun _ _ => id
      have ch3 : Ch SL l H (setL l p3 0) (upd H1 p3 (.lst ([V.ref hs] ++ sts.map V.ref))) := Ch.of_same_set sm3 hp3'
      refine for_list (K := K) (a := p3) (xs := [V.ref hs] ++ sts.map V.ref) (fun i σ H' => ∃ l' v1 v2, σ = [some (.ref t), v1, v2] ∧ TownAt c H' l' t Y (safeSeq s i) ∧ Ch SL (setL l p3 0) (upd H1 p3 (.lst ([V.ref hs] ++ sts.map V.ref))) l' H') ⟨_, _, _, rfl, ⟨dx, A3⟩, Ch.refl⟩
        (fun i σ H' _ ⟨l', _, _, _, _, ch⟩ => SqL.of (ch.keep _ _ upd_same (by rw [setL_same]; intro z; rcases z with z | ⟨j, z⟩ <;> omega))) ?_ ?_
      · rintro i y σ H' hi ⟨l', v1, v2, rfl, ⟨dy, B⟩, ch⟩
        have chH := ch3.trans ch
        cases i with
        | zero =>
          cases hi
          obtain ⟨dh', hs', hh', lh', hS'⟩ := id B.home
          have e := chH.keep _ _ hh (by rw [lh]; intro z; rcases z with z | ⟨j, z⟩ <;> omega)
          rw [hh'] at e
          have e := hoF_st (ins_fs e)
          subst e
          obtain ⟨dz, r, hz, hz2⟩ := id hS'
          refine ⟨_, rfl, hs', dz, _, rfl, hz, st_no_make_safe, hs', l', 4, _, _, 80, rfl, hS', fun H2 l2 st2 ch2 => ?_⟩
          rw [List.length_map] at st2
          refine ⟨l2, _, _, rfl, ?_, ch.trans (ch2.mono fun n z => .inl z)⟩
          refine ⟨dy, ?_⟩
          have hm := HomeAt.put hh' lh' ch2 st2
          exact B.putHome (safe := max s.safe (min 80 s.recs.length)) ch2 hm
        | succ j =>
          have hj : (sts.map V.ref)[j]? = some y := hi
          obtain ⟨st, hst, rfl⟩ := refs_at hj
          obtain ⟨p, hp, dp, e, a, hd, hob, i', li'⟩ := pairedAt2 hsts hst
          obtain ⟨x, hx⟩ := get_of_lt (l := (safeSeq s (j + 1)).posts) (i := j) (by rw [safeSeq_len, ← A.np]; exact lt_at hp)
          obtain ⟨dp', st', e', a', hd', PA⟩ := B.post j x p hx hp
          have eo := chH.keep _ _ hob (by rw [li']; intro z; rcases z with z | ⟨m, z⟩ <;> omega)
          rw [PA.obj] at eo
          have eo := poF_st (ins_fs eo)
          subst eo
          obtain ⟨dz, r, hz, hz2⟩ := id PA.st
          refine ⟨_, rfl, st', dz, _, rfl, hz, st_no_make_safe, st', l', _, _, _, 80, rfl, PA.st, fun H2 l2 st2 ch2 => ?_⟩
          rw [List.length_map] at st2
          refine ⟨l2, _, _, rfl, ⟨dy, ?_⟩, ch.trans (ch2.mono fun n z => .inr ⟨j, z⟩)⟩
          have stp : safeSeq s (j + 1 + 1) = setP (safeSeq s (j + 1)) j (safePost x) := by
            show (List.range (j + 1)).foldl safeAt (safeHome s) = _
            rw [range_fold_succ]
            exact safeAt_eq hx
          rw [stp]
          refine B.put0 ch2 (fun m z => by rw [z]; exact ⟨by omega, by omega⟩) (fun p' h' => ?_) (fun u' h' => (B.up j x u' hx h').keep ch2 (by omega)) (fun d' h' => (B.down j x d' hx h').keep ch2 (by omega))
          rw [hp] at h'
          cases h'
          exact ⟨_, _, _, _, _, PA.putSt (recs := x.recs) ch2 st2⟩
      · rintro σ H' ⟨l', v1, v2, rfl, B, ch⟩
        have el : ([V.ref hs] ++ sts.map V.ref).length = s.posts.length + 1 := by
          rw [List.length_append, List.length_map, ← hsts.length, A.np, List.length_singleton]
          omega
        rw [el] at B
        refine q H' l' B ((ch3.trans ch).mono fun n z => ?_)
        rcases z with z | ⟨j, z⟩
        · exact .inr (.inl z)
        · exact .inr (.inr (by omega))
theorem ok_Town_calm_day (T : Txt K mg c fI) {fM_Town_come_all : Addr} {fdM_Town_come_all : FuncData} (M_Town_come_all : MG P w K mg base c.T 6 "come_all" ["self", "way"] (spComeAll c) fM_Town_come_all fdM_Town_come_all) {fM_Town_make_all_safe : Addr} {fdM_Town_make_all_safe : FuncData} (M_Town_make_all_safe : MG P w K mg base c.T 2 "make_all_safe" ["self"] (spMkSafe c) fM_Town_make_all_safe fdM_Town_make_all_safe) {fM_Town_tick_post : Addr} {fdM_Town_tick_post : FuncData} (M_Town_tick_post : MG P w K mg base c.T 6 "tick_post" ["self", "post"] (spTickPost c) fM_Town_tick_post fdM_Town_tick_post) {f : Addr} {fd : FuncData} (F : Fun K "calm_day" "Town.calm_day" s_Town_calm_day f fd) : FnOk P w K mg base CX0 7 f fd ["self"] (spCalmDay c) := by
  refine F.ok sc_Town_calm_day (fun vs H Q E h => ?_) (fun cdv A outer s H vs Q E hr h => ?_)
  · obtain ⟨t, l, Y, s, rfl, _⟩ := h
    rfl
  · obtain ⟨t, l, Y, s, rfl, ⟨dx, A⟩, bd, hn, q⟩ := h
    refine ⟨_, (pss_cons (ps_expr (pe_meth0 (pv 0) T.clT M_Town_make_all_safe.m M_Town_make_all_safe.ok (hr.mono (by decide)) M_Town_make_all_safe.b .nil pass0))
        (pss_cons (ps_for PassesOwn.never rfl (pi_range1 rfl T.z_range (pa_cons (pe_callB (call_len_seq) (by rfl) T.z_len PySem.boot_len (pa_cons (pe_fld (pv 0) rfl) pa_nil)) pa_nil)) (pg_name (i := 1) sc_Town_calm_day.nd rfl (Or.inl rfl))
        (pss_one (ps_expr (pe_meth (pv 0) T.clT M_Town_tick_post.m M_Town_tick_post.ok (hr.mono (by decide)) M_Town_tick_post.b .nil pass0 (pa_cons (pv 1) pa_nil)))))
        (pss_cons (ps_expr (pe_meth (pv 0) T.clT M_Town_come_all.m M_Town_come_all.ok (hr.mono (by decide)) M_Town_come_all.b .nil pass0 (pa_cons pe_int pa_nil)))
        (pss_cons (ps_expr (pe_meth0 (pv 0) T.clT M_Town_make_all_safe.m M_Town_make_all_safe.ok (hr.mono (by decide)) M_Town_make_all_safe.b .nil pass0))
        (pss_cons (ps_expr (pe_meth (pv 0) T.clT M_Town_come_all.m M_Town_come_all.ok (hr.mono (by decide)) M_Town_come_all.b .nil pass0 (pa_cons pe_int pa_nil)))
        (pss_one (ps_fldaug (pv 0) pe_int in_add))))))), ?_⟩
    refine ⟨_, rfl, t, dx, _, rfl, A.obj, to_no_make_all_safe, t, l, Y, s, rfl, ⟨dx, A⟩, hn, fun H1 l1 ⟨d1, A1⟩ ch1 => ?_⟩
    have b1 : SBd (allSafeP s) := allSafeP_bd bd
    have n1 : (allSafeP s).posts.length = s.posts.length := fold_len (fun s p => safeAt_len) _
    refine ⟨_, rfl, t, c.T, d1, _, _, rfl, A1.obj, T.clT, T.nT_posts, to_posts, Y.lp, _, rfl, .inl (SqL.of A1.pl), _, rfl, by omega, by rw [List.length_map, A1.np, n1]; omega, ?_⟩
    rw [List.length_map, A1.np, show (((allSafeP s).posts.length : Nat) : Int).toNat = (allSafeP s).posts.length from rfl]
    refine for_range (lo := 0) (n := (allSafeP s).posts.length) (fun i σ H' => ∃ l' v1, σ = [some (.ref t), v1] ∧ TownAt c H' l' t Y ((List.range i).foldl tickAt (allSafeP s)) ∧ Ch TA l H l' H') ⟨l1, _, rfl, ⟨d1, A1⟩, ch1⟩ ?_ ?_
    · rintro i σ H' hi ⟨l', v1, rfl, ⟨dy, B⟩, ch⟩
      have e0 : (0 : Int) + (i : Int) = (i : Int) := Int.zero_add _
      have bS : SBd ((List.range i).foldl tickAt (allSafeP s)) := fold_bd (fun s p b => tickAt_bd b) _ b1
      obtain ⟨x, hx⟩ := get_of_lt (l := ((List.range i).foldl tickAt (allSafeP s)).posts) (i := i) (by rw [fold_len (fun s p => tickAt_len)]; exact hi)
      dsimp only [gName, List.set]
      rw [e0]
      refine ⟨_, rfl, t, dy, _, rfl, B.obj, to_no_tick_post, _, rfl, t, l', Y, _, i, x, rfl, ⟨dy, B⟩, hx, bS.at hx, fun H2 l2 B2 ch2 => ?_⟩
      refine ⟨l2, _, rfl, ?_, ch.trans ch2.ta⟩
      rw [range_fold_succ]
      exact B2
    · rintro σ H2 ⟨l2, v1, rfl, ⟨d2, A2⟩, ch2⟩
      have b2 : SBd (ticksP (allSafeP s)) := fold_bd (fun s p b => tickAt_bd b) _ b1
      have n2 : (ticksP (allSafeP s)).posts.length = s.posts.length := (fold_len (fun s p => tickAt_len) _).trans n1
      refine ⟨_, rfl, t, d2, _, rfl, A2.obj, to_no_come_all, t, l2, Y, ticksP (allSafeP s), 0, rfl, ⟨d2, A2⟩, b2, by omega, .inl ⟨rfl, fun H3 l3 ⟨d3, A3⟩ ch3 => ?_⟩⟩
      have b3 : SBd (drainUpsP (ticksP (allSafeP s))) := fold_bd (fun s p b => drainUpP_bd b) _ b2
      have n3 : (drainUpsP (ticksP (allSafeP s))).posts.length = s.posts.length := (fold_len (fun s p => drainUpP_len) _).trans n2
      refine ⟨_, rfl, t, d3, _, rfl, A3.obj, to_no_make_all_safe, t, l3, Y, _, rfl, ⟨d3, A3⟩, by omega, fun H4 l4 ⟨d4, A4⟩ ch4 => ?_⟩
      have b4 : SBd (allSafeP (drainUpsP (ticksP (allSafeP s)))) := allSafeP_bd b3
      have n4 : (allSafeP (drainUpsP (ticksP (allSafeP s)))).posts.length = s.posts.length := (fold_len (fun s p => safeAt_len) _).trans n3
      refine ⟨_, rfl, t, d4, _, rfl, A4.obj, to_no_come_all, t, l4, Y, _, 1, rfl, ⟨d4, A4⟩, b4, by omega, .inr ⟨rfl, fun H5 l5 ⟨d5, A5⟩ ch5 => ?_⟩⟩
      have eC : calmDayP s = { drainDownsP (allSafeP (drainUpsP (ticksP (allSafeP s)))) with day := (drainDownsP (allSafeP (drainUpsP (ticksP (allSafeP s))))).day + 1 } := rfl
      rw [eC] at q
      generalize drainDownsP (allSafeP (drainUpsP (ticksP (allSafeP s)))) = S5 at A5 q
      refine ⟨_, rfl, t, c.T, d5, _, _, rfl, A5.obj, T.clT, T.nT_today, to_today, _, _, rfl, rfl, d5, _, A5.obj, (by show 6 < 1000; decide), ?_⟩
      rw [to_put_today]
      have ch6 : Ch (· = 2) l5 H5 l5 (upd H5 t (.ins c.T d5 (toF Y.h Y.lp Y.lu Y.ld (S5.w : Int) ((S5.day : Int) + 1)))) := Ch.upd A5.obj (by intro xs z; cases z) A5.lt
      exact q _ l5 ⟨d5, A5.putDay (day := S5.day + 1) ch6 upd_same⟩ ((((ch2.trans ch3).trans ch4).trans ch5).trans (ch6.mono fun n z => .inl z))
end
end Pp

set_option Elab.async false
set_option linter.all false
set_option maxRecDepth 100000
set_option maxHeartbeats 2000000
namespace Pp
open PySem PySem.Spec PyProof.Rows L2
open Vbkoah (Lease HomeRec PostRec Up Down Want endedAt endOf hasBack willDo hasGiven says sendTo homeNums postNums upNums downNums)
/-! ### 11. refusals, counts, papers -/
/-- a refusal with the number e leaves, all as it was -/
def Rf (c : Ad) (E : XK) (H : Hp) (e : Int) : Prop := ∀ d, H d = none → E (.ref c.R) (some d) (upd H d (.xd [(("number" : Str), .int e)]))
def spDemand (c : Ad) : Sp := fun vs H Q E => ∃ (b : Bool) (n : Int), vs = [.bl b, .int n] ∧ (b = true → Q .non H) ∧ (b = false → Rf c E H n)
def spDemandIn (c : Ad) : Sp := fun vs H Q E => ∃ (n lo hi : Int), vs = [.int n, .int lo, .int hi] ∧ (lo ≤ n → n ≤ hi → Q .non H) ∧ (¬ (lo ≤ n ∧ n ≤ hi) → Rf c E H (-1))
abbrev pNums (y : Vbkoah.Paper) : List Int := [(y.p : Int), (y.x : Int), (y.f : Int), (y.t : Int)]
def cnt (rows : List Row) : List Int := (rows.length : Int) :: rows.flatten
theorem big {n : Nat} (h : n ≤ 100000) : n ≤ sizeLine := Nat.le_trans h (by decide)
def spCounted (c : Ad) : Sp := fun vs H Q _ => ∃ (a : Addr) (rows : List Row), vs = [.ref a] ∧ RowsAt H a rows ∧ rows.flatten.length ≤ 10000 ∧ ∀ H' g, Same H H' → H g = none → H' g = some (.lst ((cnt rows).map V.int)) → Q (.ref g) H'
def spPapersOf (c : Ad) : Sp := fun vs H Q _ => ∃ (t : Addr) (l : Lab) (Y : Lay) (s : SState), vs = [.ref t] ∧ TownAt c H l t Y s ∧ SBd s ∧ s.posts.length ≤ 3 ∧ ∀ H' g, Same H H' → H g = none → RowsAt H' g ((Vbkoah.papers s).map pNums) → Q (.ref g) H'
def spTold (c : Ad) : Sp := fun vs H Q _ => ∃ (s : Addr) (l : Lab) (k : Nat) (rows : List Row) (sure : Nat), vs = [.ref s] ∧ StAt c H l k s rows sure ∧ rows.flatten.length ≤ 10000 ∧
  ∀ H' g, Same H H' → H g = none → H' g = some (.lst (((rows.length : Int) :: (sure : Int) :: rows.flatten).map V.int)) → Q (.ref g) H'
theorem flatten_take_succ {rows : List Row} {i : Nat} {r : Row} (h : rows[i]? = some r) : (rows.take (i + 1)).flatten = (rows.take i).flatten ++ r := by
  rw [take_succ_at h, List.flatten_append]
  simp
theorem flatten_take_le (rows : List Row) (i : Nat) : (rows.take i).flatten.length ≤ rows.flatten.length := by
  have : rows.flatten = (rows.take i).flatten ++ (rows.drop i).flatten := by rw [← List.flatten_append, List.take_append_drop]
  rw [this, List.length_append]
  omega
theorem mem_flatten_len {rows : List Row} {r : Row} (h : r ∈ rows) : r.length ≤ rows.flatten.length := by
  obtain ⟨a, b, rfl⟩ := List.append_of_mem h
  rw [List.flatten_append, List.flatten_cons, List.length_append, List.length_append]
  omega
def grantPaper (p : Nat) : PostRec → Option Vbkoah.Paper
  | .grant _ k f t => some ⟨p, k, f, t⟩
  | _ => none
theorem papersOf_eq (p : Nat) (x : SPost) : Vbkoah.papersOf p x = (x.recs.take x.safe).filterMap (grantPaper p) := by
  unfold Vbkoah.papersOf
  congr 1
theorem papersOf_len {p : Nat} {x : SPost} (h : x.recs.length ≤ 80) : (Vbkoah.papersOf p x).length ≤ 80 := by
  rw [papersOf_eq]
  refine Nat.le_trans (List.length_filterMap_le _ _) ?_
  rw [List.length_take]
  omega
theorem papers_take_len {s : SState} (b : SBd s) (i : Nat) (hn : s.posts.length ≤ 3) : ∀ l : List (Nat × SPost), (∀ t ∈ l, PBd t.2) → l.length ≤ i → (l.flatMap fun t => Vbkoah.papersOf t.1 t.2).length ≤ i * 80
  | [], _, _ => Nat.zero_le _
  | t :: l, h, hl => by
    cases i with
    | zero => cases hl
    | succ i =>
      have ih := papers_take_len b i hn l (fun u hu => h u (List.mem_cons_of_mem _ hu)) (Nat.le_of_succ_le_succ hl)
      have h1 := papersOf_len (p := t.1) (h t List.mem_cons_self).recs
      rw [List.flatMap_cons, List.length_append]
      omega
section
variable {P : Program} {w : World} {K : PySem.W.Frag} {mg : Str → Option Value} {base : Heap} {c : Ad} {fI : Addr}
theorem ok_demand (T : Txt K mg c fI) {f : Addr} {fd : FuncData} (F : Fun K "demand" "demand" s_demand f fd) : FnOk P w K mg base (L2.CX P w) 3 f fd ["is_good", "number"] (spDemand c) := by
  refine F.okX sc_demand (fun vs H Q E h => ?_) (fun cdv A outer s H vs Q E hr h => ?_)
  · obtain ⟨b, n, rfl, _⟩ := h
    rfl
  · obtain ⟨b, n, rfl, q1, q2⟩ := h
    refine ⟨_, (pss_one (ps_if (pt_not (pt_val (pv 0)))
        (pss_one (ps_raiseLow rfl T.low hr (takes_of rfl rfl rfl rfl) (pa_cons (pv 1) pa_nil)))
        pss_nil)), ?_⟩
    refine ⟨_, rfl, _, rfl, ?_⟩
    cases b with
    | true => exact iteF (q1 rfl)
    | false => exact iteT ⟨_, rfl, _, rfl, fun d hd => q2 rfl d hd⟩
theorem ok_demand_in (T : Txt K mg c fI) {fG_demand : Addr} {fdG_demand : FuncData} (G_demand : FG P w K mg base (L2.CX P w) 3 "demand" ["is_good", "number"] (spDemand c) fG_demand fdG_demand) {f : Addr} {fd : FuncData} (F : Fun K "demand_in" "demand_in" s_demand_in f fd) : FnOk P w K mg base (L2.CX P w) 4 f fd ["number", "low", "high"] (spDemandIn c) := by
  refine F.okX sc_demand_in (fun vs H Q E h => ?_) (fun cdv A outer s H vs Q E hr h => ?_)
  · obtain ⟨n, lo, hi, rfl, _⟩ := h
    rfl
  · obtain ⟨n, lo, hi, rfl, q1, q2⟩ := h
    refine ⟨_, (pss_one (ps_expr (pe_call G_demand.ok (hr.mono (by decide)) rfl G_demand.g G_demand.kp G_demand.b .nil xpass (pa_cons (pe_chain op_le op_le (pv 1) (pv 0) (pv 2)) (pa_cons (pe_un un_neg pe_int) pa_nil))))), ?_⟩
    refine ⟨_, rfl, _, rfl, _, _, rfl, rfl, _, rfl, ?_⟩
    by_cases h1 : lo ≤ n
    · refine if_true_of (decide_eq_true h1) ⟨_, rfl, _, _, rfl, rfl, 1, rfl, _, _, rfl, fun z => q1 h1 (of_decide_eq_true z), fun z => q2 fun y => ?_⟩
      exact absurd (decide_eq_true y.2) (by rw [z]; exact Bool.false_ne_true)
    · refine if_false_of (decide_eq_false h1) ⟨1, rfl, _, _, rfl, fun z => (by cases z), fun _ => q2 fun y => h1 y.1⟩
theorem ok_counted (T : Txt K mg c fI) {f : Addr} {fd : FuncData} (F : Fun K "counted" "counted" s_counted f fd) : FnOk P w K mg base CX0 1 f fd ["rows"] (spCounted c) := by
  refine F.ok sc_counted (fun vs H Q E h => ?_) (fun cdv A outer s H vs Q E hr h => ?_)
  · obtain ⟨a, rows, rfl, _⟩ := h
    rfl
  · obtain ⟨a, rows, rfl, ⟨ts, ht, hp⟩, hlen, q⟩ := h
    refine ⟨_, (pss_cons (ps_set (i := 1) sc_counted.nd rfl (Or.inl rfl) (pe_lst (pa_cons (pe_callB (call_len_seq) (by rfl) T.z_len PySem.boot_len (pa_cons (pv 0) pa_nil)) pa_nil)))
        (pss_cons (ps_for PassesOwn.never rfl (pi_list (pv 0)) (pg_name (i := 2) sc_counted.nd rfl (Or.inl rfl))
        (pss_one (ps_set (i := 1) sc_counted.nd rfl (Or.inl rfl) (pe_op op_cat (pv 1) (pe_callTy call_list_of (by rfl) T.z_list (by decide +kernel) (pa_cons (pv 2) pa_nil))))))
        (pss_one (ps_ret (pv 1))))), ?_⟩
    refine ⟨_, rfl, a, _, rfl, .inl (SqL.of ht), (by show 1 ≤ sizeLine; decide), fun g0 hg0 => ?_⟩
    rw [List.length_map, hp.length] at *
    have sm0 := Same.upd_new (o := .lst [V.int (rows.length : Nat)]) hg0
    refine ⟨_, rfl, a, rfl, ⟨_, SqL.of (sm0 _ _ ht)⟩, for_list (K := K) (a := a) (xs := ts.map V.ref) (fun i σ H' => ∃ g v2, σ = [some (.ref a), some (.ref g), v2] ∧ Same H H' ∧ H g = none ∧ H' g = some (.lst (((rows.length : Int) :: (rows.take i).flatten).map V.int)))
      ⟨g0, _, rfl, sm0, hg0, by rw [upd_same] <;> rfl⟩ (fun i σ H' _ ⟨_, _, _, sm, _⟩ => SqL.of (sm _ _ ht)) ?_ ?_⟩
    · rintro i y σ H' hi ⟨g, v2, rfl, sm, hg, hgl⟩
      obtain ⟨t, hti, rfl⟩ := refs_at hi
      obtain ⟨row, hrow, htr⟩ := pairedAt hp hti
      refine ⟨_, rfl, _, rfl, t, _, rfl, .inr (SqT.of (sm _ _ htr)), fun u hu => ?_⟩
      have smu := Same.upd_new (o := .lst (row.map V.int)) hu
      have h1 := flatten_take_le rows i
      have h2 := mem_flatten_len (List.mem_of_getElem? hrow)
      refine ⟨g, u, _, _, rfl, rfl, smu _ _ hgl, upd_same, big ?_, fun g2 hg2 => ?_⟩
      · rw [List.length_map, List.length_map, List.length_cons]
        omega
      · have sm2 := (sm.trans smu).trans (Same.upd_new (o := .lst (((rows.length : Int) :: (rows.take i).flatten).map V.int ++ row.map V.int)) hg2)
        refine ⟨g2, _, rfl, sm2, (sm.trans smu).free hg2, ?_⟩
        rw [upd_same, flatten_take_succ hrow, ← List.map_append] <;> rfl
    · rintro σ H' ⟨g, v2, rfl, sm, hg, hgl⟩
      rw [List.length_map, hp.length, List.take_length] at hgl
      exact ⟨_, rfl, q H' g sm hg hgl⟩
theorem ok_told_records (T : Txt K mg c fI) {fG_counted : Addr} {fdG_counted : FuncData} (G_counted : FG P w K mg base CX0 1 "counted" ["rows"] (spCounted c) fG_counted fdG_counted) {f : Addr} {fd : FuncData} (F : Fun K "told_records" "told_records" s_told_records f fd) : FnOk P w K mg base CX0 2 f fd ["station"] (spTold c) := by
  refine F.ok sc_told_records (fun vs H Q E h => ?_) (fun cdv A outer s H vs Q E hr h => ?_)
  · obtain ⟨s, l, k, rows, sure, rfl, _⟩ := h
    rfl
  · obtain ⟨s, l, k, rows, sure, rfl, ⟨dx, r, hs, hR, _, _⟩, hlen, q⟩ := h
    refine ⟨_, (pss_cons (ps_set (i := 1) sc_told_records.nd rfl (Or.inl rfl) (pe_call G_counted.ok (hr.mono (by decide)) rfl G_counted.g G_counted.kp G_counted.b .nil pass0 (pa_cons (pe_fld (pv 0) rfl) pa_nil)))
        (pss_one (ps_ret (pe_op op_cat (pe_op op_cat (pe_slice sl_list (pv 1) po_none (po_some pe_int)) (pe_lst (pa_cons (pe_fld (pv 0) rfl) pa_nil))) (pe_slice sl_list (pv 1) (po_some pe_int) po_none))))), ?_⟩
    refine ⟨_, rfl, s, c.S, dx, _, _, rfl, hs, T.clS, T.nS_records, st_records, r, rows, rfl, hR, hlen, fun H1 g sm1 hg hgl => ?_⟩
    refine ⟨_, rfl, _, rfl, g, _, rfl, SqL.of hgl, fun p1 hp1 => ?_⟩
    have s1 := Same.upd_new (o := .lst (cutV ((cnt rows).map V.int) none (some 1))) hp1
    refine ⟨_, rfl, s, c.S, dx, _, _, rfl, (s1 _ _ (sm1 _ _ hs)), T.clS, T.nS_sure, st_sure, (by show 1 ≤ sizeLine; decide), fun p2 hp2 => ?_⟩
    have s2 := Same.upd_new (o := .lst [V.int (sure : Int)]) hp2
    have h1 := s2 _ _ (show upd H1 p1 (.lst (cutV ((cnt rows).map V.int) none (some 1))) p1 = some (.lst (cutV ((cnt rows).map V.int) none (some 1))) from upd_same)
    have e1 : cutV ((cnt rows).map V.int) none (some 1) = [V.int (rows.length : Int)] := cut_to (k := 1)
    have e2 : cutV ((cnt rows).map V.int) (some 1) none = rows.flatten.map V.int := cut_from (k := 1)
    refine ⟨p1, p2, _, _, rfl, rfl, h1, upd_same, by rw [e1]; show 2 ≤ sizeLine; decide, fun p3 hp3 => ?_⟩
    have s3 := Same.upd_new (o := .lst (cutV ((cnt rows).map V.int) none (some 1) ++ [V.int (sure : Int)])) hp3
    refine ⟨_, rfl, _, rfl, g, _, rfl, SqL.of (s3 _ _ (s2 _ _ (s1 _ _ hgl))), fun p4 hp4 => ?_⟩
    have s4 := Same.upd_new (o := .lst (cutV ((cnt rows).map V.int) (some 1) none)) hp4
    refine ⟨p3, p4, _, _, rfl, rfl, s4 _ _ upd_same, upd_same, ?_, fun p5 hp5 => ?_⟩
    · rw [e1, e2]
      refine big ?_
      rw [List.length_map]
      show 2 + _ ≤ _
      omega
    · have s5 := Same.upd_new (o := .lst (cutV ((cnt rows).map V.int) none (some 1) ++ [V.int (sure : Int)] ++ cutV ((cnt rows).map V.int) (some 1) none)) hp5
      refine q _ p5 ((((sm1.trans s1).trans s2).trans s3).trans s4 |>.trans s5) ((((sm1.trans s1).trans s2).trans s3).trans s4 |>.free hp5) ?_
      rw [upd_same, e1, e2] <;> rfl
theorem ok_papers_of (T : Txt K mg c fI) {fM_Station_safe_records : Addr} {fdM_Station_safe_records : FuncData} (M_Station_safe_records : MG P w K mg base c.S 1 "safe_records" ["self"] (spSafeRecs c) fM_Station_safe_records fdM_Station_safe_records) {f : Addr} {fd : FuncData} (F : Fun K "papers_of" "papers_of" s_papers_of f fd) : FnOk P w K mg base CX0 2 f fd ["town"] (spPapersOf c) := by
  refine F.ok sc_papers_of (fun vs H Q E h => ?_) (fun cdv A outer s H vs Q E hr h => ?_)
  · obtain ⟨t, l, Y, s, rfl, _⟩ := h
    rfl
  · obtain ⟨t, l, Y, s, rfl, ⟨dx, A⟩, bd, hn, q⟩ := h
    refine ⟨_, (pss_cons (ps_set (i := 1) sc_papers_of.nd rfl (Or.inl rfl) (pe_lst pa_nil))
        (pss_cons (ps_for PassesOwn.never rfl (pi_enum (by rfl) T.z_enumerate (pa_cons (pe_fld (pv 0) rfl) pa_nil)) (pg_tup rfl (pgs_cons (pg_name (i := 2) sc_papers_of.nd rfl (Or.inl rfl)) (pgs_cons (pg_name (i := 3) sc_papers_of.nd rfl (Or.inl rfl)) pgs_nil)))
        (pss_one (ps_for PassesOwn.never rfl (pi_list (pe_meth0 (pe_fld (pv 3) rfl) T.clS M_Station_safe_records.m M_Station_safe_records.ok (hr.mono (by decide)) M_Station_safe_records.b .nil pass0)) (pg_name (i := 4) sc_papers_of.nd rfl (Or.inl rfl))
        (pss_one (ps_if (pt_cmpR op_eq (pe_ix ix_tup (pv 4) pe_int (fun _ _ => rfl)) pe_int (nomark _))
        (pss_one (ps_expr (pe_bm PySem.F.plainAttrs_list PySem.F.slot_list_append PySem.F.type_list_append mt_append (pv 1) (pa_cons (pe_tup (pa_cons (pv 2) (pa_cons (pe_ix ix_tup (pv 4) pe_int (fun _ _ => rfl)) (pa_cons (pe_ix ix_tup (pv 4) pe_int (fun _ _ => rfl)) (pa_cons (pe_ix ix_tup (pv 4) pe_int (fun _ _ => rfl)) pa_nil))))) pa_nil))))
        pss_nil)))))
        (pss_one (ps_ret (pv 1))))), ?_⟩
    refine ⟨Nat.zero_le _, fun D hD => ?_⟩
    have sm0 : Same H (upd H D (.lst [])) := Same.upd_new hD
    refine ⟨_, rfl, t, c.T, dx, _, _, rfl, sm0 _ _ A.obj, T.clT, T.nT_posts, to_posts, Y.lp, _, rfl, SqL.of (sm0 _ _ A.pl), ?_⟩
    refine for_enum (K := K) (a := Y.lp) (xs := Y.ps.map V.ref) (fun i σ H' => ∃ v2 v3 v4, σ = [some (.ref t), some (.ref D), v2, v3, v4] ∧ Same H H' ∧ RowsAt H' D ((((Vbkoah.numbered s.posts).take i).flatMap fun t => Vbkoah.papersOf t.1 t.2).map pNums))
      ⟨_, _, _, rfl, sm0, [], by rw [upd_same] <;> rfl, .nil⟩ (fun i σ H' _ ⟨_, _, _, _, sm, _⟩ => SqL.of (sm _ _ A.pl)) ?_ ?_
    · rintro i y σ H' Tp hi ⟨v2, v3, v4, rfl, sm, ⟨td, htd, hpd⟩⟩ hTp
      obtain ⟨p, hp, rfl⟩ := refs_at hi
      obtain ⟨x, hx⟩ := get_of_lt (l := s.posts) (i := i) (by rw [← A.np]; exact lt_at hp)
      obtain ⟨dp, st, e, a, hd, PA⟩ := A.post i x p hx hp
      obtain ⟨dy, r, hs, _⟩ := id PA.st
      have smT : Same H' (upd H' Tp (.tup [.int (i : Int), .ref p])) := Same.upd_new hTp
      have sm2 := sm.trans smT
      refine ⟨_, rfl, p, c.P, dp, _, _, rfl, sm2 _ _ PA.obj, T.clP, T.nP_station, po_station, st, dy, _, rfl, sm2 _ _ hs, st_no_safe_records, st, l, _, _, _, rfl, PA.st.same sm2, fun H1 g sm3 hg hR => ⟨g, rfl, ?_⟩⟩
      obtain ⟨tg, htg, hpg⟩ := hR
      rw [← List.map_take] at hpg
      have smT3 := smT.trans sm3
      have hD1 := smT3 _ _ htd
      have ngD : g ≠ D := fun z => by rw [z, smT _ _ htd] at hg; cases hg
      have hnx := numbered_get hx
      have outer_len : (((Vbkoah.numbered s.posts).take i).flatMap fun t => Vbkoah.papersOf t.1 t.2).length ≤ 3 * 80 := by
        refine papers_take_len bd 3 hn _ (fun u hu => ?_) ?_
        · have := List.mem_of_mem_take hu
          unfold Vbkoah.numbered at this
          exact bd.post _ (List.of_mem_zip this).2
        · rw [List.length_take, numbered_len]
          omega
      refine ⟨⟨_, SqL.of htg⟩, for_list (K := K) (a := g) (xs := tg.map V.ref) (fun j σ H' => ∃ v4, σ = [some (.ref t), some (.ref D), some (.int (i : Int)), some (.ref p), v4] ∧ SameB D H1 H' ∧
        RowsAt H' D ((((Vbkoah.numbered s.posts).take i).flatMap fun t => Vbkoah.papersOf t.1 t.2).map pNums ++ (((x.recs.take x.safe).take j).filterMap (grantPaper i)).map pNums))
        ⟨_, rfl, fun b o e _ => e, ?_⟩ (fun j σ H' _ ⟨_, _, sb, _⟩ => SqL.of (sb _ _ htg ngD)) ?_ ?_⟩
      · rw [List.take_zero]
        show RowsAt H1 D (_ ++ [])
        rw [List.append_nil]
        exact ⟨td, hD1, TupsAt.mono (fun b xs e => smT3 _ _ e) hpd⟩
      · rintro j y σ H2 hj ⟨v4, rfl, sb, ⟨te, hte, hpe⟩⟩
        obtain ⟨t', hti, rfl⟩ := refs_at hj
        obtain ⟨row, hrow, htr⟩ := pairedAt hpg hti
        rw [List.getElem?_map] at hrow
        obtain ⟨rc, hrc, rfl⟩ := Option.map_eq_some_iff.mp hrow
        have htr' := sb _ _ htr (ne_of htr hD1 (by intro z; cases z))
        have stp : ((x.recs.take x.safe).take (j + 1)).filterMap (grantPaper i) = ((x.recs.take x.safe).take j).filterMap (grantPaper i) ++ (grantPaper i rc).toList := by
          rw [take_succ_at hrc, List.filterMap_append]
          cases hG : grantPaper i rc <;> simp [List.filterMap, hG]
        have tel : te.length ≤ 900 := by
          rw [hpe.length, List.length_append, List.length_map, List.length_map]
          have h1 := List.length_filterMap_le (grantPaper i) ((x.recs.take x.safe).take j)
          rw [List.length_take, List.length_take] at h1
          have := (bd.at hx).recs
          omega
        cases rc with
        | back m e' b' =>
          refine ⟨_, rfl, t', _, _, _, rfl, rfl, SqT.of htr', rix (j := 0) rfl rfl, rfl, _, rfl, iteF ⟨_, rfl, sb, ?_⟩⟩
          rw [stp, show (grantPaper i (.back m e' b')).toList = [] from rfl, List.append_nil]
          exact ⟨te, hte, hpe⟩
        | grant m k' f' t'' =>
          refine ⟨_, rfl, t', _, _, _, rfl, rfl, SqT.of htr', rix (j := 0) rfl rfl, rfl, _, rfl, iteT ?_⟩
          refine ⟨_, rfl, .inl ⟨rfl, _, SqL.of hte⟩, _, rfl, _, rfl, t', _, _, _, rfl, rfl, SqT.of htr', rix (j := 2) rfl rfl, _, rfl, t', _, _, _, rfl, rfl, SqT.of htr', rix (j := 3) rfl rfl, _, rfl, t', _, _, _, rfl, rfl, SqT.of htr', rix (j := 4) rfl rfl, (by show 4 ≤ sizeLine; decide), fun u hu => ?_⟩
          have smu := Same.upd_new (o := .tup [V.int (i : Int), .int (k' : Int), .int (f' : Int), .int (t'' : Int)]) hu
          refine ⟨D, _, _, rfl, rfl, smu _ _ hte, small1000 (by rw [List.length_map]; omega), ?_⟩
          refine ⟨_, rfl, (sb.step smu).app, ?_⟩
          rw [stp, show (grantPaper i (.grant m k' f' t'')).toList = [⟨i, k', f', t''⟩] from rfl, List.map_append, ← List.append_assoc]
          exact RowsAt.push (row := pNums ⟨i, k', f', t''⟩) (smu _ _ hte) (TupsAt.mono (fun b xs e => smu _ _ e) hpe) upd_same
      · rintro σ H2 ⟨v4, rfl, sb, hR⟩
        refine ⟨_, _, _, rfl, sb.out (sm2.trans sm3) hD, ?_⟩
        rw [List.length_map, hpg.length, List.length_map, List.take_length, ← papersOf_eq, ← List.map_append] at hR
        rw [take_succ_at hnx, List.flatMap_append, List.flatMap_cons, List.flatMap_nil, List.append_nil]
        exact hR
    · rintro σ H' ⟨v2, v3, v4, rfl, sm, hR⟩
      refine ⟨_, rfl, q H' D sm hD ?_⟩
      rw [List.length_map, A.np, List.take_of_length_le (by rw [numbered_len]; exact Nat.le_refl _)] at hR
      exact hR
end
end Pp

set_option Elab.async false
set_option linter.all false
set_option maxRecDepth 100000
set_option maxHeartbeats 2000000
namespace Pp
open PySem PySem.Spec PyProof.Rows L2
open Vbkoah (Lease HomeRec PostRec Up Down Want endedAt endOf hasBack willDo hasGiven says sendTo homeNums postNums upNums downNums)
/-! ### 12. a town is made -/
def Nw (l : Lab) (H : Hp) (l' : Lab) (H' : Hp) : Prop := ∀ b o, H b = some o → H' b = some o ∧ l' b = l b
theorem Nw.refl {l : Lab} {H : Hp} : Nw l H l H := fun _ _ h => ⟨h, rfl⟩
theorem Nw.trans {l l1 l2 : Lab} {H H1 H2 : Hp} (a : Nw l H l1 H1) (b : Nw l1 H1 l2 H2) : Nw l H l2 H2 := fun c o h => ⟨(b c o (a c o h).1).1, (b c o (a c o h).1).2.trans (a c o h).2⟩
theorem Nw.ch {L : Nat → Prop} {l l' : Lab} {H H' : Hp} (a : Nw l H l' H') : Ch L l H l' H' := ⟨fun b o h _ => (a b o h).1, fun b o h => (a b o h).2, fun b xs h => (a b _ h).1, fun b o h => ⟨o, (a b o h).1⟩⟩
/-- behind a new instance's __init__ -/
theorem NwB.nw {l l' : Lab} {H H' : Hp} {x dx C : Addr} (nx : H x = none) (nd : H dx = none) (n : NwB x l (upd (upd H dx (.own x)) x (.ins C dx [])) l' H') : Nw l H l' H' := fun b o h =>
  n b o (by rw [upd_ne (ne_of_none h nx), upd_ne (ne_of_none h nd)]; exact h) (ne_of_none h nx)
/-- an object that H does not know may change -/
theorem Nw.out {l l' : Lab} {H H' : Hp} {D : Addr} {o : HO} (a : Nw l H l' H') (h : H D = none) : Nw l H l' (upd H' D o) := fun b u e => ⟨by rw [upd_ne (ne_of_none e h)]; exact (a b u e).1, (a b u e).2⟩
theorem lc_make {n : Nat} {σ : L2.St} {H : Hp} {Q : VK} {l : Lab} (C : Addr) (sp : Sp) (At : Nat → Hp → Lab → Addr → Prop)
    (keep : ∀ i H l H' l' p, At i H l p → Ch (· = 3) l H l' H' → At i H' l' p)
    (make : ∀ i x dx H l Q, H x = some (.ins C dx []) → (∀ H' l', At i H' l' x → NwB x l H l' H' → Q .non H') → sp [.ref x] H Q E0)
    (hσ : σ[1]? = some (some (.int (n : Int)))) (hn : n ≤ 1000) (hw : ∀ x, wipe ((wipe σ [3]).set 3 (some x)) [3] = wipe σ [3])
    (hq : ∀ (H' : Hp) (l' : Lab) (D : Addr) (ps : List Addr), Nw l H l' H' → l' D = 3 → H D = none → H' D = some (.lst (ps.map V.ref)) → ps.length = n → (∀ i p, ps[i]? = some p → At i H' l' p) → Q (.ref D) H') :
    tLc (iRng1 (tCons (tVar 1) tNil)) (gName 3) tYes (tMake C sp [] E0 tNil) [3] σ H Q := by
  refine ⟨_, hσ, n, rfl, by omega, by omega, fun D hD => ?_⟩
  rw [show ((n : Int)).toNat = n from rfl]
  refine lc_range (lo := 0) (n := n) (fun i H' => ∃ (l' : Lab) (ps : List Addr), Nw l H l' H' ∧ l' D = 3 ∧ H' D = some (.lst (ps.map V.ref)) ∧ ps.length = i ∧ ∀ j p, ps[j]? = some p → At j H' l' p)
    ⟨setL l D 3, [], fun b o h => ⟨Same.upd_new hD b o h, setL_ne (ne_of_none h hD)⟩, setL_same, by rw [upd_same] <;> rfl, rfl, fun j p h => by simp at h⟩ ?_ ?_
  · rintro i H1 hi ⟨l1, ps, nw, lD, hl, hlen, hAt⟩
    refine ⟨hw _, ?_⟩
    dsimp only [tYes]
    rw [if_pos rfl]
    intro x dx nx ndx nex
    refine make i x dx _ l1 _ upd_same fun H2 l2 A2 N2 => ⟨rfl, ps.map V.ref, ?_⟩
    have nw2 := N2.nw nx ndx
    have hD2 := nw2 D _ hl
    have hnx : x ≠ D := fun z => by rw [z, hl] at nx; cases nx
    have ch3 : Ch (· = 3) l2 H2 l2 (upd H2 D (.lst (ps.map V.ref ++ [V.ref x]))) := Ch.upd hD2.1 (by intro xs z; cases z) (hD2.2.trans lD)
    refine ⟨hD2.1, small1000 (by rw [List.length_map]; omega), l2, ps ++ [x], (nw.trans nw2).out hD, hD2.2.trans lD, by rw [upd_same, List.map_append] <;> rfl, by rw [List.length_append, List.length_singleton, hlen], fun j p hj => ?_⟩
    by_cases hji : j < ps.length
    · rw [List.getElem?_append_left hji] at hj
      exact keep _ _ _ _ _ _ (hAt j p hj) (nw2.ch.trans ch3)
    · rw [List.getElem?_append_right (by omega)] at hj
      have hj0 : j - ps.length = 0 := by
        have := lt_at hj
        simp at this
        omega
      rw [hj0] at hj
      cases hj
      have : j = i := by omega
      subst this
      exact keep _ _ _ _ _ _ A2 ch3
  · rintro H' ⟨l', ps, nw, lD, hl, hlen, hAt⟩
    exact hq H' l' D ps nw lD hD hl hlen hAt
def spToInit (c : Ad) : Sp := fun vs H Q _ => ∃ (t dx : Addr) (l : Lab) (n w : Nat), vs = [.ref t, .int n, .int w] ∧ H t = some (.ins c.T dx []) ∧ n ≤ 100 ∧ ∀ H' l' Y, TownAt c H' l' t Y (Vbkoah.newHouse n w) → NwB t l H l' H' → Q .non H'
def DAt (c : Ad) (H : Hp) (l : Lab) (d dx t : Addr) (Y : Lay) (s : SState) : Prop := H d = some (.ins c.D dx (deF t)) ∧ l d = 1 ∧ TownAt c H l t Y s
def DeskAt (c : Ad) (H : Hp) (l : Lab) (d : Addr) (s : SState) : Prop := ∃ dx t Y, DAt c H l d dx t Y s
def spDeInit (c : Ad) : Sp := fun vs H Q _ => ∃ (d dx : Addr) (l : Lab), vs = [.ref d] ∧ H d = some (.ins c.D dx []) ∧ ∀ H' l', DeskAt c H' l' d Vbkoah.start → NwB d l H l' H' → Q .non H'
theorem Nw.upd {l l' : Lab} {H H' : Hp} {t : Addr} {o : HO} (a : ∀ b u, H b = some u → b ≠ t → H' b = some u ∧ l' b = l b) : ∀ b u, H b = some u → b ≠ t → L2.upd H' t o b = some u ∧ l' b = l b := fun b u e n => ⟨by rw [upd_ne n]; exact (a b u e n).1, (a b u e n).2⟩
section
variable {P : Program} {w : World} {K : PySem.W.Frag} {mg : Str → Option Value} {base : Heap} {c : Ad} {fI : Addr}
theorem ok_Town_init (T : Txt K mg c fI) {fC_Wire : Addr} {fdC_Wire : FuncData} (C_Wire : CG P w K mg base c.W "Wire" 1 ["self"] (spWiInit c) fC_Wire fdC_Wire) {fC_Post : Addr} {fdC_Post : FuncData} (C_Post : CG P w K mg base c.P "Post" 3 ["self"] (spPoInit c) fC_Post fdC_Post) {fC_Home : Addr} {fdC_Home : FuncData} (C_Home : CG P w K mg base c.H "Home" 3 ["self"] (spHoInit c) fC_Home fdC_Home) {f : Addr} {fd : FuncData} (F : Fun K "__init__" "Town.__init__" s_Town_init f fd) : FnOk P w K mg base CX0 5 f fd ["self", "many", "length"] (spToInit c) := by
  refine F.ok sc_Town_init (fun vs H Q E h => ?_) (fun cdv A outer s H vs Q E hr h => ?_)
  · obtain ⟨t, dx, l, n, w, rfl, _⟩ := h
    rfl
  · obtain ⟨t, dx, l, n, w, rfl, ht, hn, q⟩ := h
    refine ⟨_, (pss_cons (ps_fld (pv 0) (pe_make0 C_Home.mk_ C_Home.ok (hr.mono (by decide)) rfl C_Home.g C_Home.b .nil pass0) rfl)
        (pss_cons (ps_fld (pv 0) (pe_lc (own := [("number", 3)]) (g := gName 3) (tt := tYes) rfl sc_Town_init.nd (pi_range1 rfl T.z_range (pa_cons (pv 1) pa_nil)) (blkOk_by (own := [("number", 3)]) (N := N_Town_init) (sc := defScope s_Town_init) (by decide +kernel)) (fun _ _ _ _ _ => pg_name (i := 3) sc_Town_init.nd rfl (Or.inl rfl)) (fun _ _ _ _ _ => pts_nil) (fun _ _ _ _ _ => (pe_make0 C_Post.mk_ C_Post.ok (hr.mono (by decide)) rfl C_Post.g C_Post.b .nil pass0))) rfl)
        (pss_cons (ps_fld (pv 0) (pe_lc (own := [("number", 3)]) (g := gName 3) (tt := tYes) rfl sc_Town_init.nd (pi_range1 rfl T.z_range (pa_cons (pv 1) pa_nil)) (blkOk_by (own := [("number", 3)]) (N := N_Town_init) (sc := defScope s_Town_init) (by decide +kernel)) (fun _ _ _ _ _ => pg_name (i := 3) sc_Town_init.nd rfl (Or.inl rfl)) (fun _ _ _ _ _ => pts_nil) (fun _ _ _ _ _ => (pe_make0 C_Wire.mk_ C_Wire.ok (hr.mono (by decide)) rfl C_Wire.g C_Wire.b .nil pass0))) rfl)
        (pss_cons (ps_fld (pv 0) (pe_lc (own := [("number", 3)]) (g := gName 3) (tt := tYes) rfl sc_Town_init.nd (pi_range1 rfl T.z_range (pa_cons (pv 1) pa_nil)) (blkOk_by (own := [("number", 3)]) (N := N_Town_init) (sc := defScope s_Town_init) (by decide +kernel)) (fun _ _ _ _ _ => pg_name (i := 3) sc_Town_init.nd rfl (Or.inl rfl)) (fun _ _ _ _ _ => pts_nil) (fun _ _ _ _ _ => (pe_make0 C_Wire.mk_ C_Wire.ok (hr.mono (by decide)) rfl C_Wire.g C_Wire.b .nil pass0))) rfl)
        (pss_cons (ps_fld (pv 0) (pv 2) rfl)
        (pss_one (ps_fld (pv 0) pe_int rfl))))))), ?_⟩
    intro x dy nx ndx nex
    refine ⟨x, dy, setL l t 2, 4, rfl, upd_same, fun H1 l1 HA N1 => ⟨rfl, ?_⟩⟩
    have nw1 := N1.nw nx ndx
    have t1 := nw1 t _ ht
    have lt1 : l1 t = 2 := t1.2.trans setL_same
    -- self.home
    refine ⟨_, rfl, t, c.T, dx, [], rfl, t1.1, T.clT, T.nT_home, (by show 0 < 1000; decide), ?_⟩
    rw [to_mk_home]
    have ch2 : Ch (· = 2) l1 H1 l1 (upd H1 t (.ins c.T dx [(("home" : Str), V.ref x)])) := Ch.upd t1.1 (by intro xs z; cases z) lt1
    have HA2 := HA.keep ch2 (by omega) (by omega)
    have ob2 : upd H1 t (.ins c.T dx [(("home" : Str), V.ref x)]) t = some (.ins c.T dx [(("home" : Str), V.ref x)]) := upd_same
    have old2 : ∀ b u, H b = some u → b ≠ t → upd H1 t (.ins c.T dx [(("home" : Str), V.ref x)]) b = some u ∧ l1 b = l b := fun b u e nb => ⟨by rw [upd_ne nb]; exact (nw1 b u e).1, (nw1 b u e).2.trans (setL_ne nb)⟩
    generalize upd H1 t (.ins c.T dx [(("home" : Str), V.ref x)]) = H2 at *
    -- self.posts
    dsimp only [tSeq, sFld]
    refine lc_make (n := n) (l := l1) c.P (spPoInit c) (fun i H l p => PostAt c H l (20 + 10 * i) p Vbkoah.newPost) (fun i H l H' l' p a ch => a.keep ch fun m hm z => by have := hm.1; omega) (fun i x dx H l Q hx k => ⟨x, dx, l, 20 + 10 * i, rfl, hx, k⟩) rfl (by omega) (by intro _; rfl) fun H3 l3 lp ps nw3 ll3 hn3 hl3 len3 at3 => ?_
    have t3 := nw3 t _ ob2
    refine ⟨_, rfl, t, c.T, dx, _, rfl, t3.1, T.clT, T.nT_posts, (by show 1 < 1000; decide), ?_⟩
    rw [to_mk_posts]
    have lt3 := t3.2.trans lt1
    have ch4 : Ch (· = 2) l3 H3 l3 (upd H3 t (.ins c.T dx [(("home" : Str), V.ref x), (("posts" : Str), V.ref lp)])) := Ch.upd t3.1 (by intro xs z; cases z) lt3
    have HA4 := (HA2.keep (nw3.ch (L := fun _ => False)) id id).keep ch4 (by omega) (by omega)
    have at4 := fun i p h => (at3 i p h).keep ch4 fun m hm z => by have := hm.1; omega
    have pl4 := ch4.keep _ _ hl3 (by rw [ll3]; omega)
    have ob4 : upd H3 t (.ins c.T dx [(("home" : Str), V.ref x), (("posts" : Str), V.ref lp)]) t = some (.ins c.T dx [(("home" : Str), V.ref x), (("posts" : Str), V.ref lp)]) := upd_same
    have old4 : ∀ b u, H b = some u → b ≠ t → upd H3 t (.ins c.T dx [(("home" : Str), V.ref x), (("posts" : Str), V.ref lp)]) b = some u ∧ l3 b = l b := fun b u e nb => ⟨by rw [upd_ne nb]; exact (nw3 b u (old2 b u e nb).1).1, (nw3 b u (old2 b u e nb).1).2.trans (old2 b u e nb).2⟩
    generalize upd H3 t (.ins c.T dx [(("home" : Str), V.ref x), (("posts" : Str), V.ref lp)]) = H4 at *
    -- self.to_home
    refine lc_make (n := n) (l := l3) c.W (spWiInit c) (fun i H l p => WireAt c H l (25 + 10 * i) p []) (fun i H l H' l' p a ch => a.keep ch (by omega)) (fun i x dx H l Q hx k => ⟨x, dx, l, 25 + 10 * i, rfl, hx, k⟩) rfl (by omega) (by intro _; rfl) fun H5 l5 lu us nw5 ll5 hn5 hl5 len5 at5 => ?_
    have t5 := nw5 t _ ob4
    refine ⟨_, rfl, t, c.T, dx, _, rfl, t5.1, T.clT, T.nT_to_home, (by show 2 < 1000; decide), ?_⟩
    rw [to_mk_to_home]
    have lt5 := t5.2.trans lt3
    have ch6 : Ch (· = 2) l5 H5 l5 (upd H5 t (.ins c.T dx [(("home" : Str), V.ref x), (("posts" : Str), V.ref lp), (("to_home" : Str), V.ref lu)])) := Ch.upd t5.1 (by intro xs z; cases z) lt5
    have HA6 := (HA4.keep (nw5.ch (L := fun _ => False)) id id).keep ch6 (by omega) (by omega)
    have at6 := fun i p h => ((at4 i p h).keep (nw5.ch (L := fun _ => False)) fun _ _ => id).keep ch6 fun m hm z => by have := hm.1; omega
    have p5 := nw5 _ _ pl4
    have lp5 : l5 lp = 3 := p5.2.trans ll3
    have pl6 := ch6.keep _ _ p5.1 (by rw [lp5]; omega)
    have atU6 := fun i p h => (at5 i p h).keep ch6 (by omega)
    have ul6 := ch6.keep _ _ hl5 (by rw [ll5]; omega)
    have ob6 : upd H5 t (.ins c.T dx [(("home" : Str), V.ref x), (("posts" : Str), V.ref lp), (("to_home" : Str), V.ref lu)]) t = some (.ins c.T dx [(("home" : Str), V.ref x), (("posts" : Str), V.ref lp), (("to_home" : Str), V.ref lu)]) := upd_same
    have old6 : ∀ b u, H b = some u → b ≠ t → upd H5 t (.ins c.T dx [(("home" : Str), V.ref x), (("posts" : Str), V.ref lp), (("to_home" : Str), V.ref lu)]) b = some u ∧ l5 b = l b := fun b u e nb => ⟨by rw [upd_ne nb]; exact (nw5 b u (old4 b u e nb).1).1, (nw5 b u (old4 b u e nb).1).2.trans (old4 b u e nb).2⟩
    generalize upd H5 t (.ins c.T dx [(("home" : Str), V.ref x), (("posts" : Str), V.ref lp), (("to_home" : Str), V.ref lu)]) = H6 at *
    -- self.to_post
    refine lc_make (n := n) (l := l5) c.W (spWiInit c) (fun i H l p => WireAt c H l (26 + 10 * i) p []) (fun i H l H' l' p a ch => a.keep ch (by omega)) (fun i x dx H l Q hx k => ⟨x, dx, l, 26 + 10 * i, rfl, hx, k⟩) rfl (by omega) (by intro _; rfl) fun H7 l7 ld ds nw7 ll7 hn7 hl7 len7 at7 => ?_
    have t7 := nw7 t _ ob6
    refine ⟨_, rfl, t, c.T, dx, _, rfl, t7.1, T.clT, T.nT_to_post, (by show 3 < 1000; decide), ?_⟩
    rw [to_mk_to_post]
    have lt7 := t7.2.trans lt5
    refine ⟨_, rfl, _, rfl, t, c.T, dx, _, rfl, upd_same, T.clT, T.nT_length, (by show 4 < 1000; decide), ?_⟩
    rw [to_mk_length]
    refine ⟨_, rfl, t, c.T, dx, _, rfl, upd_same, T.clT, T.nT_today, (by show 5 < 1000; decide), ?_⟩
    rw [to_mk_today, upd_upd, upd_upd]
    have ch8 : Ch (· = 2) l7 H7 l7 (upd H7 t (.ins c.T dx (toF x lp lu ld (w : Int) ((0 : Nat) : Int)))) := Ch.upd t7.1 (by intro xs z; cases z) lt7
    have HA8 := (HA6.keep (nw7.ch (L := fun _ => False)) id id).keep ch8 (by omega) (by omega)
    have at8 := fun i p h => ((at6 i p h).keep (nw7.ch (L := fun _ => False)) fun _ _ => id).keep ch8 fun m hm z => by have := hm.1; omega
    have atU8 := fun i p h => ((atU6 i p h).keep (nw7.ch (L := fun _ => False)) id).keep ch8 (by omega)
    have atD8 := fun i p h => (at7 i p h).keep ch8 (by omega)
    have p7 := nw7 _ _ pl6
    have lp7 : l7 lp = 3 := p7.2.trans lp5
    have u7 := nw7 _ _ ul6
    have lu7 : l7 lu = 3 := u7.2.trans ll5
    have rep : ∀ i y, (Vbkoah.newHouse n w).posts[i]? = some y → y = Vbkoah.newPost := fun i y hy => List.eq_of_mem_replicate (List.mem_of_getElem? hy)
    have rl : (Vbkoah.newHouse n w).posts.length = n := List.length_replicate
    refine q _ l7 ⟨x, lp, lu, ld, ps, us, ds⟩ ⟨dx, ?_⟩ fun b u e nb => ⟨by rw [upd_ne nb]; exact (nw7 b u (old6 b u e nb).1).1, (nw7 b u (old6 b u e nb).1).2.trans (old6 b u e nb).2⟩
    constructor
    · exact upd_same
    · exact lt7
    · exact ch8.keep _ _ p7.1 (by rw [lp7]; omega)
    · exact ch8.keep _ _ u7.1 (by rw [lu7]; omega)
    · exact ch8.keep _ _ hl7 (by rw [ll7]; omega)
    · exact lp7
    · exact lu7
    · exact ll7
    · exact len3.trans rl.symm
    · exact len5.trans rl.symm
    · exact len7.trans rl.symm
    · exact HA8
    · intro i y p h1 h2
      rw [rep i y h1]
      exact at8 i p h2
    · intro i y p h1 h2
      rw [rep i y h1]
      exact atU8 i p h2
    · intro i y p h1 h2
      rw [rep i y h1]
      exact atD8 i p h2
theorem ok_Desk_init (T : Txt K mg c fI) {fC_Town : Addr} {fdC_Town : FuncData} (C_Town : CG P w K mg base c.T "Town" 5 ["self", "many", "length"] (spToInit c) fC_Town fdC_Town) {f : Addr} {fd : FuncData} (F : Fun K "__init__" "Desk.__init__" s_Desk_init f fd) : FnOk P w K mg base CX0 7 f fd ["self"] (spDeInit c) := by
  refine F.ok sc_Desk_init (fun vs H Q E h => ?_) (fun cdv A outer s H vs Q E hr h => ?_)
  · obtain ⟨d, dx, l, rfl, _⟩ := h
    rfl
  · obtain ⟨d, dx, l, rfl, hd, q⟩ := h
    refine ⟨_, (pss_one (ps_fld (pv 0) (pe_make C_Town.mk_ C_Town.ok (hr.mono (by decide)) rfl C_Town.g C_Town.b .nil pass0 (pa_cons pe_int (pa_cons pe_int pa_nil))) rfl)), ?_⟩
    intro x dy nx ndx nex
    refine ⟨x, dy, setL l d 1, 1, 3, rfl, upd_same, by decide, fun H1 l1 Y ⟨dt, TA1⟩ N1 => ⟨rfl, ?_⟩⟩
    have nw1 := N1.nw nx ndx
    have d1 := nw1 d _ hd
    have ld1 : l1 d = 1 := d1.2.trans setL_same
    refine ⟨_, rfl, d, c.D, dx, [], rfl, d1.1, T.clD, T.nD_town, (by show 0 < 1000; decide), ?_⟩
    rw [de_mk_town]
    have ch2 : Ch (· = 1) l1 H1 l1 (upd H1 d (.ins c.D dx (deF x))) := Ch.upd d1.1 (by intro xs z; cases z) ld1
    refine q _ l1 ⟨dx, x, Y, upd_same, ld1, dt, TA1.keep ch2 fun m hm z => ?_⟩ fun b u e nb => ⟨by rw [upd_ne nb]; exact (nw1 b u e).1, (nw1 b u e).2.trans (setL_ne nb)⟩
    subst z
    rcases hm with (h | h | h) | h | h <;> omega
end
end Pp

set_option linter.all false
namespace Pp
open Vbkoah (Lease HomeRec PostRec Up Down Want numbered endedAt endOf hasBack willDo hasGiven says sendTo homeNums postNums upNums downNums whole inside onPost onRow no)
/-! ### the mirror of a call -/
def deliverP (s : SState) (d : Int) (p : Nat) (x : SPost) (i : Nat) : SState × List Int := if d = 0 then (match x.up[i]? with
    | none => no s (-6)
    | some f => (comeUp (setP s p { x with up := x.up.eraseIdx i }) p f, [1])) else match x.down[i]? with
    | none => no s (-6)
    | some f => (comeDown (setP s p { x with down := x.down.eraseIdx i }) p f, [1])
def stepP (s : SState) : Vbkoah.Call → SState × List Int
  | .tick p => onPost s p fun p x => (setP s p (tickP s.day x), [whole (tickP s.day x).wants.length, whole (tickP s.day x).recs.length, whole (says s.day (tickP s.day x)).length])
  | .deliver d p i => onRow s d p i (deliverP s d)
  | .calm k => if inside k 1 99 = false then no s (-1) else if Vbkoah.LAST < s.day + k.toNat then no s (-7) else (calmP k.toNat s, [whole (calmP k.toNat s).day])
  | c => Vbkoah.step s c
theorem inside_iff {n lo hi : Int} : inside n lo hi = true ↔ lo ≤ n ∧ n ≤ hi := by
  unfold inside
  rw [Bool.and_eq_true, decide_eq_true_iff, decide_eq_true_iff]
theorem inside_not {n lo hi : Int} : inside n lo hi = false ↔ ¬ (lo ≤ n ∧ n ≤ hi) := by
  rw [← inside_iff]
  simp
theorem onPost_1 {s : SState} {p : Int} {f : Nat → SPost → SState × List Int} (h : ¬ (0 ≤ p ∧ p ≤ 2)) : onPost s p f = (s, [-1]) := by
  unfold onPost
  rw [inside_not.mpr h] <;> rfl
theorem onPost_4 {s : SState} {p : Int} {f : Nat → SPost → SState × List Int} (h : 0 ≤ p ∧ p ≤ 2) (hx : s.posts[p.toNat]? = none) : onPost s p f = (s, [-4]) := by
  unfold onPost
  rw [inside_iff.mpr h, hx] <;> rfl
theorem onPost_ok {s : SState} {p : Int} {f : Nat → SPost → SState × List Int} {x : SPost} (h : 0 ≤ p ∧ p ≤ 2) (hx : s.posts[p.toNat]? = some x) : onPost s p f = f p.toNat x := by
  unfold onPost
  rw [inside_iff.mpr h, hx] <;> rfl
def Rows (d p i : Int) : Prop := (0 ≤ d ∧ d ≤ 1) ∧ (0 ≤ p ∧ p ≤ 2) ∧ (0 ≤ i ∧ i ≤ 7)
theorem rows_iff {d p i : Int} : (inside d 0 1 && (inside p 0 2 && inside i 0 7)) = true ↔ Rows d p i := by
  rw [Bool.and_eq_true, Bool.and_eq_true, inside_iff, inside_iff, inside_iff]
  rfl
def rowLen (d : Int) (x : SPost) : Nat := if d = 0 then x.up.length else x.down.length
theorem onRow_1 {s : SState} {d p i : Int} {f : Nat → SPost → Nat → SState × List Int} (h : ¬ Rows d p i) : onRow s d p i f = (s, [-1]) := by
  unfold onRow
  have e : (inside d 0 1 && (inside p 0 2 && inside i 0 7)) = false := by
    cases z : (inside d 0 1 && (inside p 0 2 && inside i 0 7)) with
    | false => rfl
    | true => exact absurd (rows_iff.mp z) h
  rw [if_pos e] <;> rfl
theorem onRow_4 {s : SState} {d p i : Int} {f : Nat → SPost → Nat → SState × List Int} (h : Rows d p i) (hx : s.posts[p.toNat]? = none) : onRow s d p i f = (s, [-4]) := by
  unfold onRow
  rw [if_neg (by rw [rows_iff.mpr h]; exact Bool.noConfusion), onPost_4 h.2.1 hx]
theorem onRow_6 {s : SState} {d p i : Int} {f : Nat → SPost → Nat → SState × List Int} {x : SPost} (h : Rows d p i) (hx : s.posts[p.toNat]? = some x) (hl : rowLen d x ≤ i.toNat) : onRow s d p i f = (s, [-6]) := by
  unfold onRow
  rw [if_neg (by rw [rows_iff.mpr h]; exact Bool.noConfusion), onPost_ok h.2.1 hx]
  exact if_pos hl
theorem onRow_ok {s : SState} {d p i : Int} {f : Nat → SPost → Nat → SState × List Int} {x : SPost} (h : Rows d p i) (hx : s.posts[p.toNat]? = some x) (hl : i.toNat < rowLen d x) : onRow s d p i f = f p.toNat x i.toNat := by
  unfold onRow
  rw [if_neg (by rw [rows_iff.mpr h]; exact Bool.noConfusion), onPost_ok h.2.1 hx]
  exact if_neg (Nat.not_le_of_lt hl)
/-- small through calm days -/
structure Ok (s : SState) : Prop where
  bd : ∀ k, SBd (calmP k s)
  few : s.posts.length ≤ 3
theorem Ok.sbd {s : SState} (h : Ok s) : SBd s := h.bd 0
end Pp

set_option Elab.async false
set_option linter.all false
set_option maxRecDepth 100000
set_option maxHeartbeats 2000000
namespace Pp
open PySem PySem.Spec PyProof.Rows L2
open Vbkoah (Lease HomeRec PostRec Up Down Want endedAt endOf hasBack willDo hasGiven says sendTo homeNums postNums upNums downNums)
/-! ### 13. the deeds -/
def DA (n : Nat) : Prop := n ≠ 0
theorem Ch.da {l l' : Lab} {H H' : Hp} (ch : Ch TA l H l' H') : Ch DA l H l' H' := ch.mono fun m z => by
  intro e
  subst e
  rcases z with z | z | z <;> omega
theorem TownAt.same {c : Ad} {H H' : Hp} {l : Lab} {t : Addr} {Y : Lay} {s : SState} (A : TownAt c H l t Y s) (sm : Same H H') : TownAt c H' l t Y s := by
  obtain ⟨dx, A⟩ := A
  exact ⟨dx, A.same sm⟩
theorem DAt.same {c : Ad} {H H' : Hp} {l : Lab} {d dx t : Addr} {Y : Lay} {s : SState} (A : DAt c H l d dx t Y s) (sm : Same H H') : DAt c H' l d dx t Y s := ⟨sm _ _ A.1, A.2.1, A.2.2.same sm⟩
/-- the town is changed -/
theorem DAt.put {c : Ad} {L : Nat → Prop} {H H' : Hp} {l l' : Lab} {d dx t : Addr} {Y : Lay} {s s' : SState} (A : DAt c H l d dx t Y s) (ch : Ch L l H l' H') (n : ¬ L 1) (B : TownAt c H' l' t Y s') : DAt c H' l' d dx t Y s' :=
  ⟨ch.keep _ _ A.1 (by rw [A.2.1]; exact n), (ch.lab _ _ A.1).trans A.2.1, B⟩
theorem nTA1 : ¬ TA 1 := fun z => by rcases z with z | z | z <;> omega
theorem nTL1 {i : Nat} : ¬ TL i 1 := fun z => by have := z.1; omega
def spDeed (c : Ad) (n : Nat) (call : List Int → Vbkoah.Call) : Sp := fun vs H Q E => ∃ (d a : Addr) (l : Lab) (s : SState) (ns : List Int), vs = [.ref d, .ref a] ∧ DeskAt c H l d s ∧ H a = some (.lst (ns.map V.int)) ∧ l a = 0 ∧ ns.length = n ∧ Ok s ∧
  (∀ H' l' p, DeskAt c H' l' d (stepP s (call ns)).1 → Ch DA l H l' H' → H p = none → H' p = some (.lst ((stepP s (call ns)).2.map V.int)) → Q (.ref p) H') ∧
  (∀ e, stepP s (call ns) = (s, [e]) → Rf c E H e)
def spDemandPost (c : Ad) : Sp := fun vs H Q E => ∃ (d : Addr) (l : Lab) (s : SState) (p : Int), vs = [.ref d, .int p] ∧ DeskAt c H l d s ∧ (p < s.posts.length → Q .non H) ∧ (¬ p < s.posts.length → Rf c E H (-4))
def spStationOf (c : Ad) : Sp := fun vs H Q E => ∃ (d dx t : Addr) (l : Lab) (Y : Lay) (s : SState) (k : Int), vs = [.ref d, .int k] ∧ DAt c H l d dx t Y s ∧ 0 ≤ k ∧
  (k = 3 → ∀ dh hs, H Y.h = some (.ins c.H dh (hoF hs)) → Q (.ref hs) H) ∧
  (k ≠ 3 → k < s.posts.length → ∀ p dp st e a h, Y.ps[k.toNat]? = some p → H p = some (.ins c.P dp (poF st e a h)) → Q (.ref st) H) ∧
  (k ≠ 3 → ¬ k < s.posts.length → Rf c E H (-4))
def spFrameWire (c : Ad) : Sp := fun vs H Q E => ∃ (d dx t a : Addr) (l : Lab) (Y : Lay) (s : SState) (w p i : Int), vs = [.ref d, .ref a] ∧ DAt c H l d dx t Y s ∧ H a = some (.lst [.int w, .int p, .int i]) ∧
  (¬ Rows w p i → Rf c E H (-1)) ∧ (Rows w p i → s.posts[p.toNat]? = none → Rf c E H (-4)) ∧ (Rows w p i → ∀ x, s.posts[p.toNat]? = some x → rowLen w x ≤ i.toNat → Rf c E H (-6)) ∧
  (Rows w p i → ∀ x, s.posts[p.toNat]? = some x → i.toNat < rowLen w x → (w = 0 → ∀ u, Y.us[p.toNat]? = some u → Q (.ref u) H) ∧ (w ≠ 0 → ∀ u, Y.ds[p.toNat]? = some u → Q (.ref u) H))
theorem num_at {ns : List Int} {i : Nat} {v : Int} (h : ns[i]? = some v) : atI (ns.map V.int) (i : Int) = some (.int v) := rix (j := i) rfl h
theorem none_of_ge {s : SState} {p : Int} (h : ¬ p < s.posts.length) : s.posts[p.toNat]? = none := List.getElem?_eq_none (by omega)
theorem some_of_lt {s : SState} {p : Int} (h0 : 0 ≤ p) (h : p < s.posts.length) : ∃ x, s.posts[p.toNat]? = some x := get_of_lt (by omega)
section
variable {P : Program} {w : World} {K : PySem.W.Frag} {mg : Str → Option Value} {base : Heap} {c : Ad} {fI : Addr}
theorem ok_demand_post (T : Txt K mg c fI) {fG_demand : Addr} {fdG_demand : FuncData} (G_demand : FG P w K mg base (L2.CX P w) 3 "demand" ["is_good", "number"] (spDemand c) fG_demand fdG_demand) {f : Addr} {fd : FuncData} (F : Fun K "demand_post" "demand_post" s_demand_post f fd) : FnOk P w K mg base (L2.CX P w) 4 f fd ["desk", "post"] (spDemandPost c) := by
  refine F.okX sc_demand_post (fun vs H Q E h => ?_) (fun cdv A outer s H vs Q E hr h => ?_)
  · obtain ⟨d, l, s, p, rfl, _⟩ := h
    rfl
  · obtain ⟨d, l, s, p, rfl, ⟨dx, t, Y, hd, _, dt, TT⟩, q1, q2⟩ := h
    refine ⟨_, (pss_one (ps_expr (pe_call G_demand.ok (hr.mono (by decide)) rfl G_demand.g G_demand.kp G_demand.b .nil xpass (pa_cons (pe_cmpR op_lt (pv 1) (pe_callB (call_len_seq) (by rfl) T.z_len PySem.boot_len (pa_cons (pe_fld (pe_fld (pv 0) rfl) rfl) pa_nil)) (nomark _)) (pa_cons (pe_un un_neg pe_int) pa_nil))))), ?_⟩
    refine ⟨_, rfl, _, rfl, d, c.D, dx, _, _, rfl, hd, T.clD, T.nD_town, de_town, t, c.T, dt, _, _, rfl, TT.obj, T.clT, T.nT_posts, to_posts, Y.lp, _, rfl, .inl (SqL.of TT.pl), _, _, rfl, rfl, 4, rfl, _, _, rfl, fun z => ?_, fun z => ?_⟩
    · rw [List.length_map, TT.np] at z
      exact q1 (of_decide_eq_true z)
    · rw [List.length_map, TT.np] at z
      exact q2 (of_decide_eq_false z)
theorem ok_station_of (T : Txt K mg c fI) {fG_demand_post : Addr} {fdG_demand_post : FuncData} (G_demand_post : FG P w K mg base (L2.CX P w) 4 "demand_post" ["desk", "post"] (spDemandPost c) fG_demand_post fdG_demand_post) {f : Addr} {fd : FuncData} (F : Fun K "station_of" "station_of" s_station_of f fd) : FnOk P w K mg base (L2.CX P w) 5 f fd ["desk", "number"] (spStationOf c) := by
  refine F.okX sc_station_of (fun vs H Q E h => ?_) (fun cdv A outer s H vs Q E hr h => ?_)
  · obtain ⟨d, dx, t, l, Y, s, k, rfl, _⟩ := h
    rfl
  · obtain ⟨d, dx, t, l, Y, s, k, rfl, ⟨hd, ld, dt, TT⟩, h0, q1, q2, q3⟩ := h
    refine ⟨_, (pss_cons (ps_if (pt_cmpR op_eq (pv 1) (pe_gint rfl T.i_HOME) (nomark _))
        (pss_one (ps_ret (pe_fld (pe_fld (pe_fld (pv 0) rfl) rfl) rfl)))
        pss_nil)
        (pss_cons (ps_expr (pe_call G_demand_post.ok (hr.mono (by decide)) rfl G_demand_post.g G_demand_post.kp G_demand_post.b .nil xpass (pa_cons (pv 0) (pa_cons (pv 1) pa_nil))))
        (pss_one (ps_ret (pe_fld (pe_ix ix_list (pe_fld (pe_fld (pv 0) rfl) rfl) (pv 1) (fun _ _ => rfl)) rfl))))), ?_⟩
    refine ⟨_, rfl, rfl, _, rfl, ?_⟩
    refine ite2 (fun z => ?_) (fun z => ?_)
    · have z : V.int k = V.int 3 := of_decide_eq_true z
      injection z with z
      obtain ⟨dh, hs, hh, _⟩ := TT.home
      exact ⟨_, rfl, d, c.D, dx, _, _, rfl, hd, T.clD, T.nD_town, de_town, t, c.T, dt, _, _, rfl, TT.obj, T.clT, T.nT_home, to_home, Y.h, c.H, dh, _, _, rfl, hh, T.clH, T.nH_station, ho_station, q1 z dh hs hh⟩
    · have z : k ≠ 3 := fun e => z (decide_eq_true (by rw [e]))
      refine ⟨_, rfl, _, rfl, d, l, s, k, rfl, ⟨dx, t, Y, hd, ld, dt, TT⟩, fun hk => ?_, q3 z⟩
      obtain ⟨x, hx⟩ := some_of_lt h0 hk
      obtain ⟨p, u, dd, hp, hu, hdd⟩ := TT.places hx
      obtain ⟨dp, st, e, a, h, PA⟩ := TT.post _ x p hx hp
      refine ⟨_, rfl, d, c.D, dx, _, _, rfl, hd, T.clD, T.nD_town, de_town, t, c.T, dt, _, _, rfl, TT.obj, T.clT, T.nT_posts, to_posts, _, rfl, Y.lp, _, _, _, rfl, rfl, SqL.of TT.pl, ?_, p, c.P, dp, _, _, rfl, PA.obj, T.clP, T.nP_station, po_station, q2 z hk p dp st e a h hp PA.obj⟩
      exact at_of (j := k.toNat) (by omega) (ref_at hp)
theorem ok_frame_wire (T : Txt K mg c fI) {fG_demand : Addr} {fdG_demand : FuncData} (G_demand : FG P w K mg base (L2.CX P w) 3 "demand" ["is_good", "number"] (spDemand c) fG_demand fdG_demand) {fM_Wire_has : Addr} {fdM_Wire_has : FuncData} (M_Wire_has : MG P w K mg base c.W 1 "has" ["self", "place"] (spHas c) fM_Wire_has fdM_Wire_has) {fM_Town_wire : Addr} {fdM_Town_wire : FuncData} (M_Town_wire : MG P w K mg base c.T 1 "wire" ["self", "way", "post"] (spToWire c) fM_Town_wire fdM_Town_wire) {fG_demand_post : Addr} {fdG_demand_post : FuncData} (G_demand_post : FG P w K mg base (L2.CX P w) 4 "demand_post" ["desk", "post"] (spDemandPost c) fG_demand_post fdG_demand_post) {fG_demand_in : Addr} {fdG_demand_in : FuncData} (G_demand_in : FG P w K mg base (L2.CX P w) 4 "demand_in" ["number", "low", "high"] (spDemandIn c) fG_demand_in fdG_demand_in) {f : Addr} {fd : FuncData} (F : Fun K "frame_wire" "frame_wire" s_frame_wire f fd) : FnOk P w K mg base (L2.CX P w) 5 f fd ["desk", "numbers"] (spFrameWire c) := by
  refine F.okX sc_frame_wire (fun vs H Q E h => ?_) (fun cdv A outer s H vs Q E hr h => ?_)
  · obtain ⟨d, dx, t, a, l, Y, s, w, p, i, rfl, _⟩ := h
    rfl
  · obtain ⟨d, dx, t, a, l, Y, s, w, p, i, rfl, DD, ha, q1, q4, q6, q⟩ := h
    obtain ⟨hd, ld, dt, TT⟩ := id DD
    refine ⟨_, (pss_cons (ps_asg (pv 1) (pg_lst rfl (pgs_cons (pg_name (i := 2) sc_frame_wire.nd rfl (Or.inl rfl)) (pgs_cons (pg_name (i := 3) sc_frame_wire.nd rfl (Or.inl rfl)) (pgs_cons (pg_name (i := 4) sc_frame_wire.nd rfl (Or.inl rfl)) pgs_nil)))))
        (pss_cons (ps_expr (pe_call G_demand_in.ok (hr.mono (by decide)) rfl G_demand_in.g G_demand_in.kp G_demand_in.b .nil xpass (pa_cons (pv 2) (pa_cons pe_int (pa_cons pe_int pa_nil)))))
        (pss_cons (ps_expr (pe_call G_demand_in.ok (hr.mono (by decide)) rfl G_demand_in.g G_demand_in.kp G_demand_in.b .nil xpass (pa_cons (pv 3) (pa_cons pe_int (pa_cons pe_int pa_nil)))))
        (pss_cons (ps_expr (pe_call G_demand_in.ok (hr.mono (by decide)) rfl G_demand_in.g G_demand_in.kp G_demand_in.b .nil xpass (pa_cons (pv 4) (pa_cons pe_int (pa_cons pe_int pa_nil)))))
        (pss_cons (ps_expr (pe_call G_demand_post.ok (hr.mono (by decide)) rfl G_demand_post.g G_demand_post.kp G_demand_post.b .nil xpass (pa_cons (pv 0) (pa_cons (pv 3) pa_nil))))
        (pss_cons (ps_set (i := 5) sc_frame_wire.nd rfl (Or.inl rfl) (pe_meth (pe_fld (pv 0) rfl) T.clT M_Town_wire.m M_Town_wire.ok (hr.mono (by decide)) M_Town_wire.b .nil pass0 (pa_cons (pv 2) (pa_cons (pv 3) pa_nil))))
        (pss_cons (ps_expr (pe_call G_demand.ok (hr.mono (by decide)) rfl G_demand.g G_demand.kp G_demand.b .nil xpass (pa_cons (pe_meth (pv 5) T.clW M_Wire_has.m M_Wire_has.ok (hr.mono (by decide)) M_Wire_has.b .nil pass0 (pa_cons (pv 4) pa_nil)) (pa_cons (pe_un un_neg pe_int) pa_nil))))
        (pss_one (ps_ret (pv 5)))))))))), ?_⟩
    refine ⟨_, rfl, a, _, rfl, SqL.of ha, rfl, _, _, rfl, _, _, rfl, _, _, rfl, rfl, ?_⟩
    refine ⟨_, rfl, _, _, _, rfl, fun h1 h2 => ?_, fun z => q1 fun y => z y.1⟩
    refine ⟨_, rfl, _, _, _, rfl, fun h3 h4 => ?_, fun z => q1 fun y => z y.2.1⟩
    refine ⟨_, rfl, _, _, _, rfl, fun h5 h6 => ?_, fun z => q1 fun y => z y.2.2⟩
    have R : Rows w p i := ⟨⟨h1, h2⟩, ⟨h3, h4⟩, ⟨h5, h6⟩⟩
    refine ⟨_, rfl, _, rfl, d, l, s, p, rfl, ⟨dx, t, Y, DD⟩, fun hp => ?_, fun hp => q4 R (none_of_ge hp)⟩
    obtain ⟨x, hx⟩ := some_of_lt h3 hp
    obtain ⟨pp, u, dd, hpp, hu, hdd⟩ := TT.places hx
    obtain ⟨n, rfl⟩ : ∃ n : Nat, p = (n : Int) := ⟨p.toNat, by omega⟩
    rw [Int.toNat_natCast] at hx hpp hu hdd
    have dec : ∀ {k : Nat}, decide (i < (k : Int)) = true → i.toNat < k := fun z => by have := of_decide_eq_true z; omega
    have dec' : ∀ {k : Nat}, decide (i < (k : Int)) = false → k ≤ i.toNat := fun z => by have := of_decide_eq_false z; omega
    refine ⟨_, rfl, d, c.D, dx, _, _, rfl, hd, T.clD, T.nD_town, de_town, t, dt, _, rfl, TT.obj, to_no_wire, _, rfl, _, rfl, t, l, Y, s, w, n, x, rfl, ⟨dt, TT⟩, hx, fun hw u' hu' => ?_, fun hw d' hd' => ?_⟩
    · have wA := TT.up n x u' hx hu'
      obtain ⟨dw, fr, hwi, _⟩ := id wA
      have e : (x.up.map upNums).length = rowLen w x := by rw [List.length_map, rowLen, if_pos hw]
      refine ⟨_, rfl, u', dw, _, rfl, hwi, wi_no_has, _, rfl, u', l, _, _, i, rfl, wA, 6, rfl, _, _, rfl, fun z => ?_, fun z => ?_⟩
      · rw [e] at z
        exact ⟨_, rfl, (q R x (by rw [Int.toNat_natCast]; exact hx) (dec z)).1 hw u' (by rw [Int.toNat_natCast]; exact hu')⟩
      · rw [e] at z
        exact q6 R x (by rw [Int.toNat_natCast]; exact hx) (dec' z)
    · have wA := TT.down n x d' hx hd'
      obtain ⟨dw, fr, hwi, _⟩ := id wA
      have e : (x.down.map downNums).length = rowLen w x := by rw [List.length_map, rowLen, if_neg hw]
      refine ⟨_, rfl, d', dw, _, rfl, hwi, wi_no_has, _, rfl, d', l, _, _, i, rfl, wA, 6, rfl, _, _, rfl, fun z => ?_, fun z => ?_⟩
      · rw [e] at z
        exact ⟨_, rfl, (q R x (by rw [Int.toNat_natCast]; exact hx) (dec z)).2 hw d' (by rw [Int.toNat_natCast]; exact hd')⟩
      · rw [e] at z
        exact q6 R x (by rw [Int.toNat_natCast]; exact hx) (dec' z)
end
end Pp

set_option linter.all false
namespace Pp
open Vbkoah (Lease HomeRec PostRec Up Down Want numbered endedAt endOf hasBack willDo hasGiven says sendTo homeNums postNums upNums downNums whole inside onPost onRow no Call)
/-! ### what each call does, case by case -/
theorem and_no {a b : Bool} {p q : Prop} (ha : a = false ↔ ¬ p) (hb : b = false ↔ ¬ q) : (a && b) = false ↔ ¬ (p ∧ q) := by
  rw [Bool.and_eq_false_iff, ha, hb]
  constructor
  · rintro (h | h) ⟨x, y⟩
    · exact h x
    · exact h y
  · intro h
    by_cases x : p
    · exact .inr fun y => h ⟨x, y⟩
    · exact .inl x
theorem in2_no {a b : Int} {x y z u : Int} : (inside a x y && inside b z u) = false ↔ ¬ ((x ≤ a ∧ a ≤ y) ∧ (z ≤ b ∧ b ≤ u)) := and_no inside_not inside_not
theorem in3_no {a b c : Int} {x y z u v w : Int} : (inside a x y && (inside b z u && inside c v w)) = false ↔ ¬ ((x ≤ a ∧ a ≤ y) ∧ (z ≤ b ∧ b ≤ u) ∧ (v ≤ c ∧ c ≤ w)) := and_no inside_not in2_no
variable {s : SState}
theorem house_1 {n w : Int} (h : ¬ ((1 ≤ n ∧ n ≤ 3) ∧ (3 ≤ w ∧ w ≤ 20))) : stepP s (.house n w) = (s, [-1]) := if_pos (in2_no.mpr h)
theorem house_ok {n w : Int} (h : (1 ≤ n ∧ n ≤ 3) ∧ (3 ≤ w ∧ w ≤ 20)) : stepP s (.house n w) = (Vbkoah.newHouse n.toNat w.toNat, [n]) := if_neg fun z => in2_no.mp z h
def Wn (p x l : Int) : Prop := (0 ≤ p ∧ p ≤ 2) ∧ (0 ≤ x ∧ x ≤ 3) ∧ (1 ≤ l ∧ l ≤ 18)
theorem want_1 {p x l : Int} (h : ¬ Wn p x l) : stepP s (.want p x l) = (s, [-1]) := if_pos (in3_no.mpr h)
theorem want_at {p x l : Int} (h : Wn p x l) : stepP s (.want p x l) = onPost s p fun p y => if whole s.w - 2 < l then no s (-5) else if 6 ≤ y.wants.length then no s (-7) else (setP s p { y with wants := y.wants ++ [⟨x.toNat, l.toNat⟩] }, [whole y.wants.length + 1]) := if_neg fun z => in3_no.mp z h
theorem want_4 {p x l : Int} (h : Wn p x l) (hx : s.posts[p.toNat]? = none) : stepP s (.want p x l) = (s, [-4]) := (want_at h).trans (onPost_4 h.1 hx)
theorem want_5 {p x l : Int} {y : SPost} (h : Wn p x l) (hx : s.posts[p.toNat]? = some y) (h5 : whole s.w - 2 < l) : stepP s (.want p x l) = (s, [-5]) := (want_at h).trans ((onPost_ok h.1 hx).trans (if_pos h5))
theorem want_7 {p x l : Int} {y : SPost} (h : Wn p x l) (hx : s.posts[p.toNat]? = some y) (h5 : ¬ whole s.w - 2 < l) (h7 : 6 ≤ y.wants.length) : stepP s (.want p x l) = (s, [-7]) := (want_at h).trans ((onPost_ok h.1 hx).trans ((if_neg h5).trans (if_pos h7)))
theorem want_ok {p x l : Int} {y : SPost} (h : Wn p x l) (hx : s.posts[p.toNat]? = some y) (h5 : ¬ whole s.w - 2 < l) (h7 : ¬ 6 ≤ y.wants.length) : stepP s (.want p x l) = (setP s p.toNat { y with wants := y.wants ++ [⟨x.toNat, l.toNat⟩] }, [whole y.wants.length + 1]) :=
  (want_at h).trans ((onPost_ok h.1 hx).trans ((if_neg h5).trans (if_neg h7)))
theorem tick_1 {p : Int} (h : ¬ (0 ≤ p ∧ p ≤ 2)) : stepP s (.tick p) = (s, [-1]) := by
  unfold stepP
  exact onPost_1 h
theorem tick_4 {p : Int} (h : 0 ≤ p ∧ p ≤ 2) (hx : s.posts[p.toNat]? = none) : stepP s (.tick p) = (s, [-4]) := by
  unfold stepP
  exact onPost_4 h hx
theorem tick_ok {p : Int} {x : SPost} (h : 0 ≤ p ∧ p ≤ 2) (hx : s.posts[p.toNat]? = some x) : stepP s (.tick p) = (setP s p.toNat (tickP s.day x), [whole (tickP s.day x).wants.length, whole (tickP s.day x).recs.length, whole (says s.day (tickP s.day x)).length]) := by
  unfold stepP
  exact onPost_ok h hx
def Kn (k m : Int) : Prop := (0 ≤ k ∧ k ≤ 3) ∧ (0 ≤ m ∧ m ≤ 80)
theorem safe_1 {k m : Int} (h : ¬ Kn k m) : stepP s (.safe k m) = (s, [-1]) := if_pos (in2_no.mpr h)
theorem safe_3 {m : Int} (h : Kn 3 m) : stepP s (.safe 3 m) = ({ s with safe := max s.safe (min m.toNat s.recs.length) }, [whole (max s.safe (min m.toNat s.recs.length))]) := (if_neg fun z => in2_no.mp z h).trans (if_pos rfl)
theorem kn_post {k : Int} (h : 0 ≤ k ∧ k ≤ 3) (n : k ≠ 3) : 0 ≤ k ∧ k ≤ 2 := by omega
theorem safe_4 {k m : Int} (h : Kn k m) (n : k ≠ 3) (hx : s.posts[k.toNat]? = none) : stepP s (.safe k m) = (s, [-4]) := (if_neg fun z => in2_no.mp z h).trans ((if_neg n).trans (onPost_4 (kn_post h.1 n) hx))
theorem safe_ok {k m : Int} {x : SPost} (h : Kn k m) (n : k ≠ 3) (hx : s.posts[k.toNat]? = some x) : stepP s (.safe k m) = (setP s k.toNat { x with safe := max x.safe (min m.toNat x.recs.length) }, [whole (max x.safe (min m.toNat x.recs.length))]) :=
  (if_neg fun z => in2_no.mp z h).trans ((if_neg n).trans (onPost_ok (kn_post h.1 n) hx))
theorem deliver_no {d p i e : Int} (h : ∀ f, onRow s d p i f = (s, [e])) : stepP s (.deliver d p i) = (s, [e]) := h _
theorem deliver_up {p i : Int} {x : SPost} {f : Up} (h : Rows 0 p i) (hx : s.posts[p.toNat]? = some x) (hf : x.up[i.toNat]? = some f) : stepP s (.deliver 0 p i) = (comeUp (setP s p.toNat { x with up := x.up.eraseIdx i.toNat }) p.toNat f, [1]) := by
  refine (onRow_ok h hx (List.getElem?_eq_some_iff.mp hf).1).trans ?_
  show (match x.up[i.toNat]? with
    | none => no s (-6)
    | some f => (comeUp (setP s p.toNat { x with up := x.up.eraseIdx i.toNat }) p.toNat f, [1])) = _
  rw [hf]
theorem deliver_down {d p i : Int} {x : SPost} {f : Down} (n : d ≠ 0) (h : Rows d p i) (hx : s.posts[p.toNat]? = some x) (hf : x.down[i.toNat]? = some f) : stepP s (.deliver d p i) = (comeDown (setP s p.toNat { x with down := x.down.eraseIdx i.toNat }) p.toNat f, [1]) := by
  refine (onRow_ok h hx (by rw [rowLen, if_neg n]; exact (List.getElem?_eq_some_iff.mp hf).1)).trans ?_
  show (if d = 0 then _ else (match x.down[i.toNat]? with
    | none => no s (-6)
    | some f => (comeDown (setP s p.toNat { x with down := x.down.eraseIdx i.toNat }) p.toNat f, [1]))) = _
  rw [if_neg n, hf]
theorem lose_no {d p i e : Int} (h : ∀ f, onRow s d p i f = (s, [e])) : stepP s (.lose d p i) = (s, [e]) := by
  unfold stepP Vbkoah.step
  exact h _
theorem lose_up {p i : Int} {x : SPost} (h : Rows 0 p i) (hx : s.posts[p.toNat]? = some x) (hf : i.toNat < x.up.length) : stepP s (.lose 0 p i) = (setP s p.toNat { x with up := x.up.eraseIdx i.toNat }, [whole (x.up.length - 1)]) := by
  unfold stepP Vbkoah.step
  exact (onRow_ok h hx hf).trans (if_pos rfl)
theorem lose_down {d p i : Int} {x : SPost} (n : d ≠ 0) (h : Rows d p i) (hx : s.posts[p.toNat]? = some x) (hf : i.toNat < x.down.length) : stepP s (.lose d p i) = (setP s p.toNat { x with down := x.down.eraseIdx i.toNat }, [whole (x.down.length - 1)]) := by
  unfold stepP Vbkoah.step
  exact (onRow_ok h hx (by rw [rowLen, if_neg n]; exact hf)).trans (if_neg n)
theorem double_no {d p i e : Int} (h : ∀ f, onRow s d p i f = (s, [e])) : stepP s (.double d p i) = (s, [e]) := by
  unfold stepP Vbkoah.step
  exact h _
theorem double_7 {d p i : Int} {x : SPost} (h : Rows d p i) (hx : s.posts[p.toNat]? = some x) (hf : i.toNat < rowLen d x) (h8 : 8 ≤ rowLen d x) : stepP s (.double d p i) = (s, [-7]) := by
  unfold stepP Vbkoah.step
  exact (onRow_ok h hx hf).trans (if_pos h8)
theorem double_up {p i : Int} {x : SPost} (h : Rows 0 p i) (hx : s.posts[p.toNat]? = some x) (hf : i.toNat < x.up.length) (h8 : ¬ 8 ≤ x.up.length) : stepP s (.double 0 p i) = (setP s p.toNat { x with up := Vbkoah.twice x.up i.toNat }, [whole (x.up.length + 1)]) := by
  unfold stepP Vbkoah.step
  exact (onRow_ok h hx hf).trans ((if_neg h8).trans (if_pos rfl))
theorem double_down {d p i : Int} {x : SPost} (n : d ≠ 0) (h : Rows d p i) (hx : s.posts[p.toNat]? = some x) (hf : i.toNat < x.down.length) (h8 : ¬ 8 ≤ x.down.length) : stepP s (.double d p i) = (setP s p.toNat { x with down := Vbkoah.twice x.down i.toNat }, [whole (x.down.length + 1)]) := by
  unfold stepP Vbkoah.step
  refine (onRow_ok h hx (by rw [rowLen, if_neg n]; exact hf)).trans ?_
  rw [if_neg n, if_neg n]
  exact if_neg h8
theorem cut_1 {k : Int} (h : ¬ (0 ≤ k ∧ k ≤ 3)) : stepP s (.cut k) = (s, [-1]) := if_pos (inside_not.mpr h)
theorem cut_3 : stepP s (.cut 3) = ({ s with recs := s.recs.take s.safe }, [whole (s.recs.take s.safe).length]) := rfl
theorem cut_4 {k : Int} (h : 0 ≤ k ∧ k ≤ 3) (n : k ≠ 3) (hx : s.posts[k.toNat]? = none) : stepP s (.cut k) = (s, [-4]) := (if_neg fun z => inside_not.mp z h).trans ((if_neg n).trans (onPost_4 (kn_post h n) hx))
theorem cut_ok {k : Int} {x : SPost} (h : 0 ≤ k ∧ k ≤ 3) (n : k ≠ 3) (hx : s.posts[k.toNat]? = some x) : stepP s (.cut k) = (setP s k.toNat (Vbkoah.cutPost x), [whole (Vbkoah.cutPost x).recs.length]) :=
  (if_neg fun z => inside_not.mp z h).trans ((if_neg n).trans (onPost_ok (kn_post h n) hx))
theorem day_7 (h : ¬ s.day < 900) : stepP s .day = (s, [-7]) := if_pos (Nat.le_of_not_lt h)
theorem day_ok (h : s.day < 900) : stepP s .day = ({ s with day := s.day + 1 }, [whole s.day + 1]) := if_neg (Nat.not_le_of_lt h)
theorem calm_1 {k : Int} (h : ¬ (1 ≤ k ∧ k ≤ 99)) : stepP s (.calm k) = (s, [-1]) := if_pos (inside_not.mpr h)
theorem calm_7 {k : Int} (h : 1 ≤ k ∧ k ≤ 99) (h9 : 900 < s.day + k.toNat) : stepP s (.calm k) = (s, [-7]) := (if_neg fun z => inside_not.mp z h).trans (if_pos h9)
theorem calm_ok {k : Int} (h : 1 ≤ k ∧ k ≤ 99) (h9 : ¬ 900 < s.day + k.toNat) : stepP s (.calm k) = (calmP k.toNat s, [whole (calmP k.toNat s).day]) := (if_neg fun z => inside_not.mp z h).trans (if_neg h9)
theorem good_1 {x d : Int} (h : ¬ ((0 ≤ x ∧ x ≤ 3) ∧ (0 ≤ d ∧ d ≤ 999))) : stepP s (.good x d) = (s, [-1]) := if_pos (in2_no.mpr h)
def goodP (s : SState) (x d : Int) : List Vbkoah.Paper := (Vbkoah.papers s).filter fun y => whole y.x == x && decide (whole y.f ≤ d ∧ d ≤ whole y.t)
theorem good_ok {x d : Int} (h : (0 ≤ x ∧ x ≤ 3) ∧ (0 ≤ d ∧ d ≤ 999)) : stepP s (.good x d) = (s, whole (goodP s x d).length :: (goodP s x d).map fun y => whole y.p) := if_neg fun z => in2_no.mp z h
theorem post_1 {p : Int} (h : ¬ (0 ≤ p ∧ p ≤ 2)) : stepP s (.post p) = (s, [-1]) := by
  unfold stepP Vbkoah.step
  exact onPost_1 h
theorem post_4 {p : Int} (h : 0 ≤ p ∧ p ≤ 2) (hx : s.posts[p.toNat]? = none) : stepP s (.post p) = (s, [-4]) := by
  unfold stepP Vbkoah.step
  exact onPost_4 h hx
theorem post_ok {p : Int} {x : SPost} (h : 0 ≤ p ∧ p ≤ 2) (hx : s.posts[p.toNat]? = some x) : stepP s (.post p) = (s, (whole x.wants.length :: x.wants.flatMap fun v => [whole v.x, whole v.long]) ++ ((whole x.known.length :: x.known.flatMap fun l => [whole l.m, whole l.x, whole l.a, whole l.b]) ++ ((whole x.recs.length :: whole x.safe :: x.recs.flatMap postNums) ++ (whole x.heard.length :: x.heard.map whole)))) := by
  unfold stepP Vbkoah.step
  exact onPost_ok h hx
theorem row_1 {d p : Int} (h : ¬ ((0 ≤ d ∧ d ≤ 1) ∧ (0 ≤ p ∧ p ≤ 2))) : stepP s (.row d p) = (s, [-1]) := by
  by_cases hd : 0 ≤ d ∧ d ≤ 1
  · exact (if_neg fun z => inside_not.mp z hd).trans (onPost_1 fun z => h ⟨hd, z⟩)
  · exact if_pos (inside_not.mpr hd)
theorem row_4 {d p : Int} (h : (0 ≤ d ∧ d ≤ 1) ∧ (0 ≤ p ∧ p ≤ 2)) (hx : s.posts[p.toNat]? = none) : stepP s (.row d p) = (s, [-4]) := (if_neg fun z => inside_not.mp z h.1).trans (onPost_4 h.2 hx)
theorem row_ok {d p : Int} {x : SPost} (h : (0 ≤ d ∧ d ≤ 1) ∧ (0 ≤ p ∧ p ≤ 2)) (hx : s.posts[p.toNat]? = some x) : stepP s (.row d p) = (s, if d = 0 then whole x.up.length :: x.up.flatMap upNums else whole x.down.length :: x.down.flatMap downNums) := (if_neg fun z => inside_not.mp z h.1).trans (onPost_ok h.2 hx)
/-! ### the length of what is told -/
theorem flat_len {α : Type} (f : α → List Int) (k : Nat) (hf : ∀ x, (f x).length ≤ k) : ∀ l : List α, ((l.map f).flatten).length ≤ k * l.length
  | [] => Nat.zero_le _
  | x :: l => by
    have := flat_len f k hf l
    have h2 := hf x
    rw [List.map_cons, List.flatten_cons, List.length_append, List.length_cons, Nat.mul_succ]
    omega
theorem homeNums_len (r : HomeRec) : (homeNums r).length ≤ 5 := by cases r <;> simp [homeNums]
theorem postNums_len (r : PostRec) : (postNums r).length ≤ 5 := by cases r <;> simp [postNums]
theorem upNums_len (r : Up) : (upNums r).length ≤ 5 := by cases r <;> simp [upNums]
theorem downNums_len (r : Down) : (downNums r).length ≤ 5 := by cases r <;> simp [downNums]
theorem flatMap_eq {α : Type} (f : α → List Int) (l : List α) : l.flatMap f = (l.map f).flatten := rfl
theorem eraseIdx_eq {α : Type} : ∀ (l : List α) (i : Nat), l.eraseIdx i = l.take i ++ l.drop (i + 1)
  | [], i => by simp
  | x :: l, 0 => by simp
  | x :: l, i + 1 => by simp [eraseIdx_eq l i]
theorem twice_eq {α : Type} (l : List α) (i : Nat) : Vbkoah.twice l i = l.take (i + 1) ++ l.drop i := by
  unfold Vbkoah.twice
  congr 1
  have h := List.take_append_drop 1 (l.drop i)
  rw [List.drop_drop] at h
  exact h
end Pp

set_option Elab.async false
set_option linter.all false
set_option maxRecDepth 100000
set_option maxHeartbeats 2000000
namespace Pp
open PySem PySem.Spec PyProof.Rows L2
open Vbkoah (Lease HomeRec PostRec Up Down Want endedAt endOf hasBack willDo hasGiven says sendTo homeNums postNums upNums downNums)
/-! ### 14. the deeds -/
theorem len0 {ns : List Int} (h : ns.length = 0) : ns = [] := List.length_eq_zero_iff.mp h
theorem len1 {ns : List Int} (h : ns.length = 1) : ∃ a, ns = [a] := List.length_eq_one_iff.mp h
theorem len2 {ns : List Int} (h : ns.length = 2) : ∃ a b, ns = [a, b] := by
  match ns, h with
  | [a, b], _ => exact ⟨a, b, rfl⟩
theorem len3 {ns : List Int} (h : ns.length = 3) : ∃ a b d, ns = [a, b, d] := by
  match ns, h with
  | [a, b, d], _ => exact ⟨a, b, d, rfl⟩
def cHouse : List Int → Vbkoah.Call
  | [a, b] => .house a b
  | _ => .now
def cWant : List Int → Vbkoah.Call
  | [a, b, d] => .want a b d
  | _ => .now
def cTick : List Int → Vbkoah.Call
  | [a] => .tick a
  | _ => .now
def cSafe : List Int → Vbkoah.Call
  | [a, b] => .safe a b
  | _ => .now
def cDeliver : List Int → Vbkoah.Call
  | [a, b, d] => .deliver a b d
  | _ => .now
def cLose : List Int → Vbkoah.Call
  | [a, b, d] => .lose a b d
  | _ => .now
def cDouble : List Int → Vbkoah.Call
  | [a, b, d] => .double a b d
  | _ => .now
def cCut : List Int → Vbkoah.Call
  | [a] => .cut a
  | _ => .now
def cDay : List Int → Vbkoah.Call
  | [] => .day
  | _ => .now
def cCalm : List Int → Vbkoah.Call
  | [a] => .calm a
  | _ => .now
def cPapers : List Int → Vbkoah.Call
  | [] => .papers
  | _ => .now
def cGood : List Int → Vbkoah.Call
  | [a, b] => .good a b
  | _ => .now
def cLeases : List Int → Vbkoah.Call
  | [] => .leases
  | _ => .now
def cHome : List Int → Vbkoah.Call
  | [] => .home
  | _ => .now
def cPost : List Int → Vbkoah.Call
  | [a] => .post a
  | _ => .now
def cRow : List Int → Vbkoah.Call
  | [a, b] => .row a b
  | _ => .now
def cNow : List Int → Vbkoah.Call := fun _ => .now
theorem DeskAt.same {c : Ad} {H H' : Hp} {l : Lab} {d : Addr} {s : SState} (A : DeskAt c H l d s) (sm : Same H H') : DeskAt c H' l d s := by
  obtain ⟨dx, t, Y, A⟩ := A
  exact ⟨dx, t, Y, A.same sm⟩
theorem none_back {L : Nat → Prop} {l l' : Lab} {H H' : Hp} {p : Addr} (ch : Ch L l H l' H') (h : H' p = none) : H p = none := by
  cases e : H p with
  | none => rfl
  | some o =>
    obtain ⟨o', h'⟩ := ch.there _ _ e
    rw [h] at h'
    cases h'
/-- a deed's last line: a list of ints -/
theorem fin {c : Ad} {H : Hp} {l : Lab} {d : Addr} {s s' : SState} {call : Vbkoah.Call} {ns : List Int} {Q : VK}
    (q : ∀ H' l' p, DeskAt c H' l' d (stepP s call).1 → Ch DA l H l' H' → H p = none → H' p = some (.lst ((stepP s call).2.map V.int)) → Q (.ref p) H')
    (e : stepP s call = (s', ns)) {H1 : Hp} {l1 : Lab} (D1 : DeskAt c H1 l1 d s') (ch : Ch DA l H l1 H1) {xs : List V} (hx : ns.map V.int = xs) : ∀ p, H1 p = none → Q (.ref p) (upd H1 p (.lst xs)) := fun p hp => by
  have sm : Same H1 (upd H1 p (.lst xs)) := Same.upd_new hp
  refine q _ l1 p ?_ (ch.trans (Ch.of_same sm)) (none_back ch hp) ?_
  · rw [e]
    exact D1.same sm
  · rw [e, upd_same, ← hx]
/-- the same, the list made by a callee -/
theorem fin2 {c : Ad} {H : Hp} {l : Lab} {d : Addr} {s : SState} {call : Vbkoah.Call} {ns : List Int} {Q : VK}
    (q : ∀ H' l' p, DeskAt c H' l' d (stepP s call).1 → Ch DA l H l' H' → H p = none → H' p = some (.lst ((stepP s call).2.map V.int)) → Q (.ref p) H')
    (e : stepP s call = (s, ns)) (D : DeskAt c H l d s) {H1 : Hp} (sm : Same H H1) {p : Addr} (hp : H p = none) (hl : H1 p = some (.lst (ns.map V.int))) : Q (.ref p) H1 := by
  refine q _ l p ?_ (Ch.of_same sm) hp ?_
  · rw [e]
    exact D.same sm
  · rw [e]
    exact hl
theorem DeskAt.put {c : Ad} {L : Nat → Prop} {H H' : Hp} {l l' : Lab} {d dx t : Addr} {Y : Lay} {s s' : SState} (A : DAt c H l d dx t Y s) (ch : Ch L l H l' H') (n : ¬ L 1) (B : TownAt c H' l' t Y s') : DeskAt c H' l' d s' := ⟨dx, t, Y, A.put ch n B⟩
theorem says_up {day : Nat} {y : SPost} {u : List Up} : says day { y with up := u } = says day y := rfl
section
variable {P : Program} {w : World} {K : PySem.W.Frag} {mg : Str → Option Value} {base : Heap} {c : Ad} {fI : Addr}
theorem ok_house (T : Txt K mg c fI) {fG_demand_in : Addr} {fdG_demand_in : FuncData} (G_demand_in : FG P w K mg base (L2.CX P w) 4 "demand_in" ["number", "low", "high"] (spDemandIn c) fG_demand_in fdG_demand_in) {fC_Town : Addr} {fdC_Town : FuncData} (C_Town : CG P w K mg base c.T "Town" 5 ["self", "many", "length"] (spToInit c) fC_Town fdC_Town) {f : Addr} {fd : FuncData} (F : Fun K "house" "house" s_house f fd) : FnOk P w K mg base (L2.CX P w) 7 f fd ["desk", "numbers"] (spDeed c 2 cHouse) := by
  refine F.okX sc_house (fun vs H Q E h => ?_) (fun cdv A outer s H vs Q E hr h => ?_)
  · obtain ⟨d, a, l, s, ns, rfl, _⟩ := h
    rfl
  · obtain ⟨d, a, l, s, ns, rfl, ⟨dx, t, Y, DD⟩, ha, la, hl, ok, q, qe⟩ := h
    obtain ⟨n, w', rfl⟩ := len2 hl
    obtain ⟨hd, ld, dt, TT⟩ := id DD
    refine ⟨_, (pss_cons (ps_expr (pe_call G_demand_in.ok (hr.mono (by decide)) rfl G_demand_in.g G_demand_in.kp G_demand_in.b .nil xpass (pa_cons (pe_ix ix_list (pv 1) pe_int (fun _ _ => rfl)) (pa_cons pe_int (pa_cons pe_int pa_nil)))))
        (pss_cons (ps_expr (pe_call G_demand_in.ok (hr.mono (by decide)) rfl G_demand_in.g G_demand_in.kp G_demand_in.b .nil xpass (pa_cons (pe_ix ix_list (pv 1) pe_int (fun _ _ => rfl)) (pa_cons pe_int (pa_cons pe_int pa_nil)))))
        (pss_cons (ps_fld (pv 0) (pe_make C_Town.mk_ C_Town.ok (hr.mono (by decide)) rfl C_Town.g C_Town.b .nil pass0 (pa_cons (pe_ix ix_list (pv 1) pe_int (fun _ _ => rfl)) (pa_cons (pe_ix ix_list (pv 1) pe_int (fun _ _ => rfl)) pa_nil))) rfl)
        (pss_one (ps_ret (pe_lst (pa_cons (pe_ix ix_list (pv 1) pe_int (fun _ _ => rfl)) pa_nil))))))), ?_⟩
    refine ⟨_, rfl, a, _, _, _, rfl, rfl, SqL.of ha, rfl, _, _, _, rfl, fun h1 h2 => ?_, fun z => qe _ (house_1 fun y => z y.1)⟩
    refine ⟨_, rfl, a, _, _, _, rfl, rfl, SqL.of ha, rfl, _, _, _, rfl, fun h3 h4 => ?_, fun z => qe _ (house_1 fun y => z y.2)⟩
    have e := house_ok (s := s) (n := n) (w := w') ⟨⟨h1, h2⟩, ⟨h3, h4⟩⟩
    refine ⟨_, rfl, a, _, _, _, rfl, rfl, SqL.of ha, rfl, _, rfl, a, _, _, _, rfl, rfl, SqL.of ha, rfl, ?_⟩
    intro x dy nx ndx nex
    obtain ⟨n, rfl⟩ : ∃ k : Nat, n = (k : Int) := ⟨n.toNat, by omega⟩
    obtain ⟨w', rfl⟩ : ∃ k : Nat, w' = (k : Int) := ⟨w'.toNat, by omega⟩
    rw [Int.toNat_natCast, Int.toNat_natCast] at e
    refine ⟨x, dy, l, n, w', rfl, upd_same, by omega, fun H1 l1 Y1 ⟨dt1, TA1⟩ N1 => ⟨rfl, ?_⟩⟩
    have nw1 := N1.nw nx ndx
    have d1 := nw1 d _ hd
    have ld1 : l1 d = 1 := d1.2.trans ld
    refine ⟨_, rfl, d, c.D, dx, _, rfl, d1.1, T.clD, T.nD_town, (by show 1 < 1000; decide), ?_⟩
    rw [de_put_town]
    have ch2 : Ch (· = 1) l1 H1 l1 (upd H1 d (.ins c.D dx (deF x))) := Ch.upd d1.1 (by intro xs z; cases z) ld1
    have chA : Ch DA l H l1 (upd H1 d (.ins c.D dx (deF x))) := (nw1.ch).trans (ch2.mono fun m z => by rw [z]; intro y; cases y)
    refine ⟨_, rfl, a, _, _, _, rfl, rfl, SqL.of (chA.keep _ _ ha (by rw [la]; exact fun z => z rfl)), rfl, by show 1 ≤ sizeLine; decide, ?_⟩
    refine fin q e (l1 := l1) ⟨dx, x, Y1, upd_same, ld1, dt1, TA1.keep ch2 fun m hm z => ?_⟩ chA rfl
    subst z
    rcases hm with (h | h | h) | h | h <;> omega
theorem ok_tick_deeds (T : Txt K mg c fI) {fG_demand_in : Addr} {fdG_demand_in : FuncData} (G_demand_in : FG P w K mg base (L2.CX P w) 4 "demand_in" ["number", "low", "high"] (spDemandIn c) fG_demand_in fdG_demand_in) {fG_demand_post : Addr} {fdG_demand_post : FuncData} (G_demand_post : FG P w K mg base (L2.CX P w) 4 "demand_post" ["desk", "post"] (spDemandPost c) fG_demand_post fdG_demand_post) {fM_Town_tick_post : Addr} {fdM_Town_tick_post : FuncData} (M_Town_tick_post : MG P w K mg base c.T 6 "tick_post" ["self", "post"] (spTickPost c) fM_Town_tick_post fdM_Town_tick_post) {f : Addr} {fd : FuncData} (F : Fun K "tick" "tick" s_tick_deeds f fd) : FnOk P w K mg base (L2.CX P w) 7 f fd ["desk", "numbers"] (spDeed c 1 cTick) := by
  refine F.okX sc_tick_deeds (fun vs H Q E h => ?_) (fun cdv A outer s H vs Q E hr h => ?_)
  · obtain ⟨d, a, l, s, ns, rfl, _⟩ := h
    rfl
  · obtain ⟨d, a, l, s, ns, rfl, ⟨dx, t, Y, DD⟩, ha, la, hl, ok, q, qe⟩ := h
    obtain ⟨n, rfl⟩ := len1 hl
    obtain ⟨hd, ld, dt, TT⟩ := id DD
    refine ⟨_, (pss_cons (ps_expr (pe_call G_demand_in.ok (hr.mono (by decide)) rfl G_demand_in.g G_demand_in.kp G_demand_in.b .nil xpass (pa_cons (pe_ix ix_list (pv 1) pe_int (fun _ _ => rfl)) (pa_cons pe_int (pa_cons pe_int pa_nil)))))
        (pss_cons (ps_expr (pe_call G_demand_post.ok (hr.mono (by decide)) rfl G_demand_post.g G_demand_post.kp G_demand_post.b .nil xpass (pa_cons (pv 0) (pa_cons (pe_ix ix_list (pv 1) pe_int (fun _ _ => rfl)) pa_nil))))
        (pss_cons (ps_par (i := 2) (j := 3) rfl sc_tick_deeds.nd rfl rfl (by decide) rfl rfl (pa_cons (pe_meth (pe_fld (pv 0) rfl) T.clT M_Town_tick_post.m M_Town_tick_post.ok (hr.mono (by decide)) M_Town_tick_post.b .nil pass0 (pa_cons (pe_ix ix_list (pv 1) pe_int (fun _ _ => rfl)) pa_nil)) (pa_cons (pe_ix ix_list (pe_fld (pe_fld (pv 0) rfl) rfl) (pe_ix ix_list (pv 1) pe_int (fun _ _ => rfl)) (fun _ _ => rfl)) pa_nil)) rfl)
        (pss_one (ps_ret (pe_lst (pa_cons (pe_callB (call_len_seq) (by rfl) T.z_len PySem.boot_len (pa_cons (pe_fld (pv 3) rfl) pa_nil)) (pa_cons (pe_callB (call_len_seq) (by rfl) T.z_len PySem.boot_len (pa_cons (pe_fld (pe_fld (pv 3) rfl) rfl) pa_nil)) (pa_cons (pv 2) pa_nil))))))))), ?_⟩
    refine ⟨_, rfl, a, _, _, _, rfl, rfl, SqL.of ha, rfl, _, _, _, rfl, fun h1 h2 => ?_, fun z => qe _ (tick_1 z)⟩
    refine ⟨_, rfl, _, rfl, a, _, _, _, rfl, rfl, SqL.of ha, rfl, d, l, s, n, rfl, ⟨dx, t, Y, DD⟩, fun hp => ?_, fun hp => qe _ (tick_4 ⟨h1, h2⟩ (none_of_ge hp))⟩
    obtain ⟨x, hx⟩ := some_of_lt h1 hp
    have e := tick_ok ⟨h1, h2⟩ hx
    obtain ⟨n, rfl⟩ : ∃ k : Nat, n = (k : Int) := ⟨n.toNat, by omega⟩
    rw [Int.toNat_natCast] at hx e
    obtain ⟨pp, u, dd, hpp, hu, hdd⟩ := TT.places hx
    have bd := ok.sbd.at hx
    refine ⟨_, rfl, d, c.D, dx, _, _, rfl, hd, T.clD, T.nD_town, de_town, t, dt, _, rfl, TT.obj, to_no_tick_post, _, rfl, a, _, _, _, rfl, rfl, SqL.of ha, rfl, t, l, Y, s, n, x, rfl, ⟨dt, TT⟩, hx, bd, fun H1 l1 ⟨dt1, T1⟩ ch => ?_⟩
    have chA : Ch DA l H l1 H1 := ch.mono fun m z y => by have := z.1; rw [y] at this; omega
    have D1 : DAt c H1 l1 d dx t Y (tickAt s n) := DD.put ch nTL1 ⟨dt1, T1⟩
    obtain ⟨hd1, _, _⟩ := id D1
    have ha1 := chA.keep _ _ ha (by rw [la]; exact fun z => z rfl)
    rw [tickAt_eq hx] at T1 D1
    have hy : (setP s n (tickP s.day x)).posts[n]? = some (tickP s.day x) := setP_at hx
    obtain ⟨dp, st, ea, aa, hh, PA⟩ := T1.post n _ pp hy hpp
    obtain ⟨dst, rst, hst, hrs, _⟩ := id PA.st
    obtain ⟨ts, hts, hpr⟩ := hrs
    obtain ⟨tw, htw, hpw⟩ := id PA.wa
    refine ⟨_, rfl, d, c.D, dx, _, _, rfl, hd1, T.clD, T.nD_town, de_town, t, c.T, dt1, _, _, rfl, T1.obj, T.clT, T.nT_posts, to_posts, _, rfl, a, _, _, _, rfl, rfl, SqL.of ha1, rfl, Y.lp, _, _, _, rfl, rfl, SqL.of T1.pl, atI_nat (ref_at hpp), _, _, rfl, ?_⟩
    refine ⟨_, rfl, pp, c.P, dp, _, _, rfl, PA.obj, T.clP, T.nP_wants, po_wants, aa, _, rfl, .inl (SqL.of htw), _, rfl, pp, c.P, dp, _, _, rfl, PA.obj, T.clP, T.nP_station, po_station, st, c.S, dst, _, _, rfl, hst, T.clS, T.nS_records, st_records, rst, _, rfl, .inl (SqL.of hts), _, rfl, (by show 3 ≤ sizeLine; decide), ?_⟩
    refine fin q e ⟨dx, t, Y, D1⟩ chA ?_
    rw [List.length_map, List.length_map, hpw.length, hpr.length, List.length_map, List.length_map]
    rfl
theorem ok_want (T : Txt K mg c fI) {fG_demand : Addr} {fdG_demand : FuncData} (G_demand : FG P w K mg base (L2.CX P w) 3 "demand" ["is_good", "number"] (spDemand c) fG_demand fdG_demand) {fG_demand_post : Addr} {fdG_demand_post : FuncData} (G_demand_post : FG P w K mg base (L2.CX P w) 4 "demand_post" ["desk", "post"] (spDemandPost c) fG_demand_post fdG_demand_post) {fG_demand_in : Addr} {fdG_demand_in : FuncData} (G_demand_in : FG P w K mg base (L2.CX P w) 4 "demand_in" ["number", "low", "high"] (spDemandIn c) fG_demand_in fdG_demand_in) {f : Addr} {fd : FuncData} (F : Fun K "want" "want" s_want f fd) : FnOk P w K mg base (L2.CX P w) 5 f fd ["desk", "numbers"] (spDeed c 3 cWant) := by
  refine F.okX sc_want (fun vs H Q E h => ?_) (fun cdv A outer s H vs Q E hr h => ?_)
  · obtain ⟨d, a, l, s, ns, rfl, _⟩ := h
    rfl
  · obtain ⟨d, a, l, s, ns, rfl, ⟨dx, t, Y, DD⟩, ha, la, hl, ok, q, qe⟩ := h
    obtain ⟨n, b, k, rfl⟩ := len3 hl
    obtain ⟨hd, ld, dt, TT⟩ := id DD
    refine ⟨_, (pss_cons (ps_asg (pv 1) (pg_lst rfl (pgs_cons (pg_name (i := 2) sc_want.nd rfl (Or.inl rfl)) (pgs_cons (pg_name (i := 3) sc_want.nd rfl (Or.inl rfl)) (pgs_cons (pg_name (i := 4) sc_want.nd rfl (Or.inl rfl)) pgs_nil)))))
        (pss_cons (ps_expr (pe_call G_demand_in.ok (hr.mono (by decide)) rfl G_demand_in.g G_demand_in.kp G_demand_in.b .nil xpass (pa_cons (pv 2) (pa_cons pe_int (pa_cons pe_int pa_nil)))))
        (pss_cons (ps_expr (pe_call G_demand_in.ok (hr.mono (by decide)) rfl G_demand_in.g G_demand_in.kp G_demand_in.b .nil xpass (pa_cons (pv 3) (pa_cons pe_int (pa_cons pe_int pa_nil)))))
        (pss_cons (ps_expr (pe_call G_demand_in.ok (hr.mono (by decide)) rfl G_demand_in.g G_demand_in.kp G_demand_in.b .nil xpass (pa_cons (pv 4) (pa_cons pe_int (pa_cons pe_int pa_nil)))))
        (pss_cons (ps_expr (pe_call G_demand_post.ok (hr.mono (by decide)) rfl G_demand_post.g G_demand_post.kp G_demand_post.b .nil xpass (pa_cons (pv 0) (pa_cons (pv 2) pa_nil))))
        (pss_cons (ps_expr (pe_call G_demand.ok (hr.mono (by decide)) rfl G_demand.g G_demand.kp G_demand.b .nil xpass (pa_cons (pe_cmpR op_le (pv 4) (pe_op op_sub (pe_fld (pe_fld (pv 0) rfl) rfl) pe_int) (nomark _)) (pa_cons (pe_un un_neg pe_int) pa_nil))))
        (pss_cons (ps_set (i := 5) sc_want.nd rfl (Or.inl rfl) (pe_ix ix_list (pe_fld (pe_fld (pv 0) rfl) rfl) (pv 2) (fun _ _ => rfl)))
        (pss_cons (ps_expr (pe_call G_demand.ok (hr.mono (by decide)) rfl G_demand.g G_demand.kp G_demand.b .nil xpass (pa_cons (pe_cmpR op_lt (pe_callB (call_len_seq) (by rfl) T.z_len PySem.boot_len (pa_cons (pe_fld (pv 5) rfl) pa_nil)) (pe_gint rfl T.i_MOST_WANTS) (nomark _)) (pa_cons (pe_un un_neg pe_int) pa_nil))))
        (pss_cons (ps_fld (pv 5) (pe_op op_cat (pe_fld (pv 5) rfl) (pe_lst (pa_cons (pe_tup (pa_cons (pv 3) (pa_cons (pv 4) pa_nil))) pa_nil))) rfl)
        (pss_one (ps_ret (pe_lst (pa_cons (pe_callB (call_len_seq) (by rfl) T.z_len PySem.boot_len (pa_cons (pe_fld (pv 5) rfl) pa_nil)) pa_nil))))))))))))), ?_⟩
    refine ⟨_, rfl, a, _, rfl, SqL.of ha, rfl, _, _, rfl, _, _, rfl, _, _, rfl, rfl, ?_⟩
    refine ⟨_, rfl, _, _, _, rfl, fun h1 h2 => ?_, fun z => qe _ (want_1 fun y => z y.1)⟩
    refine ⟨_, rfl, _, _, _, rfl, fun h3 h4 => ?_, fun z => qe _ (want_1 fun y => z y.2.1)⟩
    refine ⟨_, rfl, _, _, _, rfl, fun h5 h6 => ?_, fun z => qe _ (want_1 fun y => z y.2.2)⟩
    have W : Wn n b k := ⟨⟨h1, h2⟩, ⟨h3, h4⟩, ⟨h5, h6⟩⟩
    refine ⟨_, rfl, _, rfl, d, l, s, n, rfl, ⟨dx, t, Y, DD⟩, fun hp => ?_, fun hp => qe _ (want_4 W (none_of_ge hp))⟩
    obtain ⟨x, hx⟩ := some_of_lt h1 hp
    refine ⟨_, rfl, _, rfl, d, c.D, dx, _, _, rfl, hd, T.clD, T.nD_town, de_town, t, c.T, dt, _, _, rfl, TT.obj, T.clT, T.nT_length, to_length, _, _, rfl, rfl, _, _, rfl, rfl, 5, rfl, _, _, rfl, fun z5 => ?_, fun z5 => qe _ (want_5 W hx (by have := of_decide_eq_false z5; unfold Vbkoah.whole; omega))⟩
    have z5 : ¬ Vbkoah.whole s.w - 2 < k := by have := of_decide_eq_true z5; unfold Vbkoah.whole; omega
    obtain ⟨pp, u, dd, hpp, hu, hdd⟩ := TT.places hx
    obtain ⟨dp, st, ea, aa, hh, PA⟩ := TT.post _ x pp hx hpp
    obtain ⟨tw, htw, hpw⟩ := id PA.wa
    have n2 : ((n.toNat : Nat) : Int) = n := by omega
    refine ⟨_, rfl, d, c.D, dx, _, _, rfl, hd, T.clD, T.nD_town, de_town, t, c.T, dt, _, _, rfl, TT.obj, T.clT, T.nT_posts, to_posts, _, rfl, Y.lp, _, _, _, rfl, rfl, SqL.of TT.pl, by rw [← n2]; exact atI_nat (ref_at hpp), ?_⟩
    refine ⟨_, rfl, pp, c.P, dp, _, _, rfl, PA.obj, T.clP, T.nP_wants, po_wants, aa, _, rfl, .inl (SqL.of htw), _, _, rfl, rfl, 7, rfl, _, _, rfl, fun z7 => ?_, fun z7 => qe _ (want_7 W hx z5 ?_)⟩
    rotate_left
    · rw [List.length_map, hpw.length, List.length_map] at z7
      have := of_decide_eq_false z7
      omega
    rw [List.length_map, hpw.length, List.length_map] at z7
    have z7 : ¬ 6 ≤ x.wants.length := by have := of_decide_eq_true z7; omega
    have e := want_ok W hx z5 z7
    refine ⟨_, rfl, pp, c.P, dp, _, _, rfl, PA.obj, T.clP, T.nP_wants, po_wants, _, rfl, _, rfl, (by show 2 ≤ sizeLine; decide), fun u hu => ⟨(by show 1 ≤ sizeLine; decide), fun g hg => ?_⟩⟩
    have smu : Same H (upd H u (.tup [.int b, .int k])) := Same.upd_new hu
    have smg : Same _ (upd (upd H u (.tup [.int b, .int k])) g (.lst [.ref u])) := Same.upd_new hg
    have hgl : (upd (upd H u (.tup [.int b, .int k])) g (.lst [.ref u])) g = some (.lst [.ref u]) := upd_same
    have hul := smg _ _ (upd_same (H := H) (a := u) (o := .tup [.int b, .int k]))
    have sm2 : Same H (upd (upd H u (.tup [.int b, .int k])) g (.lst [.ref u])) := smu.trans smg
    generalize upd (upd H u (.tup [.int b, .int k])) g (.lst [.ref u]) = H2 at *
    refine ⟨aa, g, _, _, rfl, rfl, sm2 _ _ htw, hgl, big (by rw [List.length_map, hpw.length, List.length_map]; have := (ok.sbd.at hx).wants; simp only [List.length_singleton]; omega), fun r hr => ?_⟩
    have smr : Same H2 (upd H2 r (.lst (tw.map V.ref ++ [.ref u]))) := Same.upd_new hr
    have hrl : (upd H2 r (.lst (tw.map V.ref ++ [.ref u]))) r = some (.lst (tw.map V.ref ++ [.ref u])) := upd_same
    have sm3 := sm2.trans smr
    have hul := smr _ _ hul
    have hr0 : H r = none := none_back (Ch.of_same (L := fun _ => False) (l := l) sm2) hr
    generalize upd H2 r (.lst (tw.map V.ref ++ [.ref u])) = H3 at *
    have npr : pp ≠ r := ne_of_none PA.obj hr0
    refine ⟨_, rfl, pp, c.P, dp, _, rfl, sm3 _ _ PA.obj, T.clP, T.nP_wants, (by show 4 < 1000; decide), ?_⟩
    rw [po_put_wants]
    have keep3 := PA.same sm3
    have ch : Ch (· = 20 + 10 * n.toNat + 4) l H (setL l r (20 + 10 * n.toNat + 2)) (upd H3 pp (.ins c.P dp (poF st ea r hh))) := (Ch.of_same_set sm3 hr0).trans (Ch.upd (sm3 _ _ PA.obj) (by intro xs z; cases z) (by rw [setL_ne npr]; exact PA.lp))
    have ch3 : Ch (· = 20 + 10 * n.toNat + 4) (setL l r (20 + 10 * n.toNat + 2)) H3 (setL l r (20 + 10 * n.toNat + 2)) (upd H3 pp (.ins c.P dp (poF st ea r hh))) := Ch.upd (sm3 _ _ PA.obj) (by intro xs z; cases z) (by rw [setL_ne npr]; exact PA.lp)
    have hr4 := ch3.keep _ _ hrl (by rw [setL_same]; omega)
    have rw4 : RowsAt (upd H3 pp (.ins c.P dp (poF st ea r hh))) r ((x.wants ++ [(⟨b.toNat, k.toNat⟩ : Want)]).map wNums) := by
      refine ⟨tw ++ [u], by rw [hr4, List.map_append] <;> rfl, ?_⟩
      rw [List.map_append]
      refine paired_app (TupsAt.mono (fun b' xs e' => ch3.tups _ _ (sm3 _ _ e')) hpw) (.cons ?_ .nil)
      rw [ch3.tups _ _ hul]
      show some (HO.tup [V.int b, V.int k]) = some (HO.tup [V.int ((b.toNat : Nat) : Int), V.int ((k.toNat : Nat) : Int)])
      rw [show ((b.toNat : Nat) : Int) = b by omega, show ((k.toNat : Nat) : Int) = k by omega]
    have PN : PostAt c (upd H3 pp (.ins c.P dp (poF st ea r hh))) (setL l r (20 + 10 * n.toNat + 2)) (20 + 10 * n.toNat) pp { x with wants := x.wants ++ [⟨b.toNat, k.toNat⟩] } := by
      refine ⟨dp, st, ea, r, hh, upd_same, by rw [setL_ne npr]; exact PA.lp, PA.st.keep ch (by omega), PA.kn.keep ch (by rw [PA.lk]; omega), ?_, rw4, setL_same, ch.keep _ _ PA.he (by rw [PA.lh]; omega), ?_⟩
      · obtain ⟨ts1, ht1⟩ := PA.kn.there
        exact (ch.lab _ _ ht1).trans PA.lk
      · exact (ch.lab _ _ PA.he).trans PA.lh
    have TN := TT.put0 (i := n.toNat) (y := { x with wants := x.wants ++ [⟨b.toNat, k.toNat⟩] }) ch (fun m z => by rw [z]; exact ⟨by omega, by omega⟩) (fun p' h' => by rw [hpp] at h'; cases h'; exact PN)
      (fun p' h' => (TT.up _ x p' hx h').keep ch (by omega)) (fun p' h' => (TT.down _ x p' hx h').keep ch (by omega))
    refine ⟨_, rfl, pp, c.P, dp, _, _, rfl, upd_same, T.clP, T.nP_wants, po_wants, r, _, rfl, .inl (SqL.of hr4), (by show 1 ≤ sizeLine; decide), ?_⟩
    refine fin q e (DeskAt.put DD ch (by omega) ⟨dt, TN⟩) (ch.mono fun m z y => by omega) ?_
    rw [List.length_append, List.length_map, hpw.length, List.length_map]
    rfl
end
end Pp

set_option Elab.async false
set_option linter.all false
set_option maxRecDepth 100000
set_option maxHeartbeats 2000000
namespace Pp
open PySem PySem.Spec PyProof.Rows L2
open Vbkoah (Lease HomeRec PostRec Up Down Want endedAt endOf hasBack willDo hasGiven says sendTo homeNums postNums upNums downNums)
theorem TAt.putHome2 {c : Ad} {l l' : Lab} {H H' : Hp} {t dx : Addr} {Y : Lay} {s : SState} {recs : List HomeRec} (A : TAt c H l t dx Y s) (ch : Ch (· = 4) l H l' H') (hh : HomeAt c H' l' 4 Y.h recs s.safe) : TAt c H' l' t dx Y { s with recs := recs } where
  obj := ch.keep _ _ A.obj (by rw [A.lt]; omega)
  lt := (ch.lab _ _ A.obj).trans A.lt
  pl := ch.keep _ _ A.pl (by rw [A.lpl]; omega)
  ul := ch.keep _ _ A.ul (by rw [A.lul]; omega)
  dl := ch.keep _ _ A.dl (by rw [A.ldl]; omega)
  lpl := (ch.lab _ _ A.pl).trans A.lpl
  lul := (ch.lab _ _ A.ul).trans A.lul
  ldl := (ch.lab _ _ A.dl).trans A.ldl
  np := A.np
  nu := A.nu
  nd := A.nd
  home := hh
  post := fun i x p h1 h2 => (A.post i x p h1 h2).keep ch fun m hm z => by have := hm.1; omega
  up := fun i x p h1 h2 => (A.up i x p h1 h2).keep ch (by omega)
  down := fun i x p h1 h2 => (A.down i x p h1 h2).keep ch (by omega)
theorem calmP_succ : ∀ (k : Nat) (s : SState), calmP (k + 1) s = calmDayP (calmP k s)
  | 0, s => rfl
  | k + 1, s => calmP_succ k (calmDayP s)
theorem calmDayP_len {s : SState} : (calmDayP s).posts.length = s.posts.length := by
  have n1 : (allSafeP s).posts.length = s.posts.length := fold_len (fun s p => safeAt_len) _
  have n2 : (ticksP (allSafeP s)).posts.length = s.posts.length := (fold_len (fun s p => tickAt_len) _).trans n1
  have n3 : (drainUpsP (ticksP (allSafeP s))).posts.length = s.posts.length := (fold_len (fun s p => drainUpP_len) _).trans n2
  have n4 : (allSafeP (drainUpsP (ticksP (allSafeP s)))).posts.length = s.posts.length := (fold_len (fun s p => safeAt_len) _).trans n3
  have n5 : (drainDownsP (allSafeP (drainUpsP (ticksP (allSafeP s))))).posts.length = s.posts.length := (fold_len (fun s p => drainDownP_len) _).trans n4
  have eC : calmDayP s = { drainDownsP (allSafeP (drainUpsP (ticksP (allSafeP s)))) with day := (drainDownsP (allSafeP (drainUpsP (ticksP (allSafeP s))))).day + 1 } := rfl
  rw [eC]
  generalize drainDownsP (allSafeP (drainUpsP (ticksP (allSafeP s)))) = S5 at n5 ⊢
  exact n5
theorem calmP_len {s : SState} : ∀ k, (calmP k s).posts.length = s.posts.length
  | 0 => rfl
  | k + 1 => by rw [calmP_succ, calmDayP_len]; exact calmP_len k
section
variable {P : Program} {w : World} {K : PySem.W.Frag} {mg : Str → Option Value} {base : Heap} {c : Ad} {fI : Addr}
theorem ok_safe (T : Txt K mg c fI) {fG_demand_in : Addr} {fdG_demand_in : FuncData} (G_demand_in : FG P w K mg base (L2.CX P w) 4 "demand_in" ["number", "low", "high"] (spDemandIn c) fG_demand_in fdG_demand_in) {fG_station_of : Addr} {fdG_station_of : FuncData} (G_station_of : FG P w K mg base (L2.CX P w) 5 "station_of" ["desk", "number"] (spStationOf c) fG_station_of fdG_station_of) {fM_Station_make_safe : Addr} {fdM_Station_make_safe : FuncData} (M_Station_make_safe : MG P w K mg base c.S 1 "make_safe" ["self", "many"] (spMakeSafe c) fM_Station_make_safe fdM_Station_make_safe) {f : Addr} {fd : FuncData} (F : Fun K "safe" "safe" s_safe f fd) : FnOk P w K mg base (L2.CX P w) 6 f fd ["desk", "numbers"] (spDeed c 2 cSafe) := by
  refine F.okX sc_safe (fun vs H Q E h => ?_) (fun cdv A outer s H vs Q E hr h => ?_)
  · obtain ⟨d, a, l, s, ns, rfl, _⟩ := h
    rfl
  · obtain ⟨d, a, l, s, ns, rfl, ⟨dx, t, Y, DD⟩, ha, la, hl, ok, q, qe⟩ := h
    obtain ⟨n, m, rfl⟩ := len2 hl
    obtain ⟨hd, ld, dt, TT⟩ := id DD
    refine ⟨_, (pss_cons (ps_expr (pe_call G_demand_in.ok (hr.mono (by decide)) rfl G_demand_in.g G_demand_in.kp G_demand_in.b .nil xpass (pa_cons (pe_ix ix_list (pv 1) pe_int (fun _ _ => rfl)) (pa_cons pe_int (pa_cons (pe_gint rfl T.i_HOME) pa_nil)))))
        (pss_cons (ps_expr (pe_call G_demand_in.ok (hr.mono (by decide)) rfl G_demand_in.g G_demand_in.kp G_demand_in.b .nil xpass (pa_cons (pe_ix ix_list (pv 1) pe_int (fun _ _ => rfl)) (pa_cons pe_int (pa_cons pe_int pa_nil)))))
        (pss_cons (ps_set (i := 2) sc_safe.nd rfl (Or.inl rfl) (pe_call G_station_of.ok (hr.mono (by decide)) rfl G_station_of.g G_station_of.kp G_station_of.b .nil xpass (pa_cons (pv 0) (pa_cons (pe_ix ix_list (pv 1) pe_int (fun _ _ => rfl)) pa_nil))))
        (pss_cons (ps_expr (pe_meth (pv 2) T.clS M_Station_make_safe.m M_Station_make_safe.ok (hr.mono (by decide)) M_Station_make_safe.b .nil pass0 (pa_cons (pe_ix ix_list (pv 1) pe_int (fun _ _ => rfl)) pa_nil)))
        (pss_one (ps_ret (pe_lst (pa_cons (pe_fld (pv 2) rfl) pa_nil)))))))), ?_⟩
    refine ⟨_, rfl, a, _, _, _, rfl, rfl, SqL.of ha, rfl, _, _, _, rfl, fun h1 h2 => ?_, fun z => qe _ (safe_1 fun y => z y.1)⟩
    refine ⟨_, rfl, a, _, _, _, rfl, rfl, SqL.of ha, rfl, _, _, _, rfl, fun h3 h4 => ?_, fun z => qe _ (safe_1 fun y => z y.2)⟩
    have W : Kn n m := ⟨⟨h1, h2⟩, ⟨h3, h4⟩⟩
    obtain ⟨k, rfl⟩ : ∃ k : Nat, m = (k : Int) := ⟨m.toNat, by omega⟩
    refine ⟨_, rfl, _, rfl, a, _, _, _, rfl, rfl, SqL.of ha, rfl, d, dx, t, l, Y, s, n, rfl, DD, h1, fun z dh hs hh => ?_, fun z hp pp dp st ea aa he hpp hob => ?_, fun z hp => qe _ (safe_4 W z (none_of_ge hp))⟩
    · subst z
      have e := safe_3 (s := s) W
      obtain ⟨dh', hs', hh', lh, st⟩ := id TT.home
      have eq := hh'
      rw [hh] at eq
      have eq := hoF_st (ins_fs eq)
      subst eq
      obtain ⟨dz, r, hz, hz2⟩ := id st
      refine ⟨_, rfl, hs, dz, _, rfl, hz, st_no_make_safe, _, rfl, a, _, _, _, rfl, rfl, SqL.of ha, rfl, hs, l, 4, _, _, k, rfl, st, fun H1 l1 st1 ch => ?_⟩
      rw [List.length_map] at st1
      rw [Int.toNat_natCast] at e
      obtain ⟨dy, r1, hy, hy2⟩ := id st1
      refine ⟨_, rfl, hs, c.S, dy, _, _, rfl, hy, T.clS, T.nS_sure, st_sure, (by show 1 ≤ sizeLine; decide), ?_⟩
      have hm := HomeAt.put hh' lh ch st1
      have D2 := DeskAt.put DD ch (by omega) ⟨dt, TT.putHome (safe := max s.safe (min k s.recs.length)) ch hm⟩
      refine fin q e D2 (ch.mono fun m z y => by omega) ?_
      rfl
    · obtain ⟨x, hx⟩ := some_of_lt h1 hp
      have e := safe_ok W z hx
      obtain ⟨dp', st', ea', aa', he', PA⟩ := TT.post _ x pp hx hpp
      have eo := PA.obj
      rw [hob] at eo
      have eo := poF_st (ins_fs eo)
      subst eo
      obtain ⟨dz, r, hz, hz2⟩ := id PA.st
      refine ⟨_, rfl, st, dz, _, rfl, hz, st_no_make_safe, _, rfl, a, _, _, _, rfl, rfl, SqL.of ha, rfl, st, l, _, _, _, k, rfl, PA.st, fun H1 l1 st1 ch => ?_⟩
      rw [List.length_map] at st1
      rw [Int.toNat_natCast] at e
      obtain ⟨dy, r1, hy, hy2⟩ := id st1
      refine ⟨_, rfl, st, c.S, dy, _, _, rfl, hy, T.clS, T.nS_sure, st_sure, (by show 1 ≤ sizeLine; decide), ?_⟩
      refine fin q e (DeskAt.put DD ch (by omega) ⟨dt, TT.put0 ch (fun m z => by rw [z]; exact ⟨by omega, by omega⟩) (fun p' h' => ?_) (fun u' h' => (TT.up _ x u' hx h').keep ch (by omega)) (fun d' h' => (TT.down _ x d' hx h').keep ch (by omega))⟩) (ch.mono fun m z y => by omega) rfl
      rw [hpp] at h'
      cases h'
      have hm := PA.putSt (recs := x.recs) (safe := max x.safe (min k x.recs.length)) ch st1
      exact ⟨_, _, _, _, _, hm⟩
theorem ok_cut (T : Txt K mg c fI) {fG_demand_in : Addr} {fdG_demand_in : FuncData} (G_demand_in : FG P w K mg base (L2.CX P w) 4 "demand_in" ["number", "low", "high"] (spDemandIn c) fG_demand_in fdG_demand_in) {fG_station_of : Addr} {fdG_station_of : FuncData} (G_station_of : FG P w K mg base (L2.CX P w) 5 "station_of" ["desk", "number"] (spStationOf c) fG_station_of fdG_station_of) {fM_Station_lose_unsafe : Addr} {fdM_Station_lose_unsafe : FuncData} (M_Station_lose_unsafe : MG P w K mg base c.S 1 "lose_unsafe" ["self"] (spLose c) fM_Station_lose_unsafe fdM_Station_lose_unsafe) {fM_Post_forget : Addr} {fdM_Post_forget : FuncData} (M_Post_forget : MG P w K mg base c.P 2 "forget" ["self"] (spForget c) fM_Post_forget fdM_Post_forget) {f : Addr} {fd : FuncData} (F : Fun K "cut" "cut" s_cut f fd) : FnOk P w K mg base (L2.CX P w) 6 f fd ["desk", "numbers"] (spDeed c 1 cCut) := by
  refine F.okX sc_cut (fun vs H Q E h => ?_) (fun cdv A outer s H vs Q E hr h => ?_)
  · obtain ⟨d, a, l, s, ns, rfl, _⟩ := h
    rfl
  · obtain ⟨d, a, l, s, ns, rfl, ⟨dx, t, Y, DD⟩, ha, la, hl, ok, q, qe⟩ := h
    obtain ⟨n, rfl⟩ := len1 hl
    obtain ⟨hd, ld, dt, TT⟩ := id DD
    refine ⟨_, (pss_cons (ps_expr (pe_call G_demand_in.ok (hr.mono (by decide)) rfl G_demand_in.g G_demand_in.kp G_demand_in.b .nil xpass (pa_cons (pe_ix ix_list (pv 1) pe_int (fun _ _ => rfl)) (pa_cons pe_int (pa_cons (pe_gint rfl T.i_HOME) pa_nil)))))
        (pss_cons (ps_set (i := 2) sc_cut.nd rfl (Or.inl rfl) (pe_call G_station_of.ok (hr.mono (by decide)) rfl G_station_of.g G_station_of.kp G_station_of.b .nil xpass (pa_cons (pv 0) (pa_cons (pe_ix ix_list (pv 1) pe_int (fun _ _ => rfl)) pa_nil))))
        (pss_cons (ps_if (pt_cmpR op_eq (pe_ix ix_list (pv 1) pe_int (fun _ _ => rfl)) (pe_gint rfl T.i_HOME) (nomark _))
        (pss_one (ps_expr (pe_meth0 (pv 2) T.clS M_Station_lose_unsafe.m M_Station_lose_unsafe.ok (hr.mono (by decide)) M_Station_lose_unsafe.b .nil pass0)))
        (pss_one (ps_expr (pe_meth0 (pe_ix ix_list (pe_fld (pe_fld (pv 0) rfl) rfl) (pe_ix ix_list (pv 1) pe_int (fun _ _ => rfl)) (fun _ _ => rfl)) T.clP M_Post_forget.m M_Post_forget.ok (hr.mono (by decide)) M_Post_forget.b .nil pass0))))
        (pss_one (ps_ret (pe_lst (pa_cons (pe_callB (call_len_seq) (by rfl) T.z_len PySem.boot_len (pa_cons (pe_fld (pv 2) rfl) pa_nil)) pa_nil))))))), ?_⟩
    refine ⟨_, rfl, a, _, _, _, rfl, rfl, SqL.of ha, rfl, _, _, _, rfl, fun h1 h2 => ?_, fun z => qe _ (cut_1 z)⟩
    refine ⟨_, rfl, _, rfl, a, _, _, _, rfl, rfl, SqL.of ha, rfl, d, dx, t, l, Y, s, n, rfl, DD, h1, fun z dh hs hh => ?_, fun z hp pp dp st ea aa he hpp hob => ?_, fun z hp => qe _ (cut_4 ⟨h1, h2⟩ z (none_of_ge hp))⟩
    · subst z
      have e := cut_3 (s := s)
      obtain ⟨dh', hs', hh', lh, st⟩ := id TT.home
      have eq := hh'
      rw [hh] at eq
      have eq := hoF_st (ins_fs eq)
      subst eq
      obtain ⟨dz, r, hz, hz2⟩ := id st
      refine ⟨_, rfl, a, _, _, _, rfl, rfl, SqL.of ha, rfl, rfl, _, rfl, iteT ?_⟩
      refine ⟨_, rfl, hs, dz, _, rfl, hz, st_no_lose_unsafe, hs, l, 4, _, _, rfl, st, fun H1 l1 st1 ch => ?_⟩
      rw [← List.map_take] at st1
      obtain ⟨dy, r1, hy, ⟨ts, hts, hpt⟩, hy3⟩ := id st1
      refine ⟨_, rfl, hs, c.S, dy, _, _, rfl, hy, T.clS, T.nS_records, st_records, r1, _, rfl, .inl (SqL.of hts), (by show 1 ≤ sizeLine; decide), ?_⟩
      refine fin q e (DeskAt.put DD ch (by omega) ⟨dt, TT.putHome2 ch (HomeAt.put hh' lh ch st1)⟩) (ch.mono fun m z y => by omega) ?_
      rw [List.length_map, hpt.length, List.length_map]
      rfl
    · obtain ⟨x, hx⟩ := some_of_lt h1 hp
      have e := cut_ok ⟨h1, h2⟩ z hx
      obtain ⟨dp', st', ea', aa', he', PA⟩ := TT.post _ x pp hx hpp
      have n2 : ((n.toNat : Nat) : Int) = n := by omega
      refine ⟨_, rfl, a, _, _, _, rfl, rfl, SqL.of ha, rfl, rfl, _, rfl, ite2 (fun y => absurd (by have y : V.int n = V.int 3 := of_decide_eq_true y; injection y) z) fun _ => ?_⟩
      obtain ⟨k, rfl⟩ : ∃ k : Nat, n = (k : Int) := ⟨n.toNat, by omega⟩
      rw [Int.toNat_natCast] at hx hpp e PA
      refine ⟨_, rfl, d, c.D, dx, _, _, rfl, hd, T.clD, T.nD_town, de_town, t, c.T, dt, _, _, rfl, TT.obj, T.clT, T.nT_posts, to_posts, _, rfl, a, _, _, _, rfl, rfl, SqL.of ha, rfl, Y.lp, _, _, _, rfl, rfl, SqL.of TT.pl, atI_nat (ref_at hpp), pp, dp', _, rfl, PA.obj, po_no_forget, ?_⟩
      have eo := PA.obj
      rw [hob] at eo
      have eo := poF_st (ins_fs eo)
      subst eo
      refine ⟨pp, l, _, x, dp', _, _, _, _, rfl, PA, fun H1 l1 e1 a1 h1 P1 ch => ?_⟩
      obtain ⟨dy, r1, hy, ⟨ts, hts, hpt⟩, hy3⟩ := id P1.st
      refine ⟨_, rfl, st, c.S, dy, _, _, rfl, hy, T.clS, T.nS_records, st_records, r1, _, rfl, .inl (SqL.of hts), (by show 1 ≤ sizeLine; decide), ?_⟩
      refine fin q e (DeskAt.put DD ch (fun z => by have := z.1; omega) ⟨dt, TT.put0 ch (fun m z => ⟨by have := z.1; omega, by have := z.2; omega⟩) (fun p' h' => ?_) (fun u' h' => (TT.up _ x u' hx h').keep ch fun z => by have := z.2; omega) (fun d' h' => (TT.down _ x d' hx h').keep ch fun z => by have := z.2; omega)⟩) (ch.mono fun m z y => by have := z.1; omega) ?_
      · rw [hpp] at h'
        cases h'
        exact ⟨_, _, _, _, _, P1⟩
      · rw [List.length_map, hpt.length, List.length_map]
        rfl
theorem ok_day (T : Txt K mg c fI) {fG_demand : Addr} {fdG_demand : FuncData} (G_demand : FG P w K mg base (L2.CX P w) 3 "demand" ["is_good", "number"] (spDemand c) fG_demand fdG_demand) {f : Addr} {fd : FuncData} (F : Fun K "day" "day" s_day f fd) : FnOk P w K mg base (L2.CX P w) 4 f fd ["desk", "numbers"] (spDeed c 0 cDay) := by
  refine F.okX sc_day (fun vs H Q E h => ?_) (fun cdv A outer s H vs Q E hr h => ?_)
  · obtain ⟨d, a, l, s, ns, rfl, _⟩ := h
    rfl
  · obtain ⟨d, a, l, s, ns, rfl, ⟨dx, t, Y, DD⟩, ha, la, hl, ok, q, qe⟩ := h
    obtain rfl := len0 hl
    obtain ⟨hd, ld, dt, TT⟩ := id DD
    refine ⟨_, (pss_cons (ps_expr (pe_call G_demand.ok (hr.mono (by decide)) rfl G_demand.g G_demand.kp G_demand.b .nil xpass (pa_cons (pe_cmpR op_lt (pe_fld (pe_fld (pv 0) rfl) rfl) (pe_gint rfl T.i_LAST_DAY) (nomark _)) (pa_cons (pe_un un_neg pe_int) pa_nil))))
        (pss_cons (ps_fldaug (pe_fld (pv 0) rfl) pe_int in_add)
        (pss_one (ps_ret (pe_lst (pa_cons (pe_fld (pe_fld (pv 0) rfl) rfl) pa_nil)))))), ?_⟩
    refine ⟨_, rfl, d, c.D, dx, _, _, rfl, hd, T.clD, T.nD_town, de_town, t, c.T, dt, _, _, rfl, TT.obj, T.clT, T.nT_today, to_today, _, _, rfl, rfl, 7, rfl, _, _, rfl, fun z => ?_, fun z => qe _ (day_7 fun y => by have := of_decide_eq_false z; omega)⟩
    have z : s.day < 900 := by have := of_decide_eq_true z; omega
    have e := day_ok z
    refine ⟨_, rfl, d, c.D, dx, _, _, rfl, hd, T.clD, T.nD_town, de_town, t, c.T, dt, _, _, rfl, TT.obj, T.clT, T.nT_today, to_today, _, _, rfl, rfl, dt, _, TT.obj, (by show 6 < 1000; decide), ?_⟩
    rw [to_put_today]
    have ch : Ch (· = 2) l H l (upd H t (.ins c.T dt (toF Y.h Y.lp Y.lu Y.ld (s.w : Int) ((s.day : Int) + 1)))) := Ch.upd TT.obj (by intro xs z; cases z) TT.lt
    have D2 := DeskAt.put DD ch (by omega) ⟨dt, TT.putDay (day := s.day + 1) ch upd_same⟩
    obtain ⟨hd2, _⟩ := DD.put ch (by omega) ⟨dt, TT.putDay (day := s.day + 1) ch upd_same⟩
    refine ⟨_, rfl, d, c.D, dx, _, _, rfl, hd2, T.clD, T.nD_town, de_town, t, c.T, dt, _, _, rfl, upd_same, T.clT, T.nT_today, to_today, (by show 1 ≤ sizeLine; decide), ?_⟩
    exact fin q e D2 (ch.mono fun m z y => by omega) rfl
theorem ok_calm (T : Txt K mg c fI) {fG_demand : Addr} {fdG_demand : FuncData} (G_demand : FG P w K mg base (L2.CX P w) 3 "demand" ["is_good", "number"] (spDemand c) fG_demand fdG_demand) {fG_demand_in : Addr} {fdG_demand_in : FuncData} (G_demand_in : FG P w K mg base (L2.CX P w) 4 "demand_in" ["number", "low", "high"] (spDemandIn c) fG_demand_in fdG_demand_in) {fM_Town_calm_day : Addr} {fdM_Town_calm_day : FuncData} (M_Town_calm_day : MG P w K mg base c.T 7 "calm_day" ["self"] (spCalmDay c) fM_Town_calm_day fdM_Town_calm_day) {f : Addr} {fd : FuncData} (F : Fun K "calm" "calm" s_calm f fd) : FnOk P w K mg base (L2.CX P w) 8 f fd ["desk", "numbers"] (spDeed c 1 cCalm) := by
  refine F.okX sc_calm (fun vs H Q E h => ?_) (fun cdv A outer s H vs Q E hr h => ?_)
  · obtain ⟨d, a, l, s, ns, rfl, _⟩ := h
    rfl
  · obtain ⟨d, a, l, s, ns, rfl, ⟨dx, t, Y, DD⟩, ha, la, hl, ok, q, qe⟩ := h
    obtain ⟨n, rfl⟩ := len1 hl
    obtain ⟨hd, ld, dt, TT⟩ := id DD
    refine ⟨_, (pss_cons (ps_expr (pe_call G_demand_in.ok (hr.mono (by decide)) rfl G_demand_in.g G_demand_in.kp G_demand_in.b .nil xpass (pa_cons (pe_ix ix_list (pv 1) pe_int (fun _ _ => rfl)) (pa_cons pe_int (pa_cons pe_int pa_nil)))))
        (pss_cons (ps_expr (pe_call G_demand.ok (hr.mono (by decide)) rfl G_demand.g G_demand.kp G_demand.b .nil xpass (pa_cons (pe_cmpR op_le (pe_op op_add (pe_fld (pe_fld (pv 0) rfl) rfl) (pe_ix ix_list (pv 1) pe_int (fun _ _ => rfl))) (pe_gint rfl T.i_LAST_DAY) (nomark _)) (pa_cons (pe_un un_neg pe_int) pa_nil))))
        (pss_cons (ps_for xown rfl (pi_range1 rfl T.z_range (pa_cons (pe_ix ix_list (pv 1) pe_int (fun _ _ => rfl)) pa_nil)) (pg_name (i := 2) sc_calm.nd rfl (Or.inl rfl))
        (pss_one (ps_expr (pe_meth0 (pe_fld (pv 0) rfl) T.clT M_Town_calm_day.m M_Town_calm_day.ok (hr.mono (by decide)) M_Town_calm_day.b .nil pass0))))
        (pss_one (ps_ret (pe_lst (pa_cons (pe_fld (pe_fld (pv 0) rfl) rfl) pa_nil))))))), ?_⟩
    refine ⟨_, rfl, a, _, _, _, rfl, rfl, SqL.of ha, rfl, _, _, _, rfl, fun h1 h2 => ?_, fun z => qe _ (calm_1 z)⟩
    obtain ⟨k, rfl⟩ : ∃ k : Nat, n = (k : Int) := ⟨n.toNat, by omega⟩
    refine ⟨_, rfl, d, c.D, dx, _, _, rfl, hd, T.clD, T.nD_town, de_town, t, c.T, dt, _, _, rfl, TT.obj, T.clT, T.nT_today, to_today, _, rfl, a, _, _, _, rfl, rfl, SqL.of ha, rfl, _, _, rfl, rfl, _, _, rfl, rfl, 7, rfl, _, _, rfl, fun z => ?_, fun z => qe _ (calm_7 ⟨h1, h2⟩ ?_)⟩
    rotate_left
    · have := of_decide_eq_false z
      rw [Int.toNat_natCast]
      omega
    have e := calm_ok (s := s) ⟨h1, h2⟩ (by have := of_decide_eq_true z; rw [Int.toNat_natCast]; omega)
    rw [Int.toNat_natCast] at e
    refine ⟨_, rfl, a, _, _, _, rfl, rfl, SqL.of ha, rfl, _, rfl, by omega, by omega, ?_⟩
    rw [Int.toNat_natCast]
    refine for_range (lo := 0) (n := k) (fun i σ H' => ∃ l' v2, σ = [some (.ref d), some (.ref a), v2] ∧ DAt c H' l' d dx t Y (calmP i s) ∧ Ch TA l H l' H') ⟨l, _, rfl, DD, Ch.refl⟩ ?_ ?_
    · rintro i σ H' hi ⟨l', v2, rfl, D1, ch⟩
      obtain ⟨hd1, ld1, dt1, T1⟩ := id D1
      refine ⟨_, rfl, d, c.D, dx, _, _, rfl, hd1, T.clD, T.nD_town, de_town, t, dt1, _, rfl, T1.obj, to_no_calm_day, t, l', Y, _, rfl, ⟨dt1, T1⟩, ok.bd i, (by rw [calmP_len]; have := ok.few; omega), fun H2 l2 T2 ch2 => ⟨l2, _, rfl, ?_, ch.trans ch2⟩⟩
      rw [calmP_succ]
      exact D1.put ch2 nTA1 T2
    · rintro σ H2 ⟨l2, v2, rfl, D2, ch2⟩
      obtain ⟨hd2, ld2, dt2, T2⟩ := id D2
      refine ⟨_, rfl, d, c.D, dx, _, _, rfl, hd2, T.clD, T.nD_town, de_town, t, c.T, dt2, _, _, rfl, T2.obj, T.clT, T.nT_today, to_today, (by show 1 ≤ sizeLine; decide), ?_⟩
      exact fin q e ⟨dx, t, Y, D2⟩ (ch2.mono fun m z y => by rw [y] at z; rcases z with z | z | z <;> omega) rfl
end
end Pp

set_option Elab.async false
set_option linter.all false
set_option maxRecDepth 100000
set_option maxHeartbeats 2000000
namespace Pp
open PySem PySem.Spec PyProof.Rows L2
open Vbkoah (Lease HomeRec PostRec Up Down Want endedAt endOf hasBack willDo hasGiven says sendTo homeNums postNums upNums downNums)
theorem map_erase {α β : Type} (f : α → β) (l : List α) (i : Nat) : (l.map f).eraseIdx i = (l.eraseIdx i).map f := by
  rw [eraseIdx_eq, eraseIdx_eq, List.map_append, List.map_take, List.map_drop]
theorem map_twice {α β : Type} (f : α → β) (l : List α) (i : Nat) : (l.map f).take (i + 1) ++ (l.map f).drop i = (Vbkoah.twice l i).map f := by
  rw [twice_eq, List.map_append, List.map_take, List.map_drop]
theorem TAt.putUp {c : Ad} {l l' : Lab} {H H' : Hp} {t dx u : Addr} {Y : Lay} {s : SState} {i : Nat} {x : SPost} {ups : List Up} (A : TAt c H l t dx Y s) (hx : s.posts[i]? = some x) (hu : Y.us[i]? = some u) (ch : Ch (· = 25 + 10 * i) l H l' H') (wA : WireAt c H' l' (25 + 10 * i) u (ups.map upNums)) : TAt c H' l' t dx Y (setP s i { x with up := ups }) := by
  refine A.put0 ch (fun m z => by rw [z]; exact ⟨by omega, by omega⟩) (fun p' h' => ?_) (fun u' h' => ?_) (fun d' h' => (A.down i x d' hx h').keep ch (by omega))
  · exact PostAt.keep (PostAt.like (A.post i x p' hx h') rfl rfl rfl rfl rfl) ch fun m hm z => by have := hm.2; omega
  · rw [hu] at h'
    cases h'
    exact wA
theorem TAt.putDown {c : Ad} {l l' : Lab} {H H' : Hp} {t dx u : Addr} {Y : Lay} {s : SState} {i : Nat} {x : SPost} {ds : List Down} (A : TAt c H l t dx Y s) (hx : s.posts[i]? = some x) (hu : Y.ds[i]? = some u) (ch : Ch (· = 26 + 10 * i) l H l' H') (wA : WireAt c H' l' (26 + 10 * i) u (ds.map downNums)) : TAt c H' l' t dx Y (setP s i { x with down := ds }) := by
  refine A.put0 ch (fun m z => by rw [z]; exact ⟨by omega, by omega⟩) (fun p' h' => ?_) (fun u' h' => (A.up i x u' hx h').keep ch (by omega)) (fun d' h' => ?_)
  · exact PostAt.keep (PostAt.like (A.post i x p' hx h') rfl rfl rfl rfl rfl) ch fun m hm z => by have := hm.2; omega
  · rw [hu] at h'
    cases h'
    exact wA
theorem erase_len {α : Type} {l : List α} {i : Nat} (h : i < l.length) : (l.eraseIdx i).length = l.length - 1 := by
  rw [eraseIdx_eq, List.length_append, List.length_take, List.length_drop]
  omega
theorem twice_len {α : Type} {l : List α} {i : Nat} (h : i < l.length) : (Vbkoah.twice l i).length = l.length + 1 := by
  rw [twice_eq, List.length_append, List.length_take, List.length_drop]
  omega
theorem nd_f {p : Prop} [Decidable p] (h : (!decide p) = false) : p := by
  cases y : decide p with
  | true => exact of_decide_eq_true y
  | false => rw [y] at h; cases h
theorem nd_t {p : Prop} [Decidable p] (h : (!decide p) = true) : ¬ p := fun y => by rw [decide_eq_true y] at h; cases h
section
variable {P : Program} {w : World} {K : PySem.W.Frag} {mg : Str → Option Value} {base : Heap} {c : Ad} {fI : Addr}
theorem ok_lose (T : Txt K mg c fI) {fG_frame_wire : Addr} {fdG_frame_wire : FuncData} (G_frame_wire : FG P w K mg base (L2.CX P w) 5 "frame_wire" ["desk", "numbers"] (spFrameWire c) fG_frame_wire fdG_frame_wire) {fM_Wire_take : Addr} {fdM_Wire_take : FuncData} (M_Wire_take : MG P w K mg base c.W 1 "take" ["self", "place"] (spTake c) fM_Wire_take fdM_Wire_take) {f : Addr} {fd : FuncData} (F : Fun K "lose" "lose" s_lose f fd) : FnOk P w K mg base (L2.CX P w) 6 f fd ["desk", "numbers"] (spDeed c 3 cLose) := by
  refine F.okX sc_lose (fun vs H Q E h => ?_) (fun cdv A outer s H vs Q E hr h => ?_)
  · obtain ⟨d, a, l, s, ns, rfl, _⟩ := h
    rfl
  · obtain ⟨d, a, l, s, ns, rfl, ⟨dx, t, Y, DD⟩, ha, la, hl, ok, q, qe⟩ := h
    obtain ⟨v, n, i, rfl⟩ := len3 hl
    obtain ⟨hd, ld, dt, TT⟩ := id DD
    refine ⟨_, (pss_cons (ps_set (i := 2) sc_lose.nd rfl (Or.inl rfl) (pe_call G_frame_wire.ok (hr.mono (by decide)) rfl G_frame_wire.g G_frame_wire.kp G_frame_wire.b .nil xpass (pa_cons (pv 0) (pa_cons (pv 1) pa_nil))))
        (pss_cons (ps_expr (pe_meth (pv 2) T.clW M_Wire_take.m M_Wire_take.ok (hr.mono (by decide)) M_Wire_take.b .nil pass0 (pa_cons (pe_ix ix_list (pv 1) pe_int (fun _ _ => rfl)) pa_nil)))
        (pss_one (ps_ret (pe_lst (pa_cons (pe_callB (call_len_seq) (by rfl) T.z_len PySem.boot_len (pa_cons (pe_fld (pv 2) rfl) pa_nil)) pa_nil)))))), ?_⟩
    refine ⟨_, rfl, _, rfl, d, dx, t, a, l, Y, s, v, n, i, rfl, DD, ha, fun R => qe _ (lose_no fun f => onRow_1 R), fun R hx => qe _ (lose_no fun f => onRow_4 R hx), fun R x hx hi => qe _ (lose_no fun f => onRow_6 R hx hi), fun R x hx hi => ⟨fun hv u hu => ?_, fun hv u hu => ?_⟩⟩
    · subst hv
      have hi : i.toNat < x.up.length := hi
      obtain ⟨f, hf⟩ := get_of_lt hi
      have e := lose_up R hx hi
      have wA := TT.up _ x u hx hu
      obtain ⟨dw, fr, hwi, _⟩ := id wA
      have R0 := R.2.2
      obtain ⟨j, rfl⟩ : ∃ k : Nat, i = (k : Int) := ⟨i.toNat, by omega⟩
      rw [Int.toNat_natCast] at hf e hi
      refine ⟨_, rfl, u, dw, _, rfl, hwi, wi_no_take, _, rfl, a, _, _, _, rfl, rfl, SqL.of ha, rfl, u, l, _, _, j, upNums f, rfl, wA, by rw [List.getElem?_map, hf] <;> rfl, by rw [List.length_map]; have := (ok.sbd.at hx).up; omega, fun H1 l1 tf htf w1 ch => ?_⟩
      rw [map_erase] at w1
      obtain ⟨dy, f1, hy, ⟨ts, hts, hpt⟩, _⟩ := id w1
      refine ⟨_, rfl, u, c.W, dy, _, _, rfl, hy, T.clW, T.nW_frames, wi_frames, f1, _, rfl, .inl (SqL.of hts), (by show 1 ≤ sizeLine; decide), ?_⟩
      refine fin q e (DeskAt.put DD ch (by omega) ⟨dt, TT.putUp hx hu ch w1⟩) (ch.mono fun m z y => by omega) ?_
      rw [List.length_map, hpt.length, List.length_map, erase_len hi]
      rfl
    · have hi : i.toNat < x.down.length := by rw [rowLen, if_neg hv] at hi; exact hi
      obtain ⟨f, hf⟩ := get_of_lt hi
      have e := lose_down hv R hx hi
      have wA := TT.down _ x u hx hu
      obtain ⟨dw, fr, hwi, _⟩ := id wA
      have R0 := R.2.2
      obtain ⟨j, rfl⟩ : ∃ k : Nat, i = (k : Int) := ⟨i.toNat, by omega⟩
      rw [Int.toNat_natCast] at hf e hi
      refine ⟨_, rfl, u, dw, _, rfl, hwi, wi_no_take, _, rfl, a, _, _, _, rfl, rfl, SqL.of ha, rfl, u, l, _, _, j, downNums f, rfl, wA, by rw [List.getElem?_map, hf] <;> rfl, by rw [List.length_map]; have := (ok.sbd.at hx).down; omega, fun H1 l1 tf htf w1 ch => ?_⟩
      rw [map_erase] at w1
      obtain ⟨dy, f1, hy, ⟨ts, hts, hpt⟩, _⟩ := id w1
      refine ⟨_, rfl, u, c.W, dy, _, _, rfl, hy, T.clW, T.nW_frames, wi_frames, f1, _, rfl, .inl (SqL.of hts), (by show 1 ≤ sizeLine; decide), ?_⟩
      refine fin q e (DeskAt.put DD ch (by omega) ⟨dt, TT.putDown hx hu ch w1⟩) (ch.mono fun m z y => by omega) ?_
      rw [List.length_map, hpt.length, List.length_map, erase_len hi]
      rfl
theorem ok_double (T : Txt K mg c fI) {fG_demand : Addr} {fdG_demand : FuncData} (G_demand : FG P w K mg base (L2.CX P w) 3 "demand" ["is_good", "number"] (spDemand c) fG_demand fdG_demand) {fG_frame_wire : Addr} {fdG_frame_wire : FuncData} (G_frame_wire : FG P w K mg base (L2.CX P w) 5 "frame_wire" ["desk", "numbers"] (spFrameWire c) fG_frame_wire fdG_frame_wire) {fM_Wire_twice : Addr} {fdM_Wire_twice : FuncData} (M_Wire_twice : MG P w K mg base c.W 1 "twice" ["self", "place"] (spTwice c) fM_Wire_twice fdM_Wire_twice) {fM_Wire_is_full : Addr} {fdM_Wire_is_full : FuncData} (M_Wire_is_full : MG P w K mg base c.W 1 "is_full" ["self"] (spFull c) fM_Wire_is_full fdM_Wire_is_full) {f : Addr} {fd : FuncData} (F : Fun K "double" "double" s_double f fd) : FnOk P w K mg base (L2.CX P w) 6 f fd ["desk", "numbers"] (spDeed c 3 cDouble) := by
  refine F.okX sc_double (fun vs H Q E h => ?_) (fun cdv A outer s H vs Q E hr h => ?_)
  · obtain ⟨d, a, l, s, ns, rfl, _⟩ := h
    rfl
  · obtain ⟨d, a, l, s, ns, rfl, ⟨dx, t, Y, DD⟩, ha, la, hl, ok, q, qe⟩ := h
    obtain ⟨v, n, i, rfl⟩ := len3 hl
    obtain ⟨hd, ld, dt, TT⟩ := id DD
    refine ⟨_, (pss_cons (ps_set (i := 2) sc_double.nd rfl (Or.inl rfl) (pe_call G_frame_wire.ok (hr.mono (by decide)) rfl G_frame_wire.g G_frame_wire.kp G_frame_wire.b .nil xpass (pa_cons (pv 0) (pa_cons (pv 1) pa_nil))))
        (pss_cons (ps_expr (pe_call G_demand.ok (hr.mono (by decide)) rfl G_demand.g G_demand.kp G_demand.b .nil xpass (pa_cons (pe_not (pe_meth0 (pv 2) T.clW M_Wire_is_full.m M_Wire_is_full.ok (hr.mono (by decide)) M_Wire_is_full.b .nil pass0)) (pa_cons (pe_un un_neg pe_int) pa_nil))))
        (pss_cons (ps_expr (pe_meth (pv 2) T.clW M_Wire_twice.m M_Wire_twice.ok (hr.mono (by decide)) M_Wire_twice.b .nil pass0 (pa_cons (pe_ix ix_list (pv 1) pe_int (fun _ _ => rfl)) pa_nil)))
        (pss_one (ps_ret (pe_lst (pa_cons (pe_callB (call_len_seq) (by rfl) T.z_len PySem.boot_len (pa_cons (pe_fld (pv 2) rfl) pa_nil)) pa_nil))))))), ?_⟩
    refine ⟨_, rfl, _, rfl, d, dx, t, a, l, Y, s, v, n, i, rfl, DD, ha, fun R => qe _ (double_no fun f => onRow_1 R), fun R hx => qe _ (double_no fun f => onRow_4 R hx), fun R x hx hi => qe _ (double_no fun f => onRow_6 R hx hi), fun R x hx hi => ⟨fun hv u hu => ?_, fun hv u hu => ?_⟩⟩
    · subst hv
      have hi : i.toNat < x.up.length := hi
      have wA := TT.up _ x u hx hu
      obtain ⟨dw, fr, hwi, _⟩ := id wA
      have R0 := R.2.2
      refine ⟨_, rfl, u, dw, _, rfl, hwi, wi_no_is_full, u, l, _, _, rfl, wA, _, rfl, 7, rfl, _, _, rfl, fun z => ?_, fun z => qe _ (double_7 R hx hi (by have := nd_f z; rw [List.length_map] at this; exact this))⟩
      have z : ¬ 8 ≤ x.up.length := fun y => nd_t z (by rw [List.length_map]; exact y)
      have e := double_up R hx hi z
      obtain ⟨j, rfl⟩ : ∃ k : Nat, i = (k : Int) := ⟨i.toNat, by omega⟩
      rw [Int.toNat_natCast] at e hi
      refine ⟨_, rfl, u, dw, _, rfl, hwi, wi_no_twice, _, rfl, a, _, _, _, rfl, rfl, SqL.of ha, rfl, u, l, _, _, j, rfl, wA, by rw [List.length_map]; omega, fun H1 l1 w1 ch => ?_⟩
      rw [map_twice] at w1
      obtain ⟨dy, f1, hy, ⟨ts, hts, hpt⟩, _⟩ := id w1
      refine ⟨_, rfl, u, c.W, dy, _, _, rfl, hy, T.clW, T.nW_frames, wi_frames, f1, _, rfl, .inl (SqL.of hts), (by show 1 ≤ sizeLine; decide), ?_⟩
      refine fin q e (DeskAt.put DD ch (by omega) ⟨dt, TT.putUp hx hu ch w1⟩) (ch.mono fun m z y => by omega) ?_
      rw [List.length_map, hpt.length, List.length_map, twice_len hi]
      rfl
    · have hi' := hi
      have hi : i.toNat < x.down.length := by rw [rowLen, if_neg hv] at hi; exact hi
      have wA := TT.down _ x u hx hu
      obtain ⟨dw, fr, hwi, _⟩ := id wA
      have R0 := R.2.2
      refine ⟨_, rfl, u, dw, _, rfl, hwi, wi_no_is_full, u, l, _, _, rfl, wA, _, rfl, 7, rfl, _, _, rfl, fun z => ?_, fun z => qe _ (double_7 R hx hi' (by rw [rowLen, if_neg hv]; have := nd_f z; rw [List.length_map] at this; exact this))⟩
      have z : ¬ 8 ≤ x.down.length := fun y => nd_t z (by rw [List.length_map]; exact y)
      have e := double_down hv R hx hi z
      obtain ⟨j, rfl⟩ : ∃ k : Nat, i = (k : Int) := ⟨i.toNat, by omega⟩
      rw [Int.toNat_natCast] at e hi
      refine ⟨_, rfl, u, dw, _, rfl, hwi, wi_no_twice, _, rfl, a, _, _, _, rfl, rfl, SqL.of ha, rfl, u, l, _, _, j, rfl, wA, by rw [List.length_map]; omega, fun H1 l1 w1 ch => ?_⟩
      rw [map_twice] at w1
      obtain ⟨dy, f1, hy, ⟨ts, hts, hpt⟩, _⟩ := id w1
      refine ⟨_, rfl, u, c.W, dy, _, _, rfl, hy, T.clW, T.nW_frames, wi_frames, f1, _, rfl, .inl (SqL.of hts), (by show 1 ≤ sizeLine; decide), ?_⟩
      refine fin q e (DeskAt.put DD ch (by omega) ⟨dt, TT.putDown hx hu ch w1⟩) (ch.mono fun m z y => by omega) ?_
      rw [List.length_map, hpt.length, List.length_map, twice_len hi]
      rfl
theorem ok_deliver (T : Txt K mg c fI) {fG_frame_wire : Addr} {fdG_frame_wire : FuncData} (G_frame_wire : FG P w K mg base (L2.CX P w) 5 "frame_wire" ["desk", "numbers"] (spFrameWire c) fG_frame_wire fdG_frame_wire) {fM_Wire_take : Addr} {fdM_Wire_take : FuncData} (M_Wire_take : MG P w K mg base c.W 1 "take" ["self", "place"] (spTake c) fM_Wire_take fdM_Wire_take) {fM_Town_come : Addr} {fdM_Town_come : FuncData} (M_Town_come : MG P w K mg base c.T 5 "come" ["self", "way", "post", "frame"] (spCome c) fM_Town_come fdM_Town_come) {f : Addr} {fd : FuncData} (F : Fun K "deliver" "deliver" s_deliver f fd) : FnOk P w K mg base (L2.CX P w) 6 f fd ["desk", "numbers"] (spDeed c 3 cDeliver) := by
  refine F.okX sc_deliver (fun vs H Q E h => ?_) (fun cdv A outer s H vs Q E hr h => ?_)
  · obtain ⟨d, a, l, s, ns, rfl, _⟩ := h
    rfl
  · obtain ⟨d, a, l, s, ns, rfl, ⟨dx, t, Y, DD⟩, ha, la, hl, ok, q, qe⟩ := h
    obtain ⟨v, n, i, rfl⟩ := len3 hl
    obtain ⟨hd, ld, dt, TT⟩ := id DD
    refine ⟨_, (pss_cons (ps_set (i := 2) sc_deliver.nd rfl (Or.inl rfl) (pe_meth (pe_call G_frame_wire.ok (hr.mono (by decide)) rfl G_frame_wire.g G_frame_wire.kp G_frame_wire.b .nil xpass (pa_cons (pv 0) (pa_cons (pv 1) pa_nil))) T.clW M_Wire_take.m M_Wire_take.ok (hr.mono (by decide)) M_Wire_take.b .nil pass0 (pa_cons (pe_ix ix_list (pv 1) pe_int (fun _ _ => rfl)) pa_nil)))
        (pss_cons (ps_expr (pe_meth (pe_fld (pv 0) rfl) T.clT M_Town_come.m M_Town_come.ok (hr.mono (by decide)) M_Town_come.b .nil pass0 (pa_cons (pe_ix ix_list (pv 1) pe_int (fun _ _ => rfl)) (pa_cons (pe_ix ix_list (pv 1) pe_int (fun _ _ => rfl)) (pa_cons (pv 2) pa_nil)))))
        (pss_one (ps_ret (pe_lst (pa_cons pe_int pa_nil)))))), ?_⟩
    refine ⟨_, rfl, _, rfl, d, dx, t, a, l, Y, s, v, n, i, rfl, DD, ha, fun R => qe _ (deliver_no fun f => onRow_1 R), fun R hx => qe _ (deliver_no fun f => onRow_4 R hx), fun R x hx hi => qe _ (deliver_no fun f => onRow_6 R hx hi), fun R x hx hi => ⟨fun hv u hu => ?_, fun hv u hu => ?_⟩⟩
    · subst hv
      have hi : i.toNat < x.up.length := hi
      obtain ⟨f, hf⟩ := get_of_lt hi
      have e := deliver_up R hx hf
      have wA := TT.up _ x u hx hu
      obtain ⟨dw, fr, hwi, _⟩ := id wA
      have R0 := R.2.2
      have R1 := R.2.1
      obtain ⟨j, rfl⟩ : ∃ k : Nat, i = (k : Int) := ⟨i.toNat, by omega⟩
      obtain ⟨n, rfl⟩ : ∃ k : Nat, n = (k : Int) := ⟨n.toNat, by omega⟩
      rw [Int.toNat_natCast] at hf hi hx hu wA
      rw [Int.toNat_natCast, Int.toNat_natCast] at e
      refine ⟨u, dw, _, rfl, hwi, wi_no_take, _, rfl, a, _, _, _, rfl, rfl, SqL.of ha, rfl, u, l, _, _, j, upNums f, rfl, wA, by rw [List.getElem?_map, hf] <;> rfl, by rw [List.length_map]; have := (ok.sbd.at hx).up; omega, fun H1 l1 tf htf w1 ch => ?_⟩
      rw [map_erase] at w1
      have D1 := DD.put ch (by omega) ⟨dt, TT.putUp hx hu ch w1⟩
      obtain ⟨hd1, ld1, dt1, T1⟩ := id D1
      have ch1 : Ch DA l H l1 H1 := ch.mono fun m z y => by omega
      have ha1 := ch1.keep _ _ ha (by rw [la]; exact fun z => z rfl)
      have hx1 := setP_at (y := { x with up := x.up.eraseIdx j }) hx
      refine ⟨_, rfl, d, c.D, dx, _, _, rfl, hd1, T.clD, T.nD_town, de_town, t, dt1, _, rfl, T1.obj, to_no_come, _, rfl, a, _, _, _, rfl, rfl, SqL.of ha1, rfl, _, rfl, a, _, _, _, rfl, rfl, SqL.of ha1, rfl, _, rfl, ?_⟩
      refine ⟨t, tf, l1, Y, _, 0, n, _, rfl, ⟨dt1, T1⟩, hx1, by have := ok.sbd.recs; show s.recs.length ≤ 900; omega, ok.sbd.w, .inl ⟨rfl, f, htf, fun H2 l2 T2 ch2 => ?_⟩⟩
      refine ⟨by show 1 ≤ sizeLine; decide, ?_⟩
      exact fin q e (DeskAt.put D1 ch2 (fun z => by rcases z with z | z <;> omega) T2) (ch1.trans (ch2.mono fun m z y => by rcases z with z | z <;> omega)) rfl
    · have hi : i.toNat < x.down.length := by rw [rowLen, if_neg hv] at hi; exact hi
      obtain ⟨f, hf⟩ := get_of_lt hi
      have e := deliver_down hv R hx hf
      have wA := TT.down _ x u hx hu
      obtain ⟨dw, fr, hwi, _⟩ := id wA
      have R0 := R.2.2
      have R1 := R.2.1
      have Rv := R.1
      obtain ⟨j, rfl⟩ : ∃ k : Nat, i = (k : Int) := ⟨i.toNat, by omega⟩
      obtain ⟨n, rfl⟩ : ∃ k : Nat, n = (k : Int) := ⟨n.toNat, by omega⟩
      rw [Int.toNat_natCast] at hf hi hx hu wA
      rw [Int.toNat_natCast, Int.toNat_natCast] at e
      refine ⟨u, dw, _, rfl, hwi, wi_no_take, _, rfl, a, _, _, _, rfl, rfl, SqL.of ha, rfl, u, l, _, _, j, downNums f, rfl, wA, by rw [List.getElem?_map, hf] <;> rfl, by rw [List.length_map]; have := (ok.sbd.at hx).down; omega, fun H1 l1 tf htf w1 ch => ?_⟩
      rw [map_erase] at w1
      have D1 := DD.put ch (by omega) ⟨dt, TT.putDown hx hu ch w1⟩
      obtain ⟨hd1, ld1, dt1, T1⟩ := id D1
      have ch1 : Ch DA l H l1 H1 := ch.mono fun m z y => by omega
      have ha1 := ch1.keep _ _ ha (by rw [la]; exact fun z => z rfl)
      have hx1 := setP_at (y := { x with down := x.down.eraseIdx j }) hx
      refine ⟨_, rfl, d, c.D, dx, _, _, rfl, hd1, T.clD, T.nD_town, de_town, t, dt1, _, rfl, T1.obj, to_no_come, _, rfl, a, _, _, _, rfl, rfl, SqL.of ha1, rfl, _, rfl, a, _, _, _, rfl, rfl, SqL.of ha1, rfl, _, rfl, ?_⟩
      have bx := ok.sbd.at hx
      refine ⟨t, tf, l1, Y, _, v, n, _, rfl, ⟨dt1, T1⟩, hx1, by have := ok.sbd.recs; show s.recs.length ≤ 900; omega, ok.sbd.w, .inr ⟨by omega, ⟨by have := bx.recs; show x.recs.length ≤ 500; omega, by have := bx.known; show x.known.length ≤ 500; omega, by have := bx.wants; show x.wants.length ≤ 500; omega, by have := bx.heard; show x.heard.length ≤ 500; omega⟩, f, htf, fun H2 l2 T2 ch2 => ?_⟩⟩
      refine ⟨by show 1 ≤ sizeLine; decide, ?_⟩
      exact fin q e (DeskAt.put D1 ch2 (fun z => by have := z.1; omega) T2) (ch1.trans (ch2.mono fun m z y => by have := z.1; omega)) rfl
end
end Pp

set_option Elab.async false
set_option linter.all false
set_option maxRecDepth 100000
set_option maxHeartbeats 2000000
namespace Pp
open PySem PySem.Spec PyProof.Rows L2
open Vbkoah (Lease HomeRec PostRec Up Down Want endedAt endOf hasBack willDo hasGiven says sendTo homeNums postNums upNums downNums)
theorem papers_len {s : SState} (bd : SBd s) (hn : s.posts.length ≤ 3) : (Vbkoah.papers s).length ≤ 240 := by
  refine Nat.le_trans (papers_take_len bd 3 hn _ (fun u hu => ?_) (by rw [numbered_len]; exact hn)) (by decide)
  unfold Vbkoah.numbered at hu
  exact bd.post _ (List.of_mem_zip hu).2
theorem cnt_flat {α : Type} (f : α → List Int) (l : List α) : cnt (l.map f) = Vbkoah.whole l.length :: l.flatMap f := by
  rw [cnt, List.length_map]
  rfl
theorem flat10 {α : Type} (f : α → List Int) (l : List α) (k n : Nat) (hf : ∀ x, (f x).length ≤ k) (hl : l.length ≤ n) (h : k * n ≤ 10000) : ((l.map f).flatten).length ≤ 10000 :=
  Nat.le_trans (flat_len f k hf l) (Nat.le_trans (Nat.mul_le_mul_left k hl) h)
section
variable {P : Program} {w : World} {K : PySem.W.Frag} {mg : Str → Option Value} {base : Heap} {c : Ad} {fI : Addr}
theorem ok_now (T : Txt K mg c fI) {f : Addr} {fd : FuncData} (F : Fun K "now" "now" s_now f fd) : FnOk P w K mg base CX0 1 f fd ["desk", "numbers"] (spDeed c 0 cNow) := by
  refine F.ok sc_now (fun vs H Q E h => ?_) (fun cdv A outer s H vs Q E hr h => ?_)
  · obtain ⟨d, a, l, s, ns, rfl, _⟩ := h
    rfl
  · obtain ⟨d, a, l, s, ns, rfl, ⟨dx, t, Y, DD⟩, ha, la, hl, ok, q, qe⟩ := h
    obtain rfl := len0 hl
    obtain ⟨hd, ld, dt, TT⟩ := id DD
    have e : stepP s .now = (s, [Vbkoah.whole s.posts.length, Vbkoah.whole s.w, Vbkoah.whole s.day]) := rfl
    refine ⟨_, (pss_one (ps_ret (pe_lst (pa_cons (pe_callB (call_len_seq) (by rfl) T.z_len PySem.boot_len (pa_cons (pe_fld (pe_fld (pv 0) rfl) rfl) pa_nil)) (pa_cons (pe_fld (pe_fld (pv 0) rfl) rfl) (pa_cons (pe_fld (pe_fld (pv 0) rfl) rfl) pa_nil)))))), ?_⟩
    refine ⟨_, rfl, d, c.D, dx, _, _, rfl, hd, T.clD, T.nD_town, de_town, t, c.T, dt, _, _, rfl, TT.obj, T.clT, T.nT_posts, to_posts, Y.lp, _, rfl, .inl (SqL.of TT.pl), _, rfl, d, c.D, dx, _, _, rfl, hd, T.clD, T.nD_town, de_town, t, c.T, dt, _, _, rfl, TT.obj, T.clT, T.nT_length, to_length, _, rfl, d, c.D, dx, _, _, rfl, hd, T.clD, T.nD_town, de_town, t, c.T, dt, _, _, rfl, TT.obj, T.clT, T.nT_today, to_today, (by show 3 ≤ sizeLine; decide), ?_⟩
    refine fin q e ⟨dx, t, Y, DD⟩ Ch.refl ?_
    rw [List.length_map, TT.np]
    rfl
theorem ok_papers (T : Txt K mg c fI) {fG_counted : Addr} {fdG_counted : FuncData} (G_counted : FG P w K mg base CX0 1 "counted" ["rows"] (spCounted c) fG_counted fdG_counted) {fG_papers_of : Addr} {fdG_papers_of : FuncData} (G_papers_of : FG P w K mg base CX0 2 "papers_of" ["town"] (spPapersOf c) fG_papers_of fdG_papers_of) {f : Addr} {fd : FuncData} (F : Fun K "papers" "papers" s_papers f fd) : FnOk P w K mg base CX0 3 f fd ["desk", "numbers"] (spDeed c 0 cPapers) := by
  refine F.ok sc_papers (fun vs H Q E h => ?_) (fun cdv A outer s H vs Q E hr h => ?_)
  · obtain ⟨d, a, l, s, ns, rfl, _⟩ := h
    rfl
  · obtain ⟨d, a, l, s, ns, rfl, ⟨dx, t, Y, DD⟩, ha, la, hl, ok, q, qe⟩ := h
    obtain rfl := len0 hl
    obtain ⟨hd, ld, dt, TT⟩ := id DD
    have e : stepP s .papers = (s, cnt ((Vbkoah.papers s).map pNums)) := by rw [cnt_flat]; rfl
    refine ⟨_, (pss_one (ps_ret (pe_call G_counted.ok (hr.mono (by decide)) rfl G_counted.g G_counted.kp G_counted.b .nil pass0 (pa_cons (pe_call G_papers_of.ok (hr.mono (by decide)) rfl G_papers_of.g G_papers_of.kp G_papers_of.b .nil pass0 (pa_cons (pe_fld (pv 0) rfl) pa_nil)) pa_nil)))), ?_⟩
    refine ⟨_, rfl, d, c.D, dx, _, _, rfl, hd, T.clD, T.nD_town, de_town, t, l, Y, s, rfl, ⟨dt, TT⟩, ok.sbd, ok.few, fun H1 g sm hg hR => ?_⟩
    refine ⟨g, _, rfl, hR, flat10 _ _ 4 240 (fun _ => Nat.le_refl _) (papers_len ok.sbd ok.few) (by decide), fun H2 g2 sm2 hg2 hl2 => ?_⟩
    exact fin2 q e ⟨dx, t, Y, DD⟩ (sm.trans sm2) (sm.free hg2) hl2
theorem ok_asked_home (T : Txt K mg c fI) {fG_told_records : Addr} {fdG_told_records : FuncData} (G_told_records : FG P w K mg base CX0 2 "told_records" ["station"] (spTold c) fG_told_records fdG_told_records) {f : Addr} {fd : FuncData} (F : Fun K "asked_home" "asked_home" s_asked_home f fd) : FnOk P w K mg base CX0 3 f fd ["desk", "numbers"] (spDeed c 0 cHome) := by
  refine F.ok sc_asked_home (fun vs H Q E h => ?_) (fun cdv A outer s H vs Q E hr h => ?_)
  · obtain ⟨d, a, l, s, ns, rfl, _⟩ := h
    rfl
  · obtain ⟨d, a, l, s, ns, rfl, ⟨dx, t, Y, DD⟩, ha, la, hl, ok, q, qe⟩ := h
    obtain rfl := len0 hl
    obtain ⟨hd, ld, dt, TT⟩ := id DD
    have e : stepP s .home = (s, Vbkoah.whole s.recs.length :: Vbkoah.whole s.safe :: s.recs.flatMap homeNums) := rfl
    obtain ⟨dh, hs, hh, lh, st⟩ := id TT.home
    refine ⟨_, (pss_one (ps_ret (pe_call G_told_records.ok (hr.mono (by decide)) rfl G_told_records.g G_told_records.kp G_told_records.b .nil pass0 (pa_cons (pe_fld (pe_fld (pe_fld (pv 0) rfl) rfl) rfl) pa_nil)))), ?_⟩
    refine ⟨_, rfl, d, c.D, dx, _, _, rfl, hd, T.clD, T.nD_town, de_town, t, c.T, dt, _, _, rfl, TT.obj, T.clT, T.nT_home, to_home, Y.h, c.H, dh, _, _, rfl, hh, T.clH, T.nH_station, ho_station, ?_⟩
    refine ⟨hs, l, 4, _, _, rfl, st, flat10 _ _ 5 80 homeNums_len ok.sbd.recs (by decide), fun H2 g2 sm2 hg2 hl2 => ?_⟩
    rw [List.length_map] at hl2
    exact fin2 q e ⟨dx, t, Y, DD⟩ sm2 hg2 hl2
theorem ok_row (T : Txt K mg c fI) {fG_demand_in : Addr} {fdG_demand_in : FuncData} (G_demand_in : FG P w K mg base (L2.CX P w) 4 "demand_in" ["number", "low", "high"] (spDemandIn c) fG_demand_in fdG_demand_in) {fG_demand_post : Addr} {fdG_demand_post : FuncData} (G_demand_post : FG P w K mg base (L2.CX P w) 4 "demand_post" ["desk", "post"] (spDemandPost c) fG_demand_post fdG_demand_post) {fG_counted : Addr} {fdG_counted : FuncData} (G_counted : FG P w K mg base CX0 1 "counted" ["rows"] (spCounted c) fG_counted fdG_counted) {fM_Town_wire : Addr} {fdM_Town_wire : FuncData} (M_Town_wire : MG P w K mg base c.T 1 "wire" ["self", "way", "post"] (spToWire c) fM_Town_wire fdM_Town_wire) {f : Addr} {fd : FuncData} (F : Fun K "row" "row" s_row f fd) : FnOk P w K mg base (L2.CX P w) 5 f fd ["desk", "numbers"] (spDeed c 2 cRow) := by
  refine F.okX sc_row (fun vs H Q E h => ?_) (fun cdv A outer s H vs Q E hr h => ?_)
  · obtain ⟨d, a, l, s, ns, rfl, _⟩ := h
    rfl
  · obtain ⟨d, a, l, s, ns, rfl, ⟨dx, t, Y, DD⟩, ha, la, hl, ok, q, qe⟩ := h
    obtain ⟨v, n, rfl⟩ := len2 hl
    obtain ⟨hd, ld, dt, TT⟩ := id DD
    refine ⟨_, (pss_cons (ps_expr (pe_call G_demand_in.ok (hr.mono (by decide)) rfl G_demand_in.g G_demand_in.kp G_demand_in.b .nil xpass (pa_cons (pe_ix ix_list (pv 1) pe_int (fun _ _ => rfl)) (pa_cons pe_int (pa_cons pe_int pa_nil)))))
        (pss_cons (ps_expr (pe_call G_demand_in.ok (hr.mono (by decide)) rfl G_demand_in.g G_demand_in.kp G_demand_in.b .nil xpass (pa_cons (pe_ix ix_list (pv 1) pe_int (fun _ _ => rfl)) (pa_cons pe_int (pa_cons pe_int pa_nil)))))
        (pss_cons (ps_expr (pe_call G_demand_post.ok (hr.mono (by decide)) rfl G_demand_post.g G_demand_post.kp G_demand_post.b .nil xpass (pa_cons (pv 0) (pa_cons (pe_ix ix_list (pv 1) pe_int (fun _ _ => rfl)) pa_nil))))
        (pss_one (ps_ret (pe_call G_counted.ok (hr.mono (by decide)) rfl G_counted.g G_counted.kp G_counted.b .nil pass0 (pa_cons (pe_fld (pe_meth (pe_fld (pv 0) rfl) T.clT M_Town_wire.m M_Town_wire.ok (hr.mono (by decide)) M_Town_wire.b .nil pass0 (pa_cons (pe_ix ix_list (pv 1) pe_int (fun _ _ => rfl)) (pa_cons (pe_ix ix_list (pv 1) pe_int (fun _ _ => rfl)) pa_nil))) rfl) pa_nil))))))), ?_⟩
    refine ⟨_, rfl, a, _, _, _, rfl, rfl, SqL.of ha, rfl, _, _, _, rfl, fun h1 h2 => ?_, fun z => qe _ (row_1 fun y => z y.1)⟩
    refine ⟨_, rfl, a, _, _, _, rfl, rfl, SqL.of ha, rfl, _, _, _, rfl, fun h3 h4 => ?_, fun z => qe _ (row_1 fun y => z y.2)⟩
    have R : (0 ≤ v ∧ v ≤ 1) ∧ (0 ≤ n ∧ n ≤ 2) := ⟨⟨h1, h2⟩, ⟨h3, h4⟩⟩
    refine ⟨_, rfl, _, rfl, a, _, _, _, rfl, rfl, SqL.of ha, rfl, d, l, s, n, rfl, ⟨dx, t, Y, DD⟩, fun hp => ?_, fun hp => qe _ (row_4 R (none_of_ge hp))⟩
    obtain ⟨x, hx⟩ := some_of_lt h3 hp
    have e := row_ok R hx
    obtain ⟨n, rfl⟩ : ∃ k : Nat, n = (k : Int) := ⟨n.toNat, by omega⟩
    rw [Int.toNat_natCast] at hx
    refine ⟨_, rfl, d, c.D, dx, _, _, rfl, hd, T.clD, T.nD_town, de_town, t, dt, _, rfl, TT.obj, to_no_wire, _, rfl, a, _, _, _, rfl, rfl, SqL.of ha, rfl, _, rfl, a, _, _, _, rfl, rfl, SqL.of ha, rfl, t, l, Y, s, v, n, x, rfl, ⟨dt, TT⟩, hx, fun hv u hu => ?_, fun hv u hu => ?_⟩
    · obtain ⟨dw, fr, hwi, hr, _⟩ := TT.up n x u hx hu
      refine ⟨u, c.W, dw, _, _, rfl, hwi, T.clW, T.nW_frames, wi_frames, fr, _, rfl, hr, flat10 _ _ 5 8 upNums_len (ok.sbd.at hx).up (by decide), fun H2 g2 sm2 hg2 hl2 => ?_⟩
      rw [if_pos hv, ← cnt_flat] at e
      exact fin2 q e ⟨dx, t, Y, DD⟩ sm2 hg2 hl2
    · obtain ⟨dw, fr, hwi, hr, _⟩ := TT.down n x u hx hu
      refine ⟨u, c.W, dw, _, _, rfl, hwi, T.clW, T.nW_frames, wi_frames, fr, _, rfl, hr, flat10 _ _ 5 8 downNums_len (ok.sbd.at hx).down (by decide), fun H2 g2 sm2 hg2 hl2 => ?_⟩
      rw [if_neg hv, ← cnt_flat] at e
      exact fin2 q e ⟨dx, t, Y, DD⟩ sm2 hg2 hl2
theorem ok_asked_post (T : Txt K mg c fI) {fG_demand_in : Addr} {fdG_demand_in : FuncData} (G_demand_in : FG P w K mg base (L2.CX P w) 4 "demand_in" ["number", "low", "high"] (spDemandIn c) fG_demand_in fdG_demand_in) {fG_demand_post : Addr} {fdG_demand_post : FuncData} (G_demand_post : FG P w K mg base (L2.CX P w) 4 "demand_post" ["desk", "post"] (spDemandPost c) fG_demand_post fdG_demand_post) {fG_counted : Addr} {fdG_counted : FuncData} (G_counted : FG P w K mg base CX0 1 "counted" ["rows"] (spCounted c) fG_counted fdG_counted) {fG_told_records : Addr} {fdG_told_records : FuncData} (G_told_records : FG P w K mg base CX0 2 "told_records" ["station"] (spTold c) fG_told_records fdG_told_records) {f : Addr} {fd : FuncData} (F : Fun K "asked_post" "asked_post" s_asked_post f fd) : FnOk P w K mg base (L2.CX P w) 5 f fd ["desk", "numbers"] (spDeed c 1 cPost) := by
  refine F.okX sc_asked_post (fun vs H Q E h => ?_) (fun cdv A outer s H vs Q E hr h => ?_)
  · obtain ⟨d, a, l, s, ns, rfl, _⟩ := h
    rfl
  · obtain ⟨d, a, l, s, ns, rfl, ⟨dx, t, Y, DD⟩, ha, la, hl, ok, q, qe⟩ := h
    obtain ⟨n, rfl⟩ := len1 hl
    obtain ⟨hd, ld, dt, TT⟩ := id DD
    refine ⟨_, (pss_cons (ps_expr (pe_call G_demand_in.ok (hr.mono (by decide)) rfl G_demand_in.g G_demand_in.kp G_demand_in.b .nil xpass (pa_cons (pe_ix ix_list (pv 1) pe_int (fun _ _ => rfl)) (pa_cons pe_int (pa_cons pe_int pa_nil)))))
        (pss_cons (ps_expr (pe_call G_demand_post.ok (hr.mono (by decide)) rfl G_demand_post.g G_demand_post.kp G_demand_post.b .nil xpass (pa_cons (pv 0) (pa_cons (pe_ix ix_list (pv 1) pe_int (fun _ _ => rfl)) pa_nil))))
        (pss_cons (ps_set (i := 2) sc_asked_post.nd rfl (Or.inl rfl) (pe_ix ix_list (pe_fld (pe_fld (pv 0) rfl) rfl) (pe_ix ix_list (pv 1) pe_int (fun _ _ => rfl)) (fun _ _ => rfl)))
        (pss_cons (ps_set (i := 3) sc_asked_post.nd rfl (Or.inl rfl) (pe_op op_cat (pe_call G_counted.ok (hr.mono (by decide)) rfl G_counted.g G_counted.kp G_counted.b .nil pass0 (pa_cons (pe_fld (pv 2) rfl) pa_nil)) (pe_call G_counted.ok (hr.mono (by decide)) rfl G_counted.g G_counted.kp G_counted.b .nil pass0 (pa_cons (pe_fld (pv 2) rfl) pa_nil))))
        (pss_one (ps_ret (pe_op op_cat (pe_op op_cat (pe_op op_cat (pv 3) (pe_call G_told_records.ok (hr.mono (by decide)) rfl G_told_records.g G_told_records.kp G_told_records.b .nil pass0 (pa_cons (pe_fld (pv 2) rfl) pa_nil))) (pe_lst (pa_cons (pe_callB (call_len_seq) (by rfl) T.z_len PySem.boot_len (pa_cons (pe_fld (pv 2) rfl) pa_nil)) pa_nil))) (pe_callTy call_list_of (by rfl) T.z_list (by decide +kernel) (pa_cons (pe_fld (pv 2) rfl) pa_nil))))))))), ?_⟩
    refine ⟨_, rfl, a, _, _, _, rfl, rfl, SqL.of ha, rfl, _, _, _, rfl, fun h1 h2 => ?_, fun z => qe _ (post_1 z)⟩
    refine ⟨_, rfl, _, rfl, a, _, _, _, rfl, rfl, SqL.of ha, rfl, d, l, s, n, rfl, ⟨dx, t, Y, DD⟩, fun hp => ?_, fun hp => qe _ (post_4 ⟨h1, h2⟩ (none_of_ge hp))⟩
    obtain ⟨x, hx⟩ := some_of_lt h1 hp
    have e := post_ok ⟨h1, h2⟩ hx
    obtain ⟨n, rfl⟩ : ∃ k : Nat, n = (k : Int) := ⟨n.toNat, by omega⟩
    rw [Int.toNat_natCast] at hx
    obtain ⟨pp, u, dd, hpp, hu, hdd⟩ := TT.places hx
    obtain ⟨dp, st, ea, aa, he, PA⟩ := TT.post _ x pp hx hpp
    have bx := ok.sbd.at hx
    refine ⟨_, rfl, d, c.D, dx, _, _, rfl, hd, T.clD, T.nD_town, de_town, t, c.T, dt, _, _, rfl, TT.obj, T.clT, T.nT_posts, to_posts, _, rfl, a, _, _, _, rfl, rfl, SqL.of ha, rfl, Y.lp, _, _, _, rfl, rfl, SqL.of TT.pl, atI_nat (ref_at hpp), ?_⟩
    refine ⟨_, rfl, pp, c.P, dp, _, _, rfl, PA.obj, T.clP, T.nP_wants, po_wants, aa, _, rfl, PA.wa, flat10 _ _ 2 6 (fun _ => Nat.le_refl _) bx.wants (by decide), fun H1 g1 sm1 hg1 hl1 => ?_⟩
    have PA1 := PA.same sm1
    refine ⟨_, rfl, pp, c.P, dp, _, _, rfl, PA1.obj, T.clP, T.nP_leases, po_leases, ea, _, rfl, PA1.kn, flat10 _ _ 4 80 (fun _ => Nat.le_refl _) bx.known (by decide), fun H2 g2 sm2 hg2 hl2 => ?_⟩
    have f1 : ((x.wants.map wNums).flatten).length ≤ 2 * 6 := Nat.le_trans (flat_len _ 2 (fun _ => Nat.le_refl _) _) (Nat.mul_le_mul_left 2 bx.wants)
    have f2 : ((x.known.map lNums).flatten).length ≤ 4 * 80 := Nat.le_trans (flat_len _ 4 (fun _ => Nat.le_refl _) _) (Nat.mul_le_mul_left 4 bx.known)
    have f3 : ((x.recs.map postNums).flatten).length ≤ 5 * 80 := Nat.le_trans (flat_len _ 5 postNums_len _) (Nat.mul_le_mul_left 5 bx.recs)
    have f4 := bx.heard
    have c1 := sm2 _ _ hl1
    have sm12 := sm1.trans sm2
    refine ⟨g1, g2, _, _, rfl, rfl, c1, hl2, big (by rw [List.length_map, List.length_map, cnt, cnt, List.length_cons, List.length_cons]; omega), fun p3 hp3 => ?_⟩
    have s3 := Same.upd_new (o := .lst ((cnt (x.wants.map wNums)).map V.int ++ (cnt (x.known.map lNums)).map V.int)) hp3
    have c3 : upd H2 p3 (.lst ((cnt (x.wants.map wNums)).map V.int ++ (cnt (x.known.map lNums)).map V.int)) p3 = _ := upd_same
    have sm3 := sm12.trans s3
    generalize upd H2 p3 (.lst ((cnt (x.wants.map wNums)).map V.int ++ (cnt (x.known.map lNums)).map V.int)) = H3 at *
    have PA3 := PA.same sm3
    refine ⟨_, rfl, _, rfl, pp, c.P, dp, _, _, rfl, PA3.obj, T.clP, T.nP_station, po_station, st, l, _, _, _, rfl, PA3.st, by omega, fun H4 g4 sm4 hg4 hl4 => ?_⟩
    refine ⟨p3, g4, _, _, rfl, rfl, sm4 _ _ c3, hl4, big (by simp only [List.length_append, List.length_map, cnt, List.length_cons]; omega), fun p5 hp5 => ?_⟩
    rw [List.length_map] at hl4
    have s5 := Same.upd_new (o := .lst (((cnt (x.wants.map wNums)).map V.int ++ (cnt (x.known.map lNums)).map V.int) ++ (((x.recs.map postNums).length : Int) :: (x.safe : Int) :: (x.recs.map postNums).flatten).map V.int)) hp5
    have c5 : upd H4 p5 (.lst (((cnt (x.wants.map wNums)).map V.int ++ (cnt (x.known.map lNums)).map V.int) ++ (((x.recs.map postNums).length : Int) :: (x.safe : Int) :: (x.recs.map postNums).flatten).map V.int)) p5 = _ := upd_same
    have sm5 := (sm3.trans sm4).trans s5
    generalize upd H4 p5 (.lst (((cnt (x.wants.map wNums)).map V.int ++ (cnt (x.known.map lNums)).map V.int) ++ (((x.recs.map postNums).length : Int) :: (x.safe : Int) :: (x.recs.map postNums).flatten).map V.int)) = H5 at *
    have PA5 := PA.same sm5
    refine ⟨_, rfl, pp, c.P, dp, _, _, rfl, PA5.obj, T.clP, T.nP_heard, po_heard, he, _, rfl, .inl (SqL.of PA5.he), (by show 1 ≤ sizeLine; decide), fun p6 hp6 => ?_⟩
    rw [List.length_map]
    have s6 := Same.upd_new (o := .lst [V.int ((x.heard.length : Nat) : Int)]) hp6
    have c6 : upd H5 p6 (.lst [V.int ((x.heard.length : Nat) : Int)]) p6 = _ := upd_same
    have sm6 := sm5.trans s6
    generalize upd H5 p6 (.lst [V.int ((x.heard.length : Nat) : Int)]) = H6 at *
    refine ⟨p5, p6, _, _, rfl, rfl, s6 _ _ c5, c6, big (by simp only [List.length_append, List.length_map, cnt, List.length_cons, List.length_nil]; omega), fun p7 hp7 => ?_⟩
    have s7 := Same.upd_new (o := .lst ((((cnt (x.wants.map wNums)).map V.int ++ (cnt (x.known.map lNums)).map V.int) ++ (((x.recs.map postNums).length : Int) :: (x.safe : Int) :: (x.recs.map postNums).flatten).map V.int) ++ [V.int ((x.heard.length : Nat) : Int)])) hp7
    have c7 : upd H6 p7 (.lst ((((cnt (x.wants.map wNums)).map V.int ++ (cnt (x.known.map lNums)).map V.int) ++ (((x.recs.map postNums).length : Int) :: (x.safe : Int) :: (x.recs.map postNums).flatten).map V.int) ++ [V.int ((x.heard.length : Nat) : Int)])) p7 = _ := upd_same
    have sm7 := sm6.trans s7
    generalize upd H6 p7 (.lst ((((cnt (x.wants.map wNums)).map V.int ++ (cnt (x.known.map lNums)).map V.int) ++ (((x.recs.map postNums).length : Int) :: (x.safe : Int) :: (x.recs.map postNums).flatten).map V.int) ++ [V.int ((x.heard.length : Nat) : Int)])) = H7 at *
    have PA7 := PA.same sm7
    refine ⟨_, rfl, pp, c.P, dp, _, _, rfl, PA7.obj, T.clP, T.nP_heard, po_heard, he, _, rfl, .inl (SqL.of PA7.he), fun p8 hp8 => ?_⟩
    have s8 := Same.upd_new (o := .lst (x.heard.map fun m : Nat => V.int (m : Int))) hp8
    refine ⟨p7, p8, _, _, rfl, rfl, s8 _ _ c7, upd_same, big (by simp only [List.length_append, List.length_map, cnt, List.length_cons, List.length_nil]; omega), ?_⟩
    refine fin q e ⟨dx, t, Y, DD.same (sm7.trans s8)⟩ (Ch.of_same (sm7.trans s8)) ?_
    simp only [cnt, List.length_map, List.map_append, List.append_assoc, List.map_cons, List.map_map, flatMap_eq, Vbkoah.whole, List.cons_append, List.nil_append]
    rfl
end
end Pp

set_option Elab.async false
set_option linter.all false
set_option maxRecDepth 100000
set_option maxHeartbeats 2000000
namespace Pp
open PySem PySem.Spec PyProof.Rows L2
open Vbkoah (Lease HomeRec PostRec Up Down Want endedAt endOf hasBack willDo hasGiven says sendTo homeNums postNums upNums downNums)
theorem allFrom_given (sure : Nat) : ∀ (l : List HomeRec) (n : Nat), (allFrom sure n l).map (·.1) = Vbkoah.given l
  | [], _ => rfl
  | .lease x p a b :: l, n => by
    show (⟨x, p, a, b⟩ : SGiven) :: (allFrom sure (n + 1) l).map (·.1) = _
    rw [allFrom_given sure l (n + 1)]
    rfl
  | .ended m e :: l, n => allFrom_given sure l (n + 1)
theorem zip_map_snd {α β γ : Type} (f : β → γ) : ∀ (l : List α) (r : List β), l.zip (r.map f) = (l.zip r).map fun t => (t.1, f t.2)
  | [], r => by simp
  | x :: l, [] => by simp
  | x :: l, y :: r => by
    rw [List.map_cons, List.zip_cons_cons, List.zip_cons_cons, List.map_cons, zip_map_snd f l r]
theorem numbered_map {β γ : Type} (f : β → γ) (l : List β) : Vbkoah.numbered (l.map f) = (Vbkoah.numbered l).map fun t => (t.1, f t.2) := by
  unfold Vbkoah.numbered
  rw [List.length_map]
  exact zip_map_snd f _ _
abbrev eNums (recs : List HomeRec) (t : Nat × (SGiven × Bool)) : List Int := gNums t.2.1 ++ [endOf recs t.1 t.2.1]
section
variable {P : Program} {w : World} {K : PySem.W.Frag} {mg : Str → Option Value} {base : Heap} {c : Ad} {fI : Addr}
theorem ok_leases (T : Txt K mg c fI) {fG_counted : Addr} {fdG_counted : FuncData} (G_counted : FG P w K mg base CX0 1 "counted" ["rows"] (spCounted c) fG_counted fdG_counted) {fM_Home_all_leases : Addr} {fdM_Home_all_leases : FuncData} (M_Home_all_leases : MG P w K mg base c.H 1 "all_leases" ["self"] (spAllLeases c) fM_Home_all_leases fdM_Home_all_leases) {fG_end_of : Addr} {fdG_end_of : FuncData} (G_end_of : FG P w K mg base CX0 2 "end_of" ["home", "number", "lease"] (spEndOf c) fG_end_of fdG_end_of) {f : Addr} {fd : FuncData} (F : Fun K "leases" "leases" s_leases f fd) : FnOk P w K mg base CX0 3 f fd ["desk", "numbers"] (spDeed c 0 cLeases) := by
  refine F.ok sc_leases (fun vs H Q E h => ?_) (fun cdv A outer s H vs Q E hr h => ?_)
  · obtain ⟨d, a, l, s, ns, rfl, _⟩ := h
    rfl
  · obtain ⟨d, a, l, s, ns, rfl, ⟨dx, t, Y, DD⟩, ha, la, hl, ok, q, qe⟩ := h
    obtain rfl := len0 hl
    obtain ⟨hd, ld, dt, TT⟩ := id DD
    refine ⟨_, (pss_cons (ps_par (i := 2) (j := 3) rfl sc_leases.nd rfl rfl (by decide) rfl rfl (pa_cons (pe_fld (pe_fld (pv 0) rfl) rfl) (pa_cons (pe_lst pa_nil) pa_nil)) rfl)
        (pss_cons (ps_for PassesOwn.never rfl (pi_enum (by rfl) T.z_enumerate (pa_cons (pe_meth0 (pv 2) T.clH M_Home_all_leases.m M_Home_all_leases.ok (hr.mono (by decide)) M_Home_all_leases.b .nil pass0) pa_nil)) (pg_tup rfl (pgs_cons (pg_name (i := 4) sc_leases.nd rfl (Or.inl rfl)) (pgs_cons (pg_name (i := 5) sc_leases.nd rfl (Or.inl rfl)) pgs_nil)))
        (pss_cons (ps_asg (pv 5) (pg_tup rfl (pgs_cons (pg_name (i := 6) sc_leases.nd rfl (Or.inl rfl)) (pgs_cons (pg_name (i := 7) sc_leases.nd rfl (Or.inl rfl)) pgs_nil))))
        (pss_one (ps_expr (pe_bm PySem.F.plainAttrs_list PySem.F.slot_list_append PySem.F.type_list_append mt_append (pv 3) (pa_cons (pe_op op_catT (pv 6) (pe_tup (pa_cons (pe_call G_end_of.ok (hr.mono (by decide)) rfl G_end_of.g G_end_of.kp G_end_of.b .nil pass0 (pa_cons (pv 2) (pa_cons (pv 4) (pa_cons (pv 6) pa_nil)))) pa_nil))) pa_nil))))))
        (pss_one (ps_ret (pe_call G_counted.ok (hr.mono (by decide)) rfl G_counted.g G_counted.kp G_counted.b .nil pass0 (pa_cons (pv 3) pa_nil)))))), ?_⟩
    have hA := TT.home
    obtain ⟨dh, hs, hh, lh, st⟩ := id hA
    have hlen : s.recs.length ≤ 900 := by have := ok.sbd.recs; omega
    refine ⟨_, rfl, d, c.D, dx, _, _, rfl, hd, T.clD, T.nD_town, de_town, t, c.T, dt, _, _, rfl, TT.obj, T.clT, T.nT_home, to_home, Nat.zero_le _, fun D hD => ?_⟩
    have sm0 : Same H (upd H D (.lst [])) := Same.upd_new hD
    refine ⟨_, _, rfl, ?_⟩
    refine ⟨_, rfl, Y.h, dh, _, rfl, sm0 _ _ hh, ho_no_all_leases, Y.h, l, 4, s.recs, s.safe, rfl, hA.same sm0, hlen, fun H1 pl sm1 hpl hL => ?_⟩
    obtain ⟨tl, htl, hptl⟩ := hL
    have hD1 : H1 D = some (.lst []) := sm1 _ _ upd_same
    have smH1 : Same H H1 := sm0.trans sm1
    have nplD : pl ≠ D := ne_of_none upd_same hpl |>.symm
    have tlen : tl.length ≤ 900 := by
      rw [hptl.length]
      exact Nat.le_trans (allFrom_len _ _ _) hlen
    refine ⟨pl, _, rfl, SqL.of htl, ?_⟩
    refine for_enum (K := K) (a := pl) (xs := tl.map V.ref) (fun i σ H' => ∃ v4 v5 v6 v7, σ = [some (.ref d), some (.ref a), some (.ref Y.h), some (.ref D), v4, v5, v6, v7] ∧ SameB D H1 H' ∧
        RowsAt H' D (((Vbkoah.numbered (allL s.recs s.safe)).take i).map (eNums s.recs)))
      ⟨_, _, _, _, rfl, fun b o e _ => e, [], hD1, .nil⟩ (fun i σ H' _ ⟨_, _, _, _, _, sb, _⟩ => SqL.of (sb _ _ htl nplD)) ?_ ?_
    · rintro i y σ H' Tp hi ⟨v4, v5, v6, v7, rfl, sb, ⟨td, htd, hpd⟩⟩ hTp
      obtain ⟨tt, hti, rfl⟩ := refs_at hi
      obtain ⟨g, hg, u, htu, hu⟩ := pairedAt hptl hti
      have hng := numbered_get hg
      have smT : Same H' (upd H' Tp (.tup [.int (i : Int), .ref tt])) := Same.upd_new hTp
      have tD : ∀ b xs, H1 b = some (.tup xs) → H' b = some (.tup xs) := fun b xs e => sb _ _ e (ne_of e hD1 (by intro z; cases z))
      have smH' : Same H H' := sb.out smH1 hD
      have sm2 : Same H _ := smH'.trans smT
      have tdl : td.length ≤ 900 := by
        rw [hpd.length, List.length_map, List.length_take, numbered_len]
        have h2 : (allL s.recs s.safe).length ≤ s.recs.length := allFrom_len s.safe s.recs 0
        omega
      have stp : ((Vbkoah.numbered (allL s.recs s.safe)).take (i + 1)).map (eNums s.recs) = ((Vbkoah.numbered (allL s.recs s.safe)).take i).map (eNums s.recs) ++ [eNums s.recs (i, g)] := by
        rw [take_succ_at hng, List.map_append]
        rfl
      refine ⟨_, rfl, tt, _, rfl, SqT.of (smT _ _ (tD _ _ htu)), rfl, _, _, rfl, _, _, rfl, rfl, ?_⟩
      refine ⟨_, rfl, .inl ⟨rfl, _, SqL.of (smT _ _ htd)⟩, _, rfl, _, rfl, _, rfl, _, rfl, Y.h, u, l, 4, s.recs, s.safe, i, g.1, rfl, hA.same sm2, hlen, smT _ _ (tD _ _ hu), fun H2 sm3 => ?_⟩
      have smT3 := smT.trans sm3
      refine ⟨by show 1 ≤ sizeLine; decide, fun p1 hp1 => ?_⟩
      have s1 : Same H2 (upd H2 p1 (.tup [V.int (endOf s.recs i g.1)])) := Same.upd_new hp1
      refine ⟨u, p1, _, _, rfl, rfl, SqT.of (s1 _ _ (smT3 _ _ (tD _ _ hu))), SqT.of upd_same, (by intro z; cases z), (by show 5 ≤ sizeLine; decide), (by intro z; cases z), fun _ p2 hp2 => ?_⟩
      have s2 : Same (upd H2 p1 (.tup [V.int (endOf s.recs i g.1)])) (upd (upd H2 p1 (.tup [V.int (endOf s.recs i g.1)])) p2 (.tup ((gNums g.1).map V.int ++ [V.int (endOf s.recs i g.1)]))) := Same.upd_new hp2
      have smA := (smT3.trans s1).trans s2
      refine ⟨D, _, _, rfl, rfl, smA _ _ htd, small1000 (by rw [List.length_map]; omega), ?_⟩
      refine ⟨_, _, _, _, rfl, (sb.step smA).app, ?_⟩
      rw [stp]
      exact RowsAt.push (row := eNums s.recs (i, g)) (smA _ _ htd) (TupsAt.mono (fun b xs e => smA _ _ e) hpd) (by rw [upd_same] <;> rfl)
    · rintro σ H2 ⟨v4, v5, v6, v7, rfl, sb, hR⟩
      have sm2 := sb.out smH1 hD
      have e0 : tl.length = (Vbkoah.numbered (allL s.recs s.safe)).length := by rw [numbered_len]; exact hptl.length
      rw [List.length_map, e0, List.take_length] at hR
      have gl : (allL s.recs s.safe).length ≤ 80 := Nat.le_trans (allFrom_len s.safe s.recs 0) ok.sbd.recs
      refine ⟨_, rfl, D, _, rfl, hR, flat10 _ _ 5 80 (fun _ => Nat.le_refl _) (by rw [numbered_len]; exact gl) (by decide), fun H3 g3 sm3 hg3 hl3 => ?_⟩
      have e : stepP s .leases = (s, cnt ((Vbkoah.numbered (allL s.recs s.safe)).map (eNums s.recs))) := by
        rw [cnt_flat, numbered_len]
        show (s, Vbkoah.whole (Vbkoah.given s.recs).length :: (Vbkoah.numbered (Vbkoah.given s.recs)).flatMap fun t => [Vbkoah.whole t.2.x, Vbkoah.whole t.2.p, Vbkoah.whole t.2.a, Vbkoah.whole t.2.b, endOf s.recs t.1 t.2]) = _
        rw [← allFrom_given s.safe s.recs 0, numbered_map, List.length_map, flatMap_eq, List.map_map]
        rfl
      exact fin2 q e ⟨dx, t, Y, DD⟩ (sm2.trans sm3) (sm2.free hg3) hl3
theorem ok_good (T : Txt K mg c fI) {fG_demand_in : Addr} {fdG_demand_in : FuncData} (G_demand_in : FG P w K mg base (L2.CX P w) 4 "demand_in" ["number", "low", "high"] (spDemandIn c) fG_demand_in fdG_demand_in) {fG_counted : Addr} {fdG_counted : FuncData} (G_counted : FG P w K mg base CX0 1 "counted" ["rows"] (spCounted c) fG_counted fdG_counted) {fG_papers_of : Addr} {fdG_papers_of : FuncData} (G_papers_of : FG P w K mg base CX0 2 "papers_of" ["town"] (spPapersOf c) fG_papers_of fdG_papers_of) {f : Addr} {fd : FuncData} (F : Fun K "good" "good" s_good f fd) : FnOk P w K mg base (L2.CX P w) 5 f fd ["desk", "numbers"] (spDeed c 2 cGood) := by
  refine F.okX sc_good (fun vs H Q E h => ?_) (fun cdv A outer s H vs Q E hr h => ?_)
  · obtain ⟨d, a, l, s, ns, rfl, _⟩ := h
    rfl
  · obtain ⟨d, a, l, s, ns, rfl, ⟨dx, t, Y, DD⟩, ha, la, hl, ok, q, qe⟩ := h
    obtain ⟨n, m, rfl⟩ := len2 hl
    obtain ⟨hd, ld, dt, TT⟩ := id DD
    refine ⟨_, (pss_cons (ps_expr (pe_call G_demand_in.ok (hr.mono (by decide)) rfl G_demand_in.g G_demand_in.kp G_demand_in.b .nil xpass (pa_cons (pe_ix ix_list (pv 1) pe_int (fun _ _ => rfl)) (pa_cons pe_int (pa_cons pe_int pa_nil)))))
        (pss_cons (ps_expr (pe_call G_demand_in.ok (hr.mono (by decide)) rfl G_demand_in.g G_demand_in.kp G_demand_in.b .nil xpass (pa_cons (pe_ix ix_list (pv 1) pe_int (fun _ _ => rfl)) (pa_cons pe_int (pa_cons pe_int pa_nil)))))
        (pss_cons (ps_set (i := 2) sc_good.nd rfl (Or.inl rfl) (pe_lst pa_nil))
        (pss_cons (ps_for xown rfl (pi_list (pe_call G_papers_of.ok (hr.mono (by decide)) rfl G_papers_of.g G_papers_of.kp G_papers_of.b .nil pass0 (pa_cons (pe_fld (pv 0) rfl) pa_nil))) (pg_tup rfl (pgs_cons (pg_name (i := 3) sc_good.nd rfl (Or.inl rfl)) (pgs_cons (pg_name (i := 4) sc_good.nd rfl (Or.inl rfl)) (pgs_cons (pg_name (i := 5) sc_good.nd rfl (Or.inl rfl)) (pgs_cons (pg_name (i := 6) sc_good.nd rfl (Or.inl rfl)) pgs_nil)))))
        (pss_one (ps_if (PW.pt (pw_and (pt_cmpR op_eq (pv 4) (pe_ix ix_list (pv 1) pe_int (fun _ _ => rfl)) (nomark _)) (pw_and1 (pt_chain op_le op_le (pv 5) (pe_ix ix_list (pv 1) pe_int (fun _ _ => rfl)) (pv 6)))))
        (pss_one (ps_expr (pe_bm PySem.F.plainAttrs_list PySem.F.slot_list_append PySem.F.type_list_append mt_append (pv 2) (pa_cons (pe_tup (pa_cons (pv 3) pa_nil)) pa_nil))))
        pss_nil)))
        (pss_one (ps_ret (pe_call G_counted.ok (hr.mono (by decide)) rfl G_counted.g G_counted.kp G_counted.b .nil pass0 (pa_cons (pv 2) pa_nil)))))))), ?_⟩
    refine ⟨_, rfl, a, _, _, _, rfl, rfl, SqL.of ha, rfl, _, _, _, rfl, fun h1 h2 => ?_, fun z => qe _ (good_1 fun y => z y.1)⟩
    refine ⟨_, rfl, a, _, _, _, rfl, rfl, SqL.of ha, rfl, _, _, _, rfl, fun h3 h4 => ?_, fun z => qe _ (good_1 fun y => z y.2)⟩
    have e := good_ok (s := s) (x := n) (d := m) ⟨⟨h1, h2⟩, ⟨h3, h4⟩⟩
    refine ⟨Nat.zero_le _, fun D hD => ?_⟩
    have sm0 : Same H (upd H D (.lst [])) := Same.upd_new hD
    refine ⟨_, rfl, d, c.D, dx, _, _, rfl, sm0 _ _ hd, T.clD, T.nD_town, de_town, t, l, Y, s, rfl, ⟨dt, TT.same sm0⟩, ok.sbd, ok.few, fun H1 g sm hg ⟨tl, htl, hptl⟩ => ?_⟩
    have hD1 : H1 D = some (.lst []) := sm _ _ upd_same
    have smH1 : Same H H1 := sm0.trans sm
    have ngD : g ≠ D := (ne_of_none upd_same hg).symm
    have ha1 := smH1 _ _ ha
    have naD : a ≠ D := ne_of_none ha hD
    have pl := papers_len ok.sbd ok.few
    refine ⟨g, rfl, ⟨_, SqL.of htl⟩, ?_⟩
    refine for_list (K := K) (a := g) (xs := tl.map V.ref) (fun i σ H' => ∃ v3 v4 v5 v6, σ = [some (.ref d), some (.ref a), some (.ref D), v3, v4, v5, v6] ∧ SameB D H1 H' ∧
        RowsAt H' D ((((Vbkoah.papers s).take i).filter fun y => Vbkoah.whole y.x == n && decide (Vbkoah.whole y.f ≤ m ∧ m ≤ Vbkoah.whole y.t)).map fun y => [Vbkoah.whole y.p]))
      ⟨_, _, _, _, rfl, fun b o e _ => e, [], hD1, .nil⟩ (fun i σ H' _ ⟨_, _, _, _, _, sb, _⟩ => SqL.of (sb _ _ htl ngD)) ?_ ?_
    · rintro i y σ H' hi ⟨v3, v4, v5, v6, rfl, sb, ⟨td, htd, hpd⟩⟩
      obtain ⟨tt, hti, rfl⟩ := refs_at hi
      obtain ⟨row, hrow, hur⟩ := pairedAt hptl hti
      rw [List.getElem?_map] at hrow
      obtain ⟨y, hy, rfl⟩ := Option.map_eq_some_iff.mp hrow
      have hu := sb _ _ hur (ne_of hur hD1 (by intro z; cases z))
      have ha2 := sb _ _ ha1 naD
      refine ⟨tt, _, rfl, SqT.of hu, rfl, _, _, rfl, _, _, rfl, _, _, rfl, _, _, rfl, rfl, ?_⟩
      refine ⟨_, rfl, _, rfl, a, _, _, _, rfl, rfl, SqL.of ha2, rfl, rfl, _, rfl, ?_⟩
      have tdl : td.length ≤ 900 := by
        rw [hpd.length, List.length_map]
        refine Nat.le_trans (List.length_filter_le _ _) ?_
        rw [List.length_take]
        omega
      have stp : (((Vbkoah.papers s).take (i + 1)).filter fun y => Vbkoah.whole y.x == n && decide (Vbkoah.whole y.f ≤ m ∧ m ≤ Vbkoah.whole y.t)).map (fun y => [Vbkoah.whole y.p]) = (((Vbkoah.papers s).take i).filter fun y => Vbkoah.whole y.x == n && decide (Vbkoah.whole y.f ≤ m ∧ m ≤ Vbkoah.whole y.t)).map (fun y => [Vbkoah.whole y.p]) ++ (if (Vbkoah.whole y.x == n && decide (Vbkoah.whole y.f ≤ m ∧ m ≤ Vbkoah.whole y.t)) = true then [[Vbkoah.whole y.p]] else []) := by
        rw [take_succ_at hy, List.filter_append, List.map_append]
        congr 1
        rw [List.filter_cons]
        split <;> rfl
      rw [dec_vint]
      cases hbx : ((y.x : Int) == n) with
      | false =>
        refine iteF (iteF ⟨_, _, _, _, rfl, sb, ?_⟩)
        rw [stp, if_neg (by rw [show Vbkoah.whole y.x = (y.x : Int) from rfl, hbx]; exact Bool.noConfusion), List.append_nil]
        exact ⟨td, htd, hpd⟩
      | true =>
        refine iteT ⟨_, rfl, _, rfl, a, _, _, _, rfl, rfl, SqL.of ha2, rfl, _, _, rfl, rfl, _, rfl, ?_⟩
        by_cases hf : (y.f : Int) ≤ m
        · refine if_true_of (decide_eq_true hf) ⟨_, rfl, _, _, rfl, rfl, _, rfl, ?_⟩
          by_cases hg' : m ≤ (y.t : Int)
          · refine if_true_of (decide_eq_true hg') ⟨_, rfl, .inl ⟨rfl, _, SqL.of htd⟩, _, rfl, (by show 1 ≤ sizeLine; decide), fun u hu0 => ?_⟩
            have smu := Same.upd_new (o := .tup [V.int (y.p : Int)]) hu0
            refine ⟨D, _, _, rfl, rfl, smu _ _ htd, small1000 (by rw [List.length_map]; omega), ?_⟩
            refine ⟨_, _, _, _, rfl, (sb.step smu).app, ?_⟩
            rw [stp, if_pos (by rw [show Vbkoah.whole y.x = (y.x : Int) from rfl, hbx, Bool.true_and]; exact decide_eq_true ⟨hf, hg'⟩)]
            exact RowsAt.push (row := [(y.p : Int)]) (smu _ _ htd) (TupsAt.mono (fun b xs e => smu _ _ e) hpd) upd_same
          · refine if_false_of (decide_eq_false hg') ⟨_, _, _, _, rfl, sb, ?_⟩
            rw [stp, if_neg (fun z => hg' (by rw [Bool.and_eq_true, decide_eq_true_iff] at z; exact z.2.2)), List.append_nil]
            exact ⟨td, htd, hpd⟩
        · refine if_false_of (decide_eq_false hf) ⟨_, rfl, iteF ⟨_, _, _, _, rfl, sb, ?_⟩⟩
          rw [stp, if_neg (fun z => hf (by rw [Bool.and_eq_true, decide_eq_true_iff] at z; exact z.2.1)), List.append_nil]
          exact ⟨td, htd, hpd⟩
    · rintro σ H2 ⟨v3, v4, v5, v6, rfl, sb, hR⟩
      have sm2 := sb.out smH1 hD
      have e0 : tl.length = (Vbkoah.papers s).length := by rw [hptl.length, List.length_map]
      rw [List.length_map, e0, List.take_length] at hR
      have gl : (goodP s n m).length ≤ 240 := Nat.le_trans (List.length_filter_le _ _) pl
      refine ⟨_, rfl, D, _, rfl, hR, flat10 _ _ 1 240 (fun _ => Nat.le_refl _) gl (by decide), fun H3 g3 sm3 hg3 hl3 => ?_⟩
      have e' : stepP s (.good n m) = (s, cnt ((goodP s n m).map fun y => [Vbkoah.whole y.p])) := by
        rw [e, cnt_flat]
        congr 2
        induction goodP s n m with
        | nil => rfl
        | cons z zs ih => rw [List.map_cons, List.flatMap_cons, ih] <;> rfl
      exact fin2 q e' ⟨dx, t, Y, DD⟩ (sm2.trans sm3) (sm2.free hg3) hl3
end
end Pp

set_option Elab.async false
set_option linter.all false
set_option maxRecDepth 100000
set_option maxHeartbeats 2000000
namespace Pp
open PySem PySem.Spec PyProof.Rows L2
open Vbkoah (Lease HomeRec PostRec Up Down Want endedAt endOf hasBack willDo hasGiven says sendTo homeNums postNums upNums downNums)
/-! ### 15. a call of a local name that holds one of several defs, which may raise -/
structure HeldX (P : Program) (w : World) (K : PySem.W.Frag) (mg : Str → Option Value) (base : Heap) (k : Nat) (f : Addr) (sp : Sp) : Prop where
  ex : ∃ (fd : FuncData) (ps : List Str), FnOk P w K mg base (L2.CX P w) k f fd ps sp ∧ PySem.W.keepIn K (.ref f) = true ∧ Binds K fd ps []
/-- a def that raises nothing keeps the other form of promise too -/
theorem ok_lift {P : Program} {w : World} {K : PySem.W.Frag} {mg : Str → Option Value} {base : Heap} {k : Nat} {f : Addr} {fd : FuncData} {ps : List Str} {sp : Sp} (F : FnOk P w K mg base CX0 k f fd ps sp) : FnOk P w K mg base (L2.CX P w) k f fd ps sp :=
  ⟨F.len, fun A outer s H args us vs Q E hr he hb hv hs => codeAny_mono (F.run A outer s H args us vs Q E hr he hb hv hs) fun r s' h => by
    cases r with
    | ok v => cases v <;> exact h
    | error e => exact False.elim h⟩
theorem HeldX.of {P : Program} {w : World} {K : PySem.W.Frag} {mg : Str → Option Value} {base : Heap} {j k : Nat} {x : Str} {ps : List Str} {sp : Sp} {f : Addr} {fd : FuncData} (G : FG P w K mg base (L2.CX P w) j x ps sp f fd) (h : j ≤ k) : HeldX P w K mg base k f sp := ⟨fd, ps, G.ok.mono h, G.kp, G.b⟩
theorem HeldX.of0 {P : Program} {w : World} {K : PySem.W.Frag} {mg : Str → Option Value} {base : Heap} {j k : Nat} {x : Str} {ps : List Str} {sp : Sp} {f : Addr} {fd : FuncData} (G : FG P w K mg base CX0 j x ps sp f fd) (h : j ≤ k) : HeldX P w K mg base k f sp := ⟨fd, ps, (ok_lift G.ok).mono h, G.kp, G.b⟩
def tCallAX (i : Nat) (S : Addr → Sp → Prop) (E : L2.St → XK) (t : L2.TA) : TE := fun σ H Q => ∃ f sp, σ[i]? = some (some (.ref f)) ∧ S f sp ∧ t σ H fun vs H1 => sp vs H1 Q (E σ)
section
variable {X : Cx} {k i : Nat} {E : L2.St → XK} {x : Str} {p pos : Pos} {e : Expr} {es : List Expr} {t : L2.TA}
theorem pe_callAX {S : Addr → Sp → Prop} (A : ∀ f sp, S f sp → HeldX X.prog X.w X.K X.mg X.base k f sp) (hr : Room k X.A) (hN : X.N[i]? = some x) (hv : Vis X.env.scope x) (hx : ∀ σ, PassesAt (L2.CX X.prog X.w) X σ (E σ)) (ha : PA X (e :: es) t)
    (hdb : (x == ("__debug__" : Str)) = false := by decide) (hcd : (x == ("__classdict__" : Str)) = false := by decide)
    (he : starEach (e :: es) X.env = (false, eval e X.env) :: starEach es X.env := by rfl) (hpl : (backTo pos (starEach es X.env)).any (·.1) = false := by rfl) : PE X (.Call (.Name x p) (e :: es) [] pos) (tCallAX i S E t) := by
  refine ⟨fun pins s σ H Q I h => ?_⟩
  obtain ⟨f, sp, hs, hS, ht⟩ := h
  obtain ⟨fd, ps, F, hk, hb⟩ := (A f sp hS).ex
  refine wpAny_Call_Name_kw (thn ((pe_var (pos := p) hN hv hdb hcd).run pins s σ H (fun v H1 => v = .ref f ∧ H1 = H) I ⟨.ref f, hs, rfl, rfl⟩) fun u s1 ⟨v, H1, I1, r1, q1⟩ => ?_)
  obtain ⟨rfl, rfl⟩ := q1
  cases r1
  refine PySem.W.callWith_K (h₀ := X.base) I.ok.mod.kin hk (thn (ha.run pos pins s1 σ _ _ I1 ht) fun us s2 ⟨vs, H2, I2, r, q⟩ => ⟨I2.kIn, ?_⟩) he hpl
  exact run_fnSD (dvs := []) F hr hb .nil (hx σ) I2 r (by rw [List.append_nil]; exact q)
end
/-! ### 16. answer -/
def table : List (Nat × (List Int → Vbkoah.Call)) := [(2, cHouse), (3, cWant), (1, cTick), (2, cSafe), (3, cDeliver), (3, cLose), (3, cDouble), (1, cCut), (0, cDay), (1, cCalm), (0, cPapers), (2, cGood), (0, cLeases), (0, cHome), (1, cPost), (2, cRow), (0, cNow)]
def ar (k : Nat) : Nat := (table.getD k (0, cNow)).1
def cOf (k : Nat) : List Int → Vbkoah.Call := (table.getD k (0, cNow)).2
/-- the tuple of the deeds, that of their numbers -/
structure Deeds (P : Program) (w : World) (K : PySem.W.Frag) (mg : Str → Option Value) (base : Heap) (c : Ad) (dA : Addr) (fs : List Addr) : Prop where
  g : mg "DEEDS" = some (.ref dA)
  t : ∃ (o : Obj) (its : Array Value) (n : Nat), K.lookup dA = some o ∧ o.cls = .type "tuple" ∧ o.data = .seq its n ∧ its.size ≤ sizeLine ∧ Vals (fs.map V.ref) its.toList
  len : fs.length = 17
  held : ∀ k f, fs[k]? = some f → HeldX P w K mg base 8 f (spDeed c (ar k) (cOf k))
structure Numbers (K : PySem.W.Frag) (mg : Str → Option Value) (nA : Addr) : Prop where
  g : mg "NUMBERS" = some (.ref nA)
  t : ∃ (o : Obj) (its : Array Value) (n : Nat), K.lookup nA = some o ∧ o.cls = .type "tuple" ∧ o.data = .seq its n ∧ its.size ≤ sizeLine ∧ Vals ((table.map fun t => V.int (t.1 : Int))) its.toList
def spAnswer (c : Ad) : Sp := fun vs H Q _ => ∃ (d a : Addr) (l : Lab) (s : SState) (ns : List Int) (k : Nat), vs = [.ref d, .int (k : Int), .ref a] ∧ DeskAt c H l d s ∧ H a = some (.lst (ns.map V.int)) ∧ l a = 0 ∧ k < 17 ∧ ns.length = ar k ∧ Ok s ∧
  ∀ H' l' p, DeskAt c H' l' d (stepP s (cOf k ns)).1 → Ch DA l H l' H' → H p = none → H' p = some (.lst ((stepP s (cOf k ns)).2.map V.int)) → Q (.ref p) H'
/-- return [e.number] -/
def t_refused (C : Addr) : Addr → Value → Option Addr → TS := fun a cls d => tRet (tLst (tCons (tByLow C a cls d (tVar 4)) tNil))
section
variable {P : Program} {w : World} {K : PySem.W.Frag} {mg : Str → Option Value} {base : Heap} {c : Ad} {fI dA : Addr} {fs : List Addr}
theorem ok_answer (T : Txt K mg c fI) (Dd : Deeds P w K mg base c dA fs) {f : Addr} {fd : FuncData} (F : Fun K "answer" "answer" s_answer f fd) : FnOk P w K mg base CX0 9 f fd ["desk", "call", "numbers"] (spAnswer c) := by
  refine F.ok sc_answer (fun vs H Q E h => ?_) (fun cdv A outer s H vs Q E hr h => ?_)
  · obtain ⟨d, a, l, s, ns, k, rfl, _⟩ := h
    rfl
  · obtain ⟨d, a, l, s, ns, k, rfl, DD, ha, la, hk, hn, ok, q⟩ := h
    have hr1 : Room 8 _ := hr.mono (by decide)
    refine ⟨_, pss_cons (ps_set (i := 3) sc_answer.nd rfl (Or.inl rfl) (pe_ix ix_tup (pe_glob (v := .ref dA) rfl Dd.g rfl) (pv 1) (fun _ _ => rfl)))
      (pss_one (ps_try_as (i := 4) (tb := fun W => tRet (tCallAX 3 (fun f sp => ∃ k, fs[k]? = some f ∧ sp = spDeed c (ar k) (cOf k)) (WE W) (tCons (tVar 0) (tCons (tVar 2) tNil)))) (ts := t_refused c.R) (Wout := fun _ _ _ _ => False) rfl rfl sc_answer.nd rfl rfl ⟨rfl, by decide, Or.inl T.low.gC⟩ takes0
          (fun W pn xe tk _ => pss_one (ps_ret (by exact (pe_callAX (fun f sp hs => by obtain ⟨k, hk, rfl⟩ := hs; exact Dd.held k f hk) hr1 rfl (Or.inl rfl) (fun σ => passAt tk σ) (by exact (pa_cons (pv 0) (pa_cons (pv 2) pa_nil)))))))
          (fun a oe cls d pn hz hf => pss_one (ps_ret (by exact (pe_lst (pa_cons (pe_byLow T.low hz hf (pv 4)) pa_nil))))))), ?_⟩
    obtain ⟨fk, hfk⟩ := get_of_lt (l := fs) (i := k) (by rw [Dd.len]; exact hk)
    refine ⟨_, rfl, dA, _, _, _, rfl, rfl, .inr Dd.t, atI_nat (ref_at hfk), fk, _, rfl, ⟨k, hfk, rfl⟩, _, rfl, _, rfl, d, a, l, s, ns, rfl, DD, ha, la, hn, ok, q, fun e he d1 hd1 => ⟨true, T.low.te, fun _ a0 h0 => ?_, fun z => Bool.noConfusion z⟩⟩
    have sm1 : Same H (upd H d1 (.xd [(("number" : Str), .int e)])) := Same.upd_new hd1
    refine ⟨_, rfl, rfl, rfl, d1, _, rfl, upd_same, by show 1 ≤ sizeLine; decide, fun p hp => ?_⟩
    exact fin q he (DD.same sm1) (Ch.of_same sm1) rfl p hp
end
end Pp

set_option Elab.async false
set_option linter.all false
set_option maxRecDepth 100000
set_option maxHeartbeats 2000000
namespace Pp
open PySem PySem.Spec PyProof.Rows L2
open Vbkoah (Lease HomeRec PostRec Up Down Want endedAt endOf hasBack willDo hasGiven says sendTo homeNums postNums upNums downNums)
/-! ### 17. answers -/
abbrev CallN := Nat × List Int
def stp (s : SState) (t : CallN) : SState × List Int := stepP s (cOf t.1 t.2)
def runS (s : SState) (ts : List CallN) : SState := ts.foldl (fun s t => (stp s t).1) s
def runA : SState → List CallN → List Int
  | _, [] => []
  | s, t :: r => (((stp s t).2.length : Int) :: (stp s t).2) ++ runA (stp s t).1 r
def flat (ts : List CallN) : List Int := ts.flatMap fun t => (t.1 : Int) :: t.2
theorem runS_add (s : SState) (a b : List CallN) : runS s (a ++ b) = runS (runS s a) b := List.foldl_append
theorem runA_add : ∀ (a b : List CallN) (s : SState), runA s (a ++ b) = runA s a ++ runA (runS s a) b
  | [], b, s => rfl
  | t :: a, b, s => by
    show _ ++ runA (stp s t).1 (a ++ b) = (_ ++ runA (stp s t).1 a) ++ runA (runS (stp s t).1 a) b
    rw [runA_add a b, List.append_assoc]
theorem flat_add (a b : List CallN) : flat (a ++ b) = flat a ++ flat b := List.flatMap_append
theorem flat_cons (t : CallN) (b : List CallN) : flat (t :: b) = ((t.1 : Int) :: t.2) ++ flat b := rfl
theorem DeskAt.keep0 {c : Ad} {H H' : Hp} {l l' : Lab} {d : Addr} {s : SState} (A : DeskAt c H l d s) (ch : Ch (· = 0) l H l' H') : DeskAt c H' l' d s := by
  obtain ⟨dx, t, Y, hd, ld, dt, TT⟩ := A
  exact ⟨dx, t, Y, ch.keep _ _ hd (by rw [ld]; omega), (ch.lab _ _ hd).trans ld, dt, TT.keep ch fun m hm z => by rcases hm with (h | h | h) | h | h <;> omega⟩
theorem sql_stand {K : PySem.W.Frag} {H H' : Hp} {a : Addr} {xs : List V} (h : SqL K H a xs) (k : ∀ o, H a = some o → H' a = some o) : SqL K H' a xs := by
  rcases h with (h | ⟨o, h⟩) | h
  · exact .inl (.inl (k _ h))
  · exact .inl (.inr ⟨o, k _ h⟩)
  · exact .inr h
theorem ar_at {k : Nat} (h : k < 17) : (table.map fun t => V.int (t.1 : Int))[k]? = some (.int (ar k : Int)) := by
  rw [List.getElem?_map]
  unfold ar
  rw [List.getD_eq_getElem?_getD]
  have hl : k < table.length := h
  rw [List.getElem?_eq_getElem hl]
  rfl
def spAnswers (K : PySem.W.Frag) : Sp := fun vs H Q _ => ∃ (a : Addr) (cs : List CallN), vs = [.ref a] ∧ SqL K H a ((flat cs).map V.int) ∧ (∀ t ∈ cs, t.1 < 17 ∧ t.2.length = ar t.1) ∧ (∀ pre suf, cs = pre ++ suf → Ok (runS Vbkoah.start pre)) ∧ (runA Vbkoah.start cs).length ≤ 10000000 ∧
  ∀ H' p, H' p = some (.lst ((runA Vbkoah.start cs).map V.int)) → Q (.ref p) H'
section
variable {P : Program} {w : World} {K : PySem.W.Frag} {mg : Str → Option Value} {base : Heap} {c : Ad} {fI nA : Addr}
theorem ok_answers (T : Txt K mg c fI) (Nb : Numbers K mg nA) {fC_Desk : Addr} {fdC_Desk : FuncData} (C_Desk : CG P w K mg base c.D "Desk" 7 ["self"] (spDeInit c) fC_Desk fdC_Desk) {fG_answer : Addr} {fdG_answer : FuncData} (G_answer : FG P w K mg base CX0 9 "answer" ["desk", "call", "numbers"] (spAnswer c) fG_answer fdG_answer)
    {f : Addr} {fd : FuncData} (F : Fun K "answers" "answers" s_answers f fd) : FnOk P w K mg base CX0 10 f fd ["calls"] (spAnswers K) := by
  refine F.ok sc_answers (fun vs H Q E h => ?_) (fun cdv A outer s H vs Q E hr h => ?_)
  · obtain ⟨a, cs, rfl, _⟩ := h
    rfl
  · obtain ⟨a, cs, rfl, hS, har, hok, hbig, q⟩ := h
    refine ⟨_, pss_cons (ps_par3 (i := 1) (j := 2) (l := 3) rfl sc_answers.nd rfl rfl rfl (by decide) (by decide) (by decide) rfl rfl rfl (pa_cons (pe_make0 C_Desk.mk_ C_Desk.ok (hr.mono (by decide)) rfl C_Desk.g C_Desk.b .nil pass0) (pa_cons pe_int (pa_cons (pe_lst pa_nil) pa_nil))) rfl)
        (pss_cons (ps_while PassesOwn.never (pt_cmpR op_lt (pv 2) (pe_callB (call_len_seq) (by rfl) T.z_len PySem.boot_len (pa_cons (pv 0) pa_nil)) (nomark _))
        (pss_cons (ps_set (i := 4) sc_answers.nd rfl (Or.inl rfl) (pe_ix ix_list (pv 0) (pv 2) (fun _ _ => rfl)))
        (pss_cons (ps_set (i := 5) sc_answers.nd rfl (Or.inl rfl) (pe_op op_add (pe_op op_add (pv 2) pe_int) (pe_ix ix_tup (pe_glob (v := .ref nA) rfl Nb.g rfl) (pv 4) (fun _ _ => rfl))))
        (pss_cons (ps_set (i := 6) sc_answers.nd rfl (Or.inl rfl) (pe_call G_answer.ok (hr.mono (by decide)) rfl G_answer.g G_answer.kp G_answer.b .nil pass0 (pa_cons (pv 1) (pa_cons (pv 4) (pa_cons (pe_slice sl_list (pv 0) (po_some (pe_op op_add (pv 2) pe_int)) (po_some (pv 5))) pa_nil)))))
        (pss_cons (ps_set (i := 2) sc_answers.nd rfl (Or.inl rfl) (pv 5))
        (pss_cons (ps_expr (pe_bm PySem.F.plainAttrs_list PySem.F.slot_list_append PySem.F.type_list_append mt_append (pv 3) (pa_cons (pe_callB (call_len_seq) (by rfl) T.z_len PySem.boot_len (pa_cons (pv 6) pa_nil)) pa_nil)))
        (pss_one (ps_expr (pe_bm PySem.F.plainAttrs_list PySem.F.slot_list_extend PySem.F.type_list_extend mt_extend (pv 3) (pa_cons (pv 6) pa_nil))))))))))
        (pss_one (ps_ret (pv 3)))), ?_⟩
    intro x dy nx ndx nex
    refine ⟨x, dy, fun _ => 0, rfl, upd_same, fun H1 l1 D1 N1 => ⟨rfl, ?_⟩⟩
    have nw1 := N1.nw nx ndx
    refine ⟨Nat.zero_le _, fun D hD => ?_⟩
    have sm : Same H1 (upd H1 D (.lst [])) := Same.upd_new hD
    refine ⟨_, _, _, rfl, ?_⟩
    have chD : Ch (· = 0) l1 H1 (setL l1 D 0) (upd H1 D (.lst [])) := Ch.new hD
    refine ⟨fun m σ H' => ∃ l' pre suf v4 v5 v6, suf.length = m ∧ cs = pre ++ suf ∧ σ = [some (.ref a), some (.ref x), some (.int ((flat pre).length : Nat)), some (.ref D), v4, v5, v6] ∧ DeskAt c H' l' x (runS Vbkoah.start pre) ∧
      H' D = some (.lst ((runA Vbkoah.start pre).map V.int)) ∧ l' D = 0 ∧ (∀ o, H a = some o → H' a = some o ∧ l' a = 0 ∧ a ≠ D), ⟨cs.length, setL l1 D 0, [], cs, _, _, _, rfl, rfl, rfl, D1.keep0 chD, upd_same, setL_same, fun o ho => ?_⟩, ?_⟩
    · have h1 := nw1 a o ho
      have ne : a ≠ D := ne_of_none h1.1 hD
      exact ⟨by rw [upd_ne ne]; exact h1.1, by rw [setL_ne ne]; exact h1.2, ne⟩
    · rintro m σ H2 ⟨l2, pre, suf, v4, v5, v6, hm, hcs, rfl, D2, hD2, lD, hA⟩
      have hS2 := sql_stand hS (fun o ho => (hA o ho).1)
      refine ⟨_, rfl, _, rfl, a, _, rfl, .inl hS2, _, _, rfl, rfl, _, rfl, ?_⟩
      rw [List.length_map]
      cases suf with
      | nil =>
        rw [List.append_nil] at hcs
        subst hcs
        refine if_false_of (decide_eq_false (by omega)) ⟨_, rfl, q H2 D hD2⟩
      | cons t r =>
        obtain ⟨k, ns⟩ := t
        have ht := har (k, ns) (by rw [hcs]; exact List.mem_append_right _ List.mem_cons_self)
        have hk : k < 17 := ht.1
        have hn : ns.length = ar k := ht.2
        have fcs : flat cs = flat pre ++ (((k : Int) :: ns) ++ flat r) := by rw [hcs, flat_add, flat_cons]
        have fl : (flat cs).length = (flat pre).length + (ar k + 1 + (flat r).length) := by rw [fcs, List.length_append, List.length_append, List.length_cons, hn]
        have okp := hok pre _ hcs
        have hcs2 : cs = (pre ++ [(k, ns)]) ++ r := by rw [hcs, List.append_assoc]; rfl
        have fpre : (flat (pre ++ [(k, ns)])).length = (flat pre).length + (ar k + 1) := by
          rw [flat_add, List.length_append, flat_cons, List.length_append, List.length_cons, hn]
          rfl
        refine if_true_of (decide_eq_true (by omega)) ⟨fun σ' H' => ∃ l' v4 v5 v6, σ' = [some (.ref a), some (.ref x), some (.int ((flat (pre ++ [(k, ns)])).length : Nat)), some (.ref D), v4, v5, v6] ∧ DeskAt c H' l' x (runS Vbkoah.start (pre ++ [(k, ns)])) ∧
            H' D = some (.lst ((runA Vbkoah.start (pre ++ [(k, ns)])).map V.int)) ∧ l' D = 0 ∧ (∀ o, H a = some o → H' a = some o ∧ l' a = 0 ∧ a ≠ D), fun σ' H' ⟨l', v4, v5, v6, h1, h2, h3, h4, h5⟩ => ⟨r.length, by rw [← hm]; exact Nat.lt_succ_self _, l', pre ++ [(k, ns)], r, v4, v5, v6, rfl, hcs2, h1, h2, h3, h4, h5⟩, ?_⟩
        have at0 : (flat cs)[(flat pre).length]? = some (k : Int) := by
          rw [fcs, List.getElem?_append_right (Nat.le_refl _), Nat.sub_self]
          rfl
        have sl : ((flat cs).drop ((flat pre).length + 1)).take (ar k) = ns := by
          rw [fcs, List.drop_append, List.drop_of_length_le (by omega), List.nil_append, show (flat pre).length + 1 - (flat pre).length = 1 by omega]
          show (ns ++ flat r).take (ar k) = ns
          rw [← hn, List.take_left']
          rfl
        refine ⟨_, rfl, _, rfl, a, _, _, _, rfl, rfl, hS2, rix (j := (flat pre).length) rfl at0, ?_⟩
        refine ⟨_, rfl, _, _, rfl, rfl, _, rfl, nA, _, _, _, rfl, rfl, .inr Nb.t, atI_nat (ar_at hk), _, _, rfl, rfl, ?_⟩
        refine ⟨_, rfl, _, rfl, _, rfl, _, rfl, _, _, rfl, rfl, _, rfl, _, rfl, _, rfl, a, _, rfl, hS2, fun p1 hp1 => ?_⟩
        have e1 : cutV ((flat cs).map V.int) (some (((flat pre).length : Int) + 1)) (some (((flat pre).length : Int) + 1 + (ar k : Int))) = ns.map V.int := by
          have h := cut_mid (xs := (flat cs).map V.int) (i := (flat pre).length + 1) (j := (flat pre).length + 1 + ar k)
          rw [Nat.add_sub_cancel_left, ← List.map_drop, ← List.map_take, sl] at h
          exact h
        rw [e1]
        have ch1 : Ch (· = 0) l2 H2 (setL l2 p1 0) (upd H2 p1 (.lst (ns.map V.int))) := Ch.new hp1
        refine ⟨x, p1, setL l2 p1 0, runS Vbkoah.start pre, ns, k, rfl, D2.keep0 ch1, upd_same, setL_same, hk, hn, okp, fun H3 l3 told D3 ch3 hnew htold => ?_⟩
        have Dp : D ≠ p1 := ne_of_none hD2 hp1
        have hD1' : upd H2 p1 (.lst (ns.map V.int)) D = some (.lst ((runA Vbkoah.start pre).map V.int)) := by rw [upd_ne Dp]; exact hD2
        have lD1 : setL l2 p1 0 D = 0 := by rw [setL_ne Dp]; exact lD
        have hD3 := ch3.keep _ _ hD1' (by rw [lD1]; exact fun z => z rfl)
        have lD3 : l3 D = 0 := (ch3.lab _ _ hD1').trans lD1
        have Dt : D ≠ told := ne_of_none hD1' hnew
        have hA3 : ∀ o, H a = some o → H3 a = some o ∧ l3 a = 0 ∧ a ≠ D := fun o ho => by
          obtain ⟨g1, g2, g3⟩ := hA o ho
          have nap : a ≠ p1 := ne_of_none g1 hp1
          have g4 : upd H2 p1 (.lst (ns.map V.int)) a = some o := by rw [upd_ne nap]; exact g1
          have g5 : setL l2 p1 0 a = 0 := by rw [setL_ne nap]; exact g2
          exact ⟨ch3.keep _ _ g4 (by rw [g5]; exact fun z => z rfl), (ch3.lab _ _ g4).trans g5, g3⟩
        have et : stepP (runS Vbkoah.start pre) (cOf k ns) = stp (runS Vbkoah.start pre) (k, ns) := rfl
        rw [et] at D3 htold
        have eS : runS Vbkoah.start (pre ++ [(k, ns)]) = (stp (runS Vbkoah.start pre) (k, ns)).1 := by rw [runS_add]; rfl
        have eA : runA Vbkoah.start (pre ++ [(k, ns)]) = (runA Vbkoah.start pre ++ [((stp (runS Vbkoah.start pre) (k, ns)).2.length : Int)]) ++ (stp (runS Vbkoah.start pre) (k, ns)).2 := by
          rw [runA_add, List.append_assoc]
          show _ ++ ((_ :: _) ++ []) = _
          rw [List.append_nil]
          rfl
        have bigA : (runA Vbkoah.start (pre ++ [(k, ns)])).length ≤ 10000000 := by
          rw [hcs2, runA_add, List.length_append] at hbig
          omega
        have zl : 10000000 < sizeLine := by rw [sizeLine_eq]; decide
        have bigB := bigA
        rw [eA, List.length_append, List.length_append, List.length_singleton] at bigB
        generalize stp (runS Vbkoah.start pre) (k, ns) = S at *
        refine ⟨_, rfl, ?_⟩
        refine ⟨_, rfl, .inl ⟨rfl, _, SqL.of hD3⟩, _, rfl, told, _, rfl, .inl (SqL.of htold), D, _, _, rfl, rfl, hD3, by rw [List.length_map]; omega, ?_⟩
        rw [List.length_map]
        have ht4 : upd H3 D (.lst ((runA Vbkoah.start pre).map V.int ++ [V.int (S.2.length : Nat)])) told = some (.lst (S.2.map V.int)) := by rw [upd_ne Dt.symm]; exact htold
        refine ⟨_, rfl, .inl ⟨rfl, _, SqL.of upd_same⟩, _, rfl, D, told, _, _, rfl, rfl, upd_same, ht4, by rw [List.length_append, List.length_map, List.length_map, List.length_singleton]; omega, ?_⟩
        rw [upd_upd]
        have ch4 : Ch (· = 0) l3 H3 l3 (upd H3 D (.lst ((runA Vbkoah.start pre).map V.int ++ [V.int (S.2.length : Nat)] ++ S.2.map V.int))) := Ch.upd hD3 (by intro xs z; cases z) lD3
        have ei : ((flat (pre ++ [(k, ns)])).length : Int) = ((flat pre).length : Int) + 1 + (ar k : Int) := by omega
        refine ⟨l3, some (.int (k : Int)), some (.int (((flat pre).length : Int) + 1 + (ar k : Int))), some (.ref told), ?_, ?_, ?_, lD3, fun o ho => ?_⟩
        · rw [ei]
          rfl
        · rw [eS]
          exact D3.keep0 ch4
        · rw [upd_same, eA, List.map_append, List.map_append]
          rfl
        · obtain ⟨g1, g2, g3⟩ := hA3 o ho
          exact ⟨by rw [upd_ne g3]; exact g1, g2, g3⟩
end
end Pp

set_option Elab.async false
set_option linter.all false
set_option maxRecDepth 100000
set_option maxHeartbeats 4000000
namespace Pp
open PySem PySem.Spec PyProof.Rows L2
/-! ### 18. all together -/
theorem exm_self {K : PySem.W.Frag} {S : Addr} (h1 : PySem.W.subIn K (.ref S) (.type "BaseException") = some true) (h2 : PySem.W.isClsIn K S = true) (h3 : PySem.W.typeIn K (.ref S) = some (.type "type")) (h4 : PySem.W.subIn K (.ref S) (.ref S) = some true) :
    PySem.W.exmOne K (.ref S) (.ref S) = some true := by
  have e1 : (PySem.W.subIn K (.ref S) (.type "BaseException") == some true) = true := by rw [h1] <;> rfl
  have e2 : ((PySem.W.clsIn K S).isSome && PySem.W.typeIn K (.ref S) == some (.type "type")) = true := by
    have h2' : (PySem.W.clsIn K S).isSome = true := h2
    rw [h2', h3] <;> rfl
  show (if (PySem.W.subIn K (.ref S) (.type "BaseException") == some true) = true then (if ((PySem.W.clsIn K S).isSome && PySem.W.typeIn K (.ref S) == some (.type "type")) = true then PySem.W.subIn K (.ref S) (.ref S) else none) else none) = some true
  rw [if_pos e1, if_pos e2]
  exact h4
def vint : Value → Option Int
  | .int i _ => some i
  | _ => none
theorem vals_int : ∀ {l : List Value} {ns : List Int}, l.map vint = ns.map some → Vals (ns.map V.int) l
  | [], [], _ => .nil
  | [], _ :: _, h => by cases h
  | _ :: _, [], h => by cases h
  | v :: l, n :: ns, h => by
    rw [List.map_cons, List.map_cons] at h
    injection h with h1 h2
    refine .cons ?_ (vals_int h2)
    cases v <;> simp [vint] at h1
    subst h1
    exact ⟨_, rfl⟩
theorem vals_ref : ∀ (fs : List Addr), Vals (fs.map V.ref) (fs.map Value.ref)
  | [] => .nil
  | f :: fs => .cons rfl (vals_ref fs)
theorem all_mk {P : Program} {w : World} {K : PySem.W.Frag} {h : Heap} {mg : Str → Option Value} {fa cR cS cH cP cW cT cD fI dA nA : Addr} (X : K.In h) (G : h.Ns mainGlobals mg) (hfa : mg "answers" = some (.ref fa))
    {nmR qR : Str} {NR : Addr} {bsR : List Value} {snR : List Str} {subR : List Value} {abR : Bool} {colR : Option Bool} {ddR : Option Addr} {m0 m1 m2 m3 m5 : Option Value} {ocR dcR pmR cdR ctR : Value} {odR anR odDE odNU : Option Addr} {slR slDE slNU : Array (Option Value)} {itsDE itsNU : Array Value} {nDE nNU : Nat}
    {ti_MOST_RECORDS ti_LEASE_homes ti_ENDED ti_ASK_homes ti_HEARD ti_GRANT ti_BACK ti_ASK_posts ti_LEASE_posts ti_MOST_FRAMES ti_MOST_WANTS ti_LAST_DAY ti_HOME : Tok} {f_Station_init f_Station_has_room f_Station_record f_Station_make_safe f_Station_lose_unsafe f_Station_safe_records f_Home_all_leases f_Home_ended_at f_Post_grants f_Post_has_back f_Post_learn f_Wire_init f_Wire_send f_Wire_has f_Wire_take f_Wire_is_full f_Wire_twice f_Wire_take_all f_Town_wire f_counted f_now f_end_of f_given_back f_Post_forget f_will_do f_has_given f_last_day f_Town_make_all_safe f_papers_of f_told_records f_demand f_Home_init f_asked f_Post_init f_lease_for f_give_back f_papers f_leases f_asked_home f_demand_in f_take_in f_does_go f_frames_of f_demand_post f_day f_tick_posts f_Town_init f_Town_come f_station_of f_want f_frame_wire f_good f_asked_post f_row f_Town_come_all f_Town_tick_post f_safe f_deliver f_lose f_double f_cut f_Town_calm_day f_Desk_init f_house f_tick_deeds f_calm f_answer f_answers : Addr} {od_Station_init an_Station_init od_Station_has_room an_Station_has_room od_Station_record an_Station_record od_Station_make_safe an_Station_make_safe od_Station_lose_unsafe an_Station_lose_unsafe od_Station_safe_records an_Station_safe_records od_Home_all_leases an_Home_all_leases od_Home_ended_at an_Home_ended_at od_Post_grants an_Post_grants od_Post_has_back an_Post_has_back od_Post_learn an_Post_learn od_Wire_init an_Wire_init od_Wire_send an_Wire_send od_Wire_has an_Wire_has od_Wire_take an_Wire_take od_Wire_is_full an_Wire_is_full od_Wire_twice an_Wire_twice od_Wire_take_all an_Wire_take_all od_Town_wire an_Town_wire od_counted an_counted od_now an_now od_end_of an_end_of od_given_back an_given_back od_Post_forget an_Post_forget od_will_do an_will_do od_has_given an_has_given od_last_day an_last_day od_Town_make_all_safe an_Town_make_all_safe od_papers_of an_papers_of od_told_records an_told_records od_demand an_demand od_Home_init an_Home_init od_asked an_asked od_Post_init an_Post_init od_lease_for an_lease_for od_give_back an_give_back od_papers an_papers od_leases an_leases od_asked_home an_asked_home od_demand_in an_demand_in od_take_in an_take_in od_does_go an_does_go od_frames_of an_frames_of od_demand_post an_demand_post od_day an_day od_tick_posts an_tick_posts od_Town_init an_Town_init od_Town_come an_Town_come od_station_of an_station_of od_want an_want od_frame_wire an_frame_wire od_good an_good od_asked_post an_asked_post od_row an_row od_Town_come_all an_Town_come_all od_Town_tick_post an_Town_tick_post od_safe an_safe od_deliver an_deliver od_lose an_lose od_double an_double od_cut an_cut od_Town_calm_day an_Town_calm_day od_Desk_init an_Desk_init od_house an_house od_tick_deeds an_tick_deeds od_calm an_calm od_answer an_answer od_answers an_answers : Option Addr} {sl_Station_init sl_Station_has_room sl_Station_record sl_Station_make_safe sl_Station_lose_unsafe sl_Station_safe_records sl_Home_all_leases sl_Home_ended_at sl_Post_grants sl_Post_has_back sl_Post_learn sl_Wire_init sl_Wire_send sl_Wire_has sl_Wire_take sl_Wire_is_full sl_Wire_twice sl_Wire_take_all sl_Town_wire sl_counted sl_now sl_end_of sl_given_back sl_Post_forget sl_will_do sl_has_given sl_last_day sl_Town_make_all_safe sl_papers_of sl_told_records sl_demand sl_Home_init sl_asked sl_Post_init sl_lease_for sl_give_back sl_papers sl_leases sl_asked_home sl_demand_in sl_take_in sl_does_go sl_frames_of sl_demand_post sl_day sl_tick_posts sl_Town_init sl_Town_come sl_station_of sl_want sl_frame_wire sl_good sl_asked_post sl_row sl_Town_come_all sl_Town_tick_post sl_safe sl_deliver sl_lose sl_double sl_cut sl_Town_calm_day sl_Desk_init sl_house sl_tick_deeds sl_calm sl_answer sl_answers : Array (Option Value)} {oc_Station_init kV_Station_init dc_Station_init pm_Station_init cd_Station_init ct_Station_init oc_Station_has_room kV_Station_has_room dc_Station_has_room pm_Station_has_room cd_Station_has_room ct_Station_has_room oc_Station_record kV_Station_record dc_Station_record pm_Station_record cd_Station_record ct_Station_record oc_Station_make_safe kV_Station_make_safe dc_Station_make_safe pm_Station_make_safe cd_Station_make_safe ct_Station_make_safe oc_Station_lose_unsafe kV_Station_lose_unsafe dc_Station_lose_unsafe pm_Station_lose_unsafe cd_Station_lose_unsafe ct_Station_lose_unsafe oc_Station_safe_records kV_Station_safe_records dc_Station_safe_records pm_Station_safe_records cd_Station_safe_records ct_Station_safe_records oc_Home_all_leases kV_Home_all_leases dc_Home_all_leases pm_Home_all_leases cd_Home_all_leases ct_Home_all_leases oc_Home_ended_at kV_Home_ended_at dc_Home_ended_at pm_Home_ended_at cd_Home_ended_at ct_Home_ended_at oc_Post_grants kV_Post_grants dc_Post_grants pm_Post_grants cd_Post_grants ct_Post_grants oc_Post_has_back kV_Post_has_back dc_Post_has_back pm_Post_has_back cd_Post_has_back ct_Post_has_back oc_Post_learn kV_Post_learn dc_Post_learn pm_Post_learn cd_Post_learn ct_Post_learn oc_Wire_init kV_Wire_init dc_Wire_init pm_Wire_init cd_Wire_init ct_Wire_init oc_Wire_send kV_Wire_send dc_Wire_send pm_Wire_send cd_Wire_send ct_Wire_send oc_Wire_has kV_Wire_has dc_Wire_has pm_Wire_has cd_Wire_has ct_Wire_has oc_Wire_take kV_Wire_take dc_Wire_take pm_Wire_take cd_Wire_take ct_Wire_take oc_Wire_is_full kV_Wire_is_full dc_Wire_is_full pm_Wire_is_full cd_Wire_is_full ct_Wire_is_full oc_Wire_twice kV_Wire_twice dc_Wire_twice pm_Wire_twice cd_Wire_twice ct_Wire_twice oc_Wire_take_all kV_Wire_take_all dc_Wire_take_all pm_Wire_take_all cd_Wire_take_all ct_Wire_take_all oc_Town_wire kV_Town_wire dc_Town_wire pm_Town_wire cd_Town_wire ct_Town_wire oc_counted kV_counted dc_counted pm_counted cd_counted ct_counted oc_now kV_now dc_now pm_now cd_now ct_now oc_end_of kV_end_of dc_end_of pm_end_of cd_end_of ct_end_of oc_given_back kV_given_back dc_given_back pm_given_back cd_given_back ct_given_back oc_Post_forget kV_Post_forget dc_Post_forget pm_Post_forget cd_Post_forget ct_Post_forget oc_will_do kV_will_do dc_will_do pm_will_do cd_will_do ct_will_do oc_has_given kV_has_given dc_has_given pm_has_given cd_has_given ct_has_given oc_last_day kV_last_day dc_last_day pm_last_day cd_last_day ct_last_day oc_Town_make_all_safe kV_Town_make_all_safe dc_Town_make_all_safe pm_Town_make_all_safe cd_Town_make_all_safe ct_Town_make_all_safe oc_papers_of kV_papers_of dc_papers_of pm_papers_of cd_papers_of ct_papers_of oc_told_records kV_told_records dc_told_records pm_told_records cd_told_records ct_told_records oc_demand kV_demand dc_demand pm_demand cd_demand ct_demand oc_Home_init kV_Home_init dc_Home_init pm_Home_init cd_Home_init ct_Home_init oc_asked kV_asked dc_asked pm_asked cd_asked ct_asked oc_Post_init kV_Post_init dc_Post_init pm_Post_init cd_Post_init ct_Post_init oc_lease_for kV_lease_for dc_lease_for pm_lease_for cd_lease_for ct_lease_for oc_give_back kV_give_back dc_give_back pm_give_back cd_give_back ct_give_back oc_papers kV_papers dc_papers pm_papers cd_papers ct_papers oc_leases kV_leases dc_leases pm_leases cd_leases ct_leases oc_asked_home kV_asked_home dc_asked_home pm_asked_home cd_asked_home ct_asked_home oc_demand_in kV_demand_in dc_demand_in pm_demand_in cd_demand_in ct_demand_in oc_take_in kV_take_in dc_take_in pm_take_in cd_take_in ct_take_in oc_does_go kV_does_go dc_does_go pm_does_go cd_does_go ct_does_go oc_frames_of kV_frames_of dc_frames_of pm_frames_of cd_frames_of ct_frames_of oc_demand_post kV_demand_post dc_demand_post pm_demand_post cd_demand_post ct_demand_post oc_day kV_day dc_day pm_day cd_day ct_day oc_tick_posts kV_tick_posts dc_tick_posts pm_tick_posts cd_tick_posts ct_tick_posts oc_Town_init kV_Town_init dc_Town_init pm_Town_init cd_Town_init ct_Town_init oc_Town_come kV_Town_come dc_Town_come pm_Town_come cd_Town_come ct_Town_come oc_station_of kV_station_of dc_station_of pm_station_of cd_station_of ct_station_of oc_want kV_want dc_want pm_want cd_want ct_want oc_frame_wire kV_frame_wire dc_frame_wire pm_frame_wire cd_frame_wire ct_frame_wire oc_good kV_good dc_good pm_good cd_good ct_good oc_asked_post kV_asked_post dc_asked_post pm_asked_post cd_asked_post ct_asked_post oc_row kV_row dc_row pm_row cd_row ct_row oc_Town_come_all kV_Town_come_all dc_Town_come_all pm_Town_come_all cd_Town_come_all ct_Town_come_all oc_Town_tick_post kV_Town_tick_post dc_Town_tick_post pm_Town_tick_post cd_Town_tick_post ct_Town_tick_post oc_safe kV_safe dc_safe pm_safe cd_safe ct_safe oc_deliver kV_deliver dc_deliver pm_deliver cd_deliver ct_deliver oc_lose kV_lose dc_lose pm_lose cd_lose ct_lose oc_double kV_double dc_double pm_double cd_double ct_double oc_cut kV_cut dc_cut pm_cut cd_cut ct_cut oc_Town_calm_day kV_Town_calm_day dc_Town_calm_day pm_Town_calm_day cd_Town_calm_day ct_Town_calm_day oc_Desk_init kV_Desk_init dc_Desk_init pm_Desk_init cd_Desk_init ct_Desk_init oc_house kV_house dc_house pm_house cd_house ct_house oc_tick_deeds kV_tick_deeds dc_tick_deeds pm_tick_deeds cd_tick_deeds ct_tick_deeds oc_calm kV_calm dc_calm pm_calm cd_calm ct_calm oc_answer kV_answer dc_answer pm_answer cd_answer ct_answer oc_answers kV_answers dc_answers pm_answers cd_answers ct_answers : Value}
    (acS : PySem.W.nsIn K mainGlobals "Station" = some (some (.ref cS)))
    (pgcS : PySem.W.plainGet K cS Str.empty = true)
    (hdcS : PySem.W.hasDictIn K cS = true)
    (pocS : PySem.W.plainOver K cS = true)
    (sacS : PySem.W.findIn K (.ref cS) "__setattr__" = some (some (.builtin "object.__setattr__")))
    (mkcS : PySem.W.makesIn K cS = true)
    (kccS : PySem.W.keepIn K (.ref cS) = true)
    (acH : PySem.W.nsIn K mainGlobals "Home" = some (some (.ref cH)))
    (pgcH : PySem.W.plainGet K cH Str.empty = true)
    (hdcH : PySem.W.hasDictIn K cH = true)
    (pocH : PySem.W.plainOver K cH = true)
    (sacH : PySem.W.findIn K (.ref cH) "__setattr__" = some (some (.builtin "object.__setattr__")))
    (mkcH : PySem.W.makesIn K cH = true)
    (kccH : PySem.W.keepIn K (.ref cH) = true)
    (acP : PySem.W.nsIn K mainGlobals "Post" = some (some (.ref cP)))
    (pgcP : PySem.W.plainGet K cP Str.empty = true)
    (hdcP : PySem.W.hasDictIn K cP = true)
    (pocP : PySem.W.plainOver K cP = true)
    (sacP : PySem.W.findIn K (.ref cP) "__setattr__" = some (some (.builtin "object.__setattr__")))
    (mkcP : PySem.W.makesIn K cP = true)
    (kccP : PySem.W.keepIn K (.ref cP) = true)
    (acW : PySem.W.nsIn K mainGlobals "Wire" = some (some (.ref cW)))
    (pgcW : PySem.W.plainGet K cW Str.empty = true)
    (hdcW : PySem.W.hasDictIn K cW = true)
    (pocW : PySem.W.plainOver K cW = true)
    (sacW : PySem.W.findIn K (.ref cW) "__setattr__" = some (some (.builtin "object.__setattr__")))
    (mkcW : PySem.W.makesIn K cW = true)
    (kccW : PySem.W.keepIn K (.ref cW) = true)
    (acT : PySem.W.nsIn K mainGlobals "Town" = some (some (.ref cT)))
    (pgcT : PySem.W.plainGet K cT Str.empty = true)
    (hdcT : PySem.W.hasDictIn K cT = true)
    (pocT : PySem.W.plainOver K cT = true)
    (sacT : PySem.W.findIn K (.ref cT) "__setattr__" = some (some (.builtin "object.__setattr__")))
    (mkcT : PySem.W.makesIn K cT = true)
    (kccT : PySem.W.keepIn K (.ref cT) = true)
    (acD : PySem.W.nsIn K mainGlobals "Desk" = some (some (.ref cD)))
    (pgcD : PySem.W.plainGet K cD Str.empty = true)
    (hdcD : PySem.W.hasDictIn K cD = true)
    (pocD : PySem.W.plainOver K cD = true)
    (sacD : PySem.W.findIn K (.ref cD) "__setattr__" = some (some (.builtin "object.__setattr__")))
    (mkcD : PySem.W.makesIn K cD = true)
    (kccD : PySem.W.keepIn K (.ref cD) = true)
    (nS_records : PySem.W.findIn K (.ref cS) "records" = some none)
    (nS_sure : PySem.W.findIn K (.ref cS) "sure" = some none)
    (nH_station : PySem.W.findIn K (.ref cH) "station" = some none)
    (nP_station : PySem.W.findIn K (.ref cP) "station" = some none)
    (nP_leases : PySem.W.findIn K (.ref cP) "leases" = some none)
    (nP_wants : PySem.W.findIn K (.ref cP) "wants" = some none)
    (nP_heard : PySem.W.findIn K (.ref cP) "heard" = some none)
    (nW_frames : PySem.W.findIn K (.ref cW) "frames" = some none)
    (nT_home : PySem.W.findIn K (.ref cT) "home" = some none)
    (nT_posts : PySem.W.findIn K (.ref cT) "posts" = some none)
    (nT_to_home : PySem.W.findIn K (.ref cT) "to_home" = some none)
    (nT_to_post : PySem.W.findIn K (.ref cT) "to_post" = some none)
    (nT_length : PySem.W.findIn K (.ref cT) "length" = some none)
    (nT_today : PySem.W.findIn K (.ref cT) "today" = some none)
    (nD_town : PySem.W.findIn K (.ref cD) "town" = some none)
    (i_MOST_RECORDS : PySem.W.nsIn K mainGlobals "MOST_RECORDS" = some (some (.int 80 ti_MOST_RECORDS)))
    (i_LEASE_homes : PySem.W.nsIn K mainGlobals "LEASE_homes" = some (some (.int 0 ti_LEASE_homes)))
    (i_ENDED : PySem.W.nsIn K mainGlobals "ENDED" = some (some (.int 1 ti_ENDED)))
    (i_ASK_homes : PySem.W.nsIn K mainGlobals "ASK_homes" = some (some (.int 0 ti_ASK_homes)))
    (i_HEARD : PySem.W.nsIn K mainGlobals "HEARD" = some (some (.int 1 ti_HEARD)))
    (i_GRANT : PySem.W.nsIn K mainGlobals "GRANT" = some (some (.int 0 ti_GRANT)))
    (i_BACK : PySem.W.nsIn K mainGlobals "BACK" = some (some (.int 1 ti_BACK)))
    (i_ASK_posts : PySem.W.nsIn K mainGlobals "ASK_posts" = some (some (.int 0 ti_ASK_posts)))
    (i_LEASE_posts : PySem.W.nsIn K mainGlobals "LEASE_posts" = some (some (.int 0 ti_LEASE_posts)))
    (i_MOST_FRAMES : PySem.W.nsIn K mainGlobals "MOST_FRAMES" = some (some (.int 8 ti_MOST_FRAMES)))
    (i_MOST_WANTS : PySem.W.nsIn K mainGlobals "MOST_WANTS" = some (some (.int 6 ti_MOST_WANTS)))
    (i_LAST_DAY : PySem.W.nsIn K mainGlobals "LAST_DAY" = some (some (.int 900 ti_LAST_DAY)))
    (i_HOME : PySem.W.nsIn K mainGlobals "HOME" = some (some (.int 3 ti_HOME)))
    (z_len : PySem.W.nsIn K mainGlobals "len" = some none)
    (z_max : PySem.W.nsIn K mainGlobals "max" = some none)
    (z_min : PySem.W.nsIn K mainGlobals "min" = some none)
    (z_any : PySem.W.nsIn K mainGlobals "any" = some none)
    (z_all : PySem.W.nsIn K mainGlobals "all" = some none)
    (z_enumerate : PySem.W.nsIn K mainGlobals "enumerate" = some none)
    (z_range : PySem.W.nsIn K mainGlobals "range" = some none)
    (z_list : PySem.W.nsIn K mainGlobals "list" = some none)
    (aR : PySem.W.nsIn K mainGlobals "Refused" = some (some (.ref cR)))
    (xR : K.lookup cR = some (excClassObj nmR qR cR NR bsR [.type "ValueError", .type "Exception", .type "BaseException", .type "object"] true snR subR abR colR ddR m0 m1 m2 m3 m5 "ValueError.__new__"))
    (saR : PySem.W.findIn K (.ref cR) "__setattr__" = some (some (.builtin "object.__setattr__")))
    (gaR : PySem.W.findIn K (.ref cR) "__getattribute__" = some (some (.builtin "BaseException.__getattribute__")))
    (ggR : PySem.W.findIn K (.ref cR) "__getattr__" = some none)
    (nnR : PySem.W.findIn K (.ref cR) "number" = some none)
    (iR : PySem.W.findIn K (.ref cR) "__init__" = some (some (.ref fI)))
    (tR : PySem.W.typeIn K (.ref fI) = some (.type "function"))
    (lR : K.lookup fI = some ⟨ocR, odR, .func (PySem.W.fnOf "__init__" "Refused.__init__" (PySem.LowX.iA ⟨4, 17, 4, 21⟩ ⟨4, 23, 4, 29⟩) (PySem.LowX.iB ⟨5, 8, 5, 12⟩ ⟨5, 8, 5, 19⟩ ⟨5, 22, 5, 28⟩ ⟨5, 8, 5, 28⟩) PySem.LowX.iS .none .none dcR pmR anR cdR ctR), slR⟩)
    (cdcR : PySem.W.codeIn K cdR "Refused.__init__" = true)
    (kR : PySem.W.keepIn K (.ref cR) = true)
    (eR : PySem.W.subIn K (.ref cR) (.type "BaseException") = some true)
    (tyR : PySem.W.typeIn K (.ref cR) = some (.type "type"))
    (hdR : PySem.W.hasDictIn K cR = true)
    (icR : PySem.W.isClsIn K cR = true)
    (sR : PySem.W.subIn K (.ref cR) (.ref cR) = some true)
    (a_Station_init : PySem.W.findIn K (.ref cS) "__init__" = some (some (.ref f_Station_init)))
    (i_Station_init : PySem.W.isFn K (.ref f_Station_init) = true)
    (l_Station_init : K.lookup f_Station_init = some ⟨oc_Station_init, od_Station_init, .func (PySem.W.fnOf "__init__" "Station.__init__" (defArgs s_Station_init) (defBody s_Station_init) (defScope s_Station_init) .none kV_Station_init dc_Station_init pm_Station_init an_Station_init cd_Station_init ct_Station_init), sl_Station_init⟩)
    (c_Station_init : PySem.W.codeIn K cd_Station_init "Station.__init__" = true)
    (k_Station_init : PySem.W.keepIn K (.ref f_Station_init) = true)
    (a_Station_has_room : PySem.W.findIn K (.ref cS) "has_room" = some (some (.ref f_Station_has_room)))
    (i_Station_has_room : PySem.W.isFn K (.ref f_Station_has_room) = true)
    (l_Station_has_room : K.lookup f_Station_has_room = some ⟨oc_Station_has_room, od_Station_has_room, .func (PySem.W.fnOf "has_room" "Station.has_room" (defArgs s_Station_has_room) (defBody s_Station_has_room) (defScope s_Station_has_room) .none kV_Station_has_room dc_Station_has_room pm_Station_has_room an_Station_has_room cd_Station_has_room ct_Station_has_room), sl_Station_has_room⟩)
    (c_Station_has_room : PySem.W.codeIn K cd_Station_has_room "Station.has_room" = true)
    (k_Station_has_room : PySem.W.keepIn K (.ref f_Station_has_room) = true)
    (a_Station_record : PySem.W.findIn K (.ref cS) "record" = some (some (.ref f_Station_record)))
    (i_Station_record : PySem.W.isFn K (.ref f_Station_record) = true)
    (l_Station_record : K.lookup f_Station_record = some ⟨oc_Station_record, od_Station_record, .func (PySem.W.fnOf "record" "Station.record" (defArgs s_Station_record) (defBody s_Station_record) (defScope s_Station_record) .none kV_Station_record dc_Station_record pm_Station_record an_Station_record cd_Station_record ct_Station_record), sl_Station_record⟩)
    (c_Station_record : PySem.W.codeIn K cd_Station_record "Station.record" = true)
    (k_Station_record : PySem.W.keepIn K (.ref f_Station_record) = true)
    (a_Station_make_safe : PySem.W.findIn K (.ref cS) "make_safe" = some (some (.ref f_Station_make_safe)))
    (i_Station_make_safe : PySem.W.isFn K (.ref f_Station_make_safe) = true)
    (l_Station_make_safe : K.lookup f_Station_make_safe = some ⟨oc_Station_make_safe, od_Station_make_safe, .func (PySem.W.fnOf "make_safe" "Station.make_safe" (defArgs s_Station_make_safe) (defBody s_Station_make_safe) (defScope s_Station_make_safe) .none kV_Station_make_safe dc_Station_make_safe pm_Station_make_safe an_Station_make_safe cd_Station_make_safe ct_Station_make_safe), sl_Station_make_safe⟩)
    (c_Station_make_safe : PySem.W.codeIn K cd_Station_make_safe "Station.make_safe" = true)
    (k_Station_make_safe : PySem.W.keepIn K (.ref f_Station_make_safe) = true)
    (a_Station_lose_unsafe : PySem.W.findIn K (.ref cS) "lose_unsafe" = some (some (.ref f_Station_lose_unsafe)))
    (i_Station_lose_unsafe : PySem.W.isFn K (.ref f_Station_lose_unsafe) = true)
    (l_Station_lose_unsafe : K.lookup f_Station_lose_unsafe = some ⟨oc_Station_lose_unsafe, od_Station_lose_unsafe, .func (PySem.W.fnOf "lose_unsafe" "Station.lose_unsafe" (defArgs s_Station_lose_unsafe) (defBody s_Station_lose_unsafe) (defScope s_Station_lose_unsafe) .none kV_Station_lose_unsafe dc_Station_lose_unsafe pm_Station_lose_unsafe an_Station_lose_unsafe cd_Station_lose_unsafe ct_Station_lose_unsafe), sl_Station_lose_unsafe⟩)
    (c_Station_lose_unsafe : PySem.W.codeIn K cd_Station_lose_unsafe "Station.lose_unsafe" = true)
    (k_Station_lose_unsafe : PySem.W.keepIn K (.ref f_Station_lose_unsafe) = true)
    (a_Station_safe_records : PySem.W.findIn K (.ref cS) "safe_records" = some (some (.ref f_Station_safe_records)))
    (i_Station_safe_records : PySem.W.isFn K (.ref f_Station_safe_records) = true)
    (l_Station_safe_records : K.lookup f_Station_safe_records = some ⟨oc_Station_safe_records, od_Station_safe_records, .func (PySem.W.fnOf "safe_records" "Station.safe_records" (defArgs s_Station_safe_records) (defBody s_Station_safe_records) (defScope s_Station_safe_records) .none kV_Station_safe_records dc_Station_safe_records pm_Station_safe_records an_Station_safe_records cd_Station_safe_records ct_Station_safe_records), sl_Station_safe_records⟩)
    (c_Station_safe_records : PySem.W.codeIn K cd_Station_safe_records "Station.safe_records" = true)
    (k_Station_safe_records : PySem.W.keepIn K (.ref f_Station_safe_records) = true)
    (a_Home_all_leases : PySem.W.findIn K (.ref cH) "all_leases" = some (some (.ref f_Home_all_leases)))
    (i_Home_all_leases : PySem.W.isFn K (.ref f_Home_all_leases) = true)
    (l_Home_all_leases : K.lookup f_Home_all_leases = some ⟨oc_Home_all_leases, od_Home_all_leases, .func (PySem.W.fnOf "all_leases" "Home.all_leases" (defArgs s_Home_all_leases) (defBody s_Home_all_leases) (defScope s_Home_all_leases) .none kV_Home_all_leases dc_Home_all_leases pm_Home_all_leases an_Home_all_leases cd_Home_all_leases ct_Home_all_leases), sl_Home_all_leases⟩)
    (c_Home_all_leases : PySem.W.codeIn K cd_Home_all_leases "Home.all_leases" = true)
    (k_Home_all_leases : PySem.W.keepIn K (.ref f_Home_all_leases) = true)
    (a_Home_ended_at : PySem.W.findIn K (.ref cH) "ended_at" = some (some (.ref f_Home_ended_at)))
    (i_Home_ended_at : PySem.W.isFn K (.ref f_Home_ended_at) = true)
    (l_Home_ended_at : K.lookup f_Home_ended_at = some ⟨oc_Home_ended_at, od_Home_ended_at, .func (PySem.W.fnOf "ended_at" "Home.ended_at" (defArgs s_Home_ended_at) (defBody s_Home_ended_at) (defScope s_Home_ended_at) .none kV_Home_ended_at dc_Home_ended_at pm_Home_ended_at an_Home_ended_at cd_Home_ended_at ct_Home_ended_at), sl_Home_ended_at⟩)
    (c_Home_ended_at : PySem.W.codeIn K cd_Home_ended_at "Home.ended_at" = true)
    (k_Home_ended_at : PySem.W.keepIn K (.ref f_Home_ended_at) = true)
    (a_Post_grants : PySem.W.findIn K (.ref cP) "grants" = some (some (.ref f_Post_grants)))
    (i_Post_grants : PySem.W.isFn K (.ref f_Post_grants) = true)
    (l_Post_grants : K.lookup f_Post_grants = some ⟨oc_Post_grants, od_Post_grants, .func (PySem.W.fnOf "grants" "Post.grants" (defArgs s_Post_grants) (defBody s_Post_grants) (defScope s_Post_grants) .none kV_Post_grants dc_Post_grants pm_Post_grants an_Post_grants cd_Post_grants ct_Post_grants), sl_Post_grants⟩)
    (c_Post_grants : PySem.W.codeIn K cd_Post_grants "Post.grants" = true)
    (k_Post_grants : PySem.W.keepIn K (.ref f_Post_grants) = true)
    (a_Post_has_back : PySem.W.findIn K (.ref cP) "has_back" = some (some (.ref f_Post_has_back)))
    (i_Post_has_back : PySem.W.isFn K (.ref f_Post_has_back) = true)
    (l_Post_has_back : K.lookup f_Post_has_back = some ⟨oc_Post_has_back, od_Post_has_back, .func (PySem.W.fnOf "has_back" "Post.has_back" (defArgs s_Post_has_back) (defBody s_Post_has_back) (defScope s_Post_has_back) .none kV_Post_has_back dc_Post_has_back pm_Post_has_back an_Post_has_back cd_Post_has_back ct_Post_has_back), sl_Post_has_back⟩)
    (c_Post_has_back : PySem.W.codeIn K cd_Post_has_back "Post.has_back" = true)
    (k_Post_has_back : PySem.W.keepIn K (.ref f_Post_has_back) = true)
    (a_Post_learn : PySem.W.findIn K (.ref cP) "learn" = some (some (.ref f_Post_learn)))
    (i_Post_learn : PySem.W.isFn K (.ref f_Post_learn) = true)
    (l_Post_learn : K.lookup f_Post_learn = some ⟨oc_Post_learn, od_Post_learn, .func (PySem.W.fnOf "learn" "Post.learn" (defArgs s_Post_learn) (defBody s_Post_learn) (defScope s_Post_learn) .none kV_Post_learn dc_Post_learn pm_Post_learn an_Post_learn cd_Post_learn ct_Post_learn), sl_Post_learn⟩)
    (c_Post_learn : PySem.W.codeIn K cd_Post_learn "Post.learn" = true)
    (k_Post_learn : PySem.W.keepIn K (.ref f_Post_learn) = true)
    (a_Wire_init : PySem.W.findIn K (.ref cW) "__init__" = some (some (.ref f_Wire_init)))
    (i_Wire_init : PySem.W.isFn K (.ref f_Wire_init) = true)
    (l_Wire_init : K.lookup f_Wire_init = some ⟨oc_Wire_init, od_Wire_init, .func (PySem.W.fnOf "__init__" "Wire.__init__" (defArgs s_Wire_init) (defBody s_Wire_init) (defScope s_Wire_init) .none kV_Wire_init dc_Wire_init pm_Wire_init an_Wire_init cd_Wire_init ct_Wire_init), sl_Wire_init⟩)
    (c_Wire_init : PySem.W.codeIn K cd_Wire_init "Wire.__init__" = true)
    (k_Wire_init : PySem.W.keepIn K (.ref f_Wire_init) = true)
    (a_Wire_send : PySem.W.findIn K (.ref cW) "send" = some (some (.ref f_Wire_send)))
    (i_Wire_send : PySem.W.isFn K (.ref f_Wire_send) = true)
    (l_Wire_send : K.lookup f_Wire_send = some ⟨oc_Wire_send, od_Wire_send, .func (PySem.W.fnOf "send" "Wire.send" (defArgs s_Wire_send) (defBody s_Wire_send) (defScope s_Wire_send) .none kV_Wire_send dc_Wire_send pm_Wire_send an_Wire_send cd_Wire_send ct_Wire_send), sl_Wire_send⟩)
    (c_Wire_send : PySem.W.codeIn K cd_Wire_send "Wire.send" = true)
    (k_Wire_send : PySem.W.keepIn K (.ref f_Wire_send) = true)
    (a_Wire_has : PySem.W.findIn K (.ref cW) "has" = some (some (.ref f_Wire_has)))
    (i_Wire_has : PySem.W.isFn K (.ref f_Wire_has) = true)
    (l_Wire_has : K.lookup f_Wire_has = some ⟨oc_Wire_has, od_Wire_has, .func (PySem.W.fnOf "has" "Wire.has" (defArgs s_Wire_has) (defBody s_Wire_has) (defScope s_Wire_has) .none kV_Wire_has dc_Wire_has pm_Wire_has an_Wire_has cd_Wire_has ct_Wire_has), sl_Wire_has⟩)
    (c_Wire_has : PySem.W.codeIn K cd_Wire_has "Wire.has" = true)
    (k_Wire_has : PySem.W.keepIn K (.ref f_Wire_has) = true)
    (a_Wire_take : PySem.W.findIn K (.ref cW) "take" = some (some (.ref f_Wire_take)))
    (i_Wire_take : PySem.W.isFn K (.ref f_Wire_take) = true)
    (l_Wire_take : K.lookup f_Wire_take = some ⟨oc_Wire_take, od_Wire_take, .func (PySem.W.fnOf "take" "Wire.take" (defArgs s_Wire_take) (defBody s_Wire_take) (defScope s_Wire_take) .none kV_Wire_take dc_Wire_take pm_Wire_take an_Wire_take cd_Wire_take ct_Wire_take), sl_Wire_take⟩)
    (c_Wire_take : PySem.W.codeIn K cd_Wire_take "Wire.take" = true)
    (k_Wire_take : PySem.W.keepIn K (.ref f_Wire_take) = true)
    (a_Wire_is_full : PySem.W.findIn K (.ref cW) "is_full" = some (some (.ref f_Wire_is_full)))
    (i_Wire_is_full : PySem.W.isFn K (.ref f_Wire_is_full) = true)
    (l_Wire_is_full : K.lookup f_Wire_is_full = some ⟨oc_Wire_is_full, od_Wire_is_full, .func (PySem.W.fnOf "is_full" "Wire.is_full" (defArgs s_Wire_is_full) (defBody s_Wire_is_full) (defScope s_Wire_is_full) .none kV_Wire_is_full dc_Wire_is_full pm_Wire_is_full an_Wire_is_full cd_Wire_is_full ct_Wire_is_full), sl_Wire_is_full⟩)
    (c_Wire_is_full : PySem.W.codeIn K cd_Wire_is_full "Wire.is_full" = true)
    (k_Wire_is_full : PySem.W.keepIn K (.ref f_Wire_is_full) = true)
    (a_Wire_twice : PySem.W.findIn K (.ref cW) "twice" = some (some (.ref f_Wire_twice)))
    (i_Wire_twice : PySem.W.isFn K (.ref f_Wire_twice) = true)
    (l_Wire_twice : K.lookup f_Wire_twice = some ⟨oc_Wire_twice, od_Wire_twice, .func (PySem.W.fnOf "twice" "Wire.twice" (defArgs s_Wire_twice) (defBody s_Wire_twice) (defScope s_Wire_twice) .none kV_Wire_twice dc_Wire_twice pm_Wire_twice an_Wire_twice cd_Wire_twice ct_Wire_twice), sl_Wire_twice⟩)
    (c_Wire_twice : PySem.W.codeIn K cd_Wire_twice "Wire.twice" = true)
    (k_Wire_twice : PySem.W.keepIn K (.ref f_Wire_twice) = true)
    (a_Wire_take_all : PySem.W.findIn K (.ref cW) "take_all" = some (some (.ref f_Wire_take_all)))
    (i_Wire_take_all : PySem.W.isFn K (.ref f_Wire_take_all) = true)
    (l_Wire_take_all : K.lookup f_Wire_take_all = some ⟨oc_Wire_take_all, od_Wire_take_all, .func (PySem.W.fnOf "take_all" "Wire.take_all" (defArgs s_Wire_take_all) (defBody s_Wire_take_all) (defScope s_Wire_take_all) .none kV_Wire_take_all dc_Wire_take_all pm_Wire_take_all an_Wire_take_all cd_Wire_take_all ct_Wire_take_all), sl_Wire_take_all⟩)
    (c_Wire_take_all : PySem.W.codeIn K cd_Wire_take_all "Wire.take_all" = true)
    (k_Wire_take_all : PySem.W.keepIn K (.ref f_Wire_take_all) = true)
    (a_Town_wire : PySem.W.findIn K (.ref cT) "wire" = some (some (.ref f_Town_wire)))
    (i_Town_wire : PySem.W.isFn K (.ref f_Town_wire) = true)
    (l_Town_wire : K.lookup f_Town_wire = some ⟨oc_Town_wire, od_Town_wire, .func (PySem.W.fnOf "wire" "Town.wire" (defArgs s_Town_wire) (defBody s_Town_wire) (defScope s_Town_wire) .none kV_Town_wire dc_Town_wire pm_Town_wire an_Town_wire cd_Town_wire ct_Town_wire), sl_Town_wire⟩)
    (c_Town_wire : PySem.W.codeIn K cd_Town_wire "Town.wire" = true)
    (k_Town_wire : PySem.W.keepIn K (.ref f_Town_wire) = true)
    (a_counted : PySem.W.nsIn K mainGlobals "counted" = some (some (.ref f_counted)))
    (l_counted : K.lookup f_counted = some ⟨oc_counted, od_counted, .func (PySem.W.fnOf "counted" "counted" (defArgs s_counted) (defBody s_counted) (defScope s_counted) .none kV_counted dc_counted pm_counted an_counted cd_counted ct_counted), sl_counted⟩)
    (c_counted : PySem.W.codeIn K cd_counted "counted" = true)
    (k_counted : PySem.W.keepIn K (.ref f_counted) = true)
    (a_now : PySem.W.nsIn K mainGlobals "now" = some (some (.ref f_now)))
    (l_now : K.lookup f_now = some ⟨oc_now, od_now, .func (PySem.W.fnOf "now" "now" (defArgs s_now) (defBody s_now) (defScope s_now) .none kV_now dc_now pm_now an_now cd_now ct_now), sl_now⟩)
    (c_now : PySem.W.codeIn K cd_now "now" = true)
    (k_now : PySem.W.keepIn K (.ref f_now) = true)
    (a_end_of : PySem.W.nsIn K mainGlobals "end_of" = some (some (.ref f_end_of)))
    (l_end_of : K.lookup f_end_of = some ⟨oc_end_of, od_end_of, .func (PySem.W.fnOf "end_of" "end_of" (defArgs s_end_of) (defBody s_end_of) (defScope s_end_of) .none kV_end_of dc_end_of pm_end_of an_end_of cd_end_of ct_end_of), sl_end_of⟩)
    (c_end_of : PySem.W.codeIn K cd_end_of "end_of" = true)
    (k_end_of : PySem.W.keepIn K (.ref f_end_of) = true)
    (a_given_back : PySem.W.nsIn K mainGlobals "given_back" = some (some (.ref f_given_back)))
    (l_given_back : K.lookup f_given_back = some ⟨oc_given_back, od_given_back, .func (PySem.W.fnOf "given_back" "given_back" (defArgs s_given_back) (defBody s_given_back) (defScope s_given_back) .none kV_given_back dc_given_back pm_given_back an_given_back cd_given_back ct_given_back), sl_given_back⟩)
    (c_given_back : PySem.W.codeIn K cd_given_back "given_back" = true)
    (k_given_back : PySem.W.keepIn K (.ref f_given_back) = true)
    (a_Post_forget : PySem.W.findIn K (.ref cP) "forget" = some (some (.ref f_Post_forget)))
    (i_Post_forget : PySem.W.isFn K (.ref f_Post_forget) = true)
    (l_Post_forget : K.lookup f_Post_forget = some ⟨oc_Post_forget, od_Post_forget, .func (PySem.W.fnOf "forget" "Post.forget" (defArgs s_Post_forget) (defBody s_Post_forget) (defScope s_Post_forget) .none kV_Post_forget dc_Post_forget pm_Post_forget an_Post_forget cd_Post_forget ct_Post_forget), sl_Post_forget⟩)
    (c_Post_forget : PySem.W.codeIn K cd_Post_forget "Post.forget" = true)
    (k_Post_forget : PySem.W.keepIn K (.ref f_Post_forget) = true)
    (a_will_do : PySem.W.nsIn K mainGlobals "will_do" = some (some (.ref f_will_do)))
    (l_will_do : K.lookup f_will_do = some ⟨oc_will_do, od_will_do, .func (PySem.W.fnOf "will_do" "will_do" (defArgs s_will_do) (defBody s_will_do) (defScope s_will_do) .none kV_will_do dc_will_do pm_will_do an_will_do cd_will_do ct_will_do), sl_will_do⟩)
    (c_will_do : PySem.W.codeIn K cd_will_do "will_do" = true)
    (k_will_do : PySem.W.keepIn K (.ref f_will_do) = true)
    (a_has_given : PySem.W.nsIn K mainGlobals "has_given" = some (some (.ref f_has_given)))
    (l_has_given : K.lookup f_has_given = some ⟨oc_has_given, od_has_given, .func (PySem.W.fnOf "has_given" "has_given" (defArgs s_has_given) (defBody s_has_given) (defScope s_has_given) .none kV_has_given dc_has_given pm_has_given an_has_given cd_has_given ct_has_given), sl_has_given⟩)
    (c_has_given : PySem.W.codeIn K cd_has_given "has_given" = true)
    (k_has_given : PySem.W.keepIn K (.ref f_has_given) = true)
    (a_last_day : PySem.W.nsIn K mainGlobals "last_day" = some (some (.ref f_last_day)))
    (l_last_day : K.lookup f_last_day = some ⟨oc_last_day, od_last_day, .func (PySem.W.fnOf "last_day" "last_day" (defArgs s_last_day) (defBody s_last_day) (defScope s_last_day) .none kV_last_day dc_last_day pm_last_day an_last_day cd_last_day ct_last_day), sl_last_day⟩)
    (c_last_day : PySem.W.codeIn K cd_last_day "last_day" = true)
    (k_last_day : PySem.W.keepIn K (.ref f_last_day) = true)
    (a_Town_make_all_safe : PySem.W.findIn K (.ref cT) "make_all_safe" = some (some (.ref f_Town_make_all_safe)))
    (i_Town_make_all_safe : PySem.W.isFn K (.ref f_Town_make_all_safe) = true)
    (l_Town_make_all_safe : K.lookup f_Town_make_all_safe = some ⟨oc_Town_make_all_safe, od_Town_make_all_safe, .func (PySem.W.fnOf "make_all_safe" "Town.make_all_safe" (defArgs s_Town_make_all_safe) (defBody s_Town_make_all_safe) (defScope s_Town_make_all_safe) .none kV_Town_make_all_safe dc_Town_make_all_safe pm_Town_make_all_safe an_Town_make_all_safe cd_Town_make_all_safe ct_Town_make_all_safe), sl_Town_make_all_safe⟩)
    (c_Town_make_all_safe : PySem.W.codeIn K cd_Town_make_all_safe "Town.make_all_safe" = true)
    (k_Town_make_all_safe : PySem.W.keepIn K (.ref f_Town_make_all_safe) = true)
    (a_papers_of : PySem.W.nsIn K mainGlobals "papers_of" = some (some (.ref f_papers_of)))
    (l_papers_of : K.lookup f_papers_of = some ⟨oc_papers_of, od_papers_of, .func (PySem.W.fnOf "papers_of" "papers_of" (defArgs s_papers_of) (defBody s_papers_of) (defScope s_papers_of) .none kV_papers_of dc_papers_of pm_papers_of an_papers_of cd_papers_of ct_papers_of), sl_papers_of⟩)
    (c_papers_of : PySem.W.codeIn K cd_papers_of "papers_of" = true)
    (k_papers_of : PySem.W.keepIn K (.ref f_papers_of) = true)
    (a_told_records : PySem.W.nsIn K mainGlobals "told_records" = some (some (.ref f_told_records)))
    (l_told_records : K.lookup f_told_records = some ⟨oc_told_records, od_told_records, .func (PySem.W.fnOf "told_records" "told_records" (defArgs s_told_records) (defBody s_told_records) (defScope s_told_records) .none kV_told_records dc_told_records pm_told_records an_told_records cd_told_records ct_told_records), sl_told_records⟩)
    (c_told_records : PySem.W.codeIn K cd_told_records "told_records" = true)
    (k_told_records : PySem.W.keepIn K (.ref f_told_records) = true)
    (a_demand : PySem.W.nsIn K mainGlobals "demand" = some (some (.ref f_demand)))
    (l_demand : K.lookup f_demand = some ⟨oc_demand, od_demand, .func (PySem.W.fnOf "demand" "demand" (defArgs s_demand) (defBody s_demand) (defScope s_demand) .none kV_demand dc_demand pm_demand an_demand cd_demand ct_demand), sl_demand⟩)
    (c_demand : PySem.W.codeIn K cd_demand "demand" = true)
    (k_demand : PySem.W.keepIn K (.ref f_demand) = true)
    (a_Home_init : PySem.W.findIn K (.ref cH) "__init__" = some (some (.ref f_Home_init)))
    (i_Home_init : PySem.W.isFn K (.ref f_Home_init) = true)
    (l_Home_init : K.lookup f_Home_init = some ⟨oc_Home_init, od_Home_init, .func (PySem.W.fnOf "__init__" "Home.__init__" (defArgs s_Home_init) (defBody s_Home_init) (defScope s_Home_init) .none kV_Home_init dc_Home_init pm_Home_init an_Home_init cd_Home_init ct_Home_init), sl_Home_init⟩)
    (c_Home_init : PySem.W.codeIn K cd_Home_init "Home.__init__" = true)
    (k_Home_init : PySem.W.keepIn K (.ref f_Home_init) = true)
    (a_asked : PySem.W.nsIn K mainGlobals "asked" = some (some (.ref f_asked)))
    (l_asked : K.lookup f_asked = some ⟨oc_asked, od_asked, .func (PySem.W.fnOf "asked" "asked" (defArgs s_asked) (defBody s_asked) (defScope s_asked) .none kV_asked dc_asked pm_asked an_asked cd_asked ct_asked), sl_asked⟩)
    (c_asked : PySem.W.codeIn K cd_asked "asked" = true)
    (k_asked : PySem.W.keepIn K (.ref f_asked) = true)
    (a_Post_init : PySem.W.findIn K (.ref cP) "__init__" = some (some (.ref f_Post_init)))
    (i_Post_init : PySem.W.isFn K (.ref f_Post_init) = true)
    (l_Post_init : K.lookup f_Post_init = some ⟨oc_Post_init, od_Post_init, .func (PySem.W.fnOf "__init__" "Post.__init__" (defArgs s_Post_init) (defBody s_Post_init) (defScope s_Post_init) .none kV_Post_init dc_Post_init pm_Post_init an_Post_init cd_Post_init ct_Post_init), sl_Post_init⟩)
    (c_Post_init : PySem.W.codeIn K cd_Post_init "Post.__init__" = true)
    (k_Post_init : PySem.W.keepIn K (.ref f_Post_init) = true)
    (a_lease_for : PySem.W.nsIn K mainGlobals "lease_for" = some (some (.ref f_lease_for)))
    (l_lease_for : K.lookup f_lease_for = some ⟨oc_lease_for, od_lease_for, .func (PySem.W.fnOf "lease_for" "lease_for" (defArgs s_lease_for) (defBody s_lease_for) (defScope s_lease_for) .none kV_lease_for dc_lease_for pm_lease_for an_lease_for cd_lease_for ct_lease_for), sl_lease_for⟩)
    (c_lease_for : PySem.W.codeIn K cd_lease_for "lease_for" = true)
    (k_lease_for : PySem.W.keepIn K (.ref f_lease_for) = true)
    (a_give_back : PySem.W.nsIn K mainGlobals "give_back" = some (some (.ref f_give_back)))
    (l_give_back : K.lookup f_give_back = some ⟨oc_give_back, od_give_back, .func (PySem.W.fnOf "give_back" "give_back" (defArgs s_give_back) (defBody s_give_back) (defScope s_give_back) .none kV_give_back dc_give_back pm_give_back an_give_back cd_give_back ct_give_back), sl_give_back⟩)
    (c_give_back : PySem.W.codeIn K cd_give_back "give_back" = true)
    (k_give_back : PySem.W.keepIn K (.ref f_give_back) = true)
    (a_papers : PySem.W.nsIn K mainGlobals "papers" = some (some (.ref f_papers)))
    (l_papers : K.lookup f_papers = some ⟨oc_papers, od_papers, .func (PySem.W.fnOf "papers" "papers" (defArgs s_papers) (defBody s_papers) (defScope s_papers) .none kV_papers dc_papers pm_papers an_papers cd_papers ct_papers), sl_papers⟩)
    (c_papers : PySem.W.codeIn K cd_papers "papers" = true)
    (k_papers : PySem.W.keepIn K (.ref f_papers) = true)
    (a_leases : PySem.W.nsIn K mainGlobals "leases" = some (some (.ref f_leases)))
    (l_leases : K.lookup f_leases = some ⟨oc_leases, od_leases, .func (PySem.W.fnOf "leases" "leases" (defArgs s_leases) (defBody s_leases) (defScope s_leases) .none kV_leases dc_leases pm_leases an_leases cd_leases ct_leases), sl_leases⟩)
    (c_leases : PySem.W.codeIn K cd_leases "leases" = true)
    (k_leases : PySem.W.keepIn K (.ref f_leases) = true)
    (a_asked_home : PySem.W.nsIn K mainGlobals "asked_home" = some (some (.ref f_asked_home)))
    (l_asked_home : K.lookup f_asked_home = some ⟨oc_asked_home, od_asked_home, .func (PySem.W.fnOf "asked_home" "asked_home" (defArgs s_asked_home) (defBody s_asked_home) (defScope s_asked_home) .none kV_asked_home dc_asked_home pm_asked_home an_asked_home cd_asked_home ct_asked_home), sl_asked_home⟩)
    (c_asked_home : PySem.W.codeIn K cd_asked_home "asked_home" = true)
    (k_asked_home : PySem.W.keepIn K (.ref f_asked_home) = true)
    (a_demand_in : PySem.W.nsIn K mainGlobals "demand_in" = some (some (.ref f_demand_in)))
    (l_demand_in : K.lookup f_demand_in = some ⟨oc_demand_in, od_demand_in, .func (PySem.W.fnOf "demand_in" "demand_in" (defArgs s_demand_in) (defBody s_demand_in) (defScope s_demand_in) .none kV_demand_in dc_demand_in pm_demand_in an_demand_in cd_demand_in ct_demand_in), sl_demand_in⟩)
    (c_demand_in : PySem.W.codeIn K cd_demand_in "demand_in" = true)
    (k_demand_in : PySem.W.keepIn K (.ref f_demand_in) = true)
    (a_take_in : PySem.W.nsIn K mainGlobals "take_in" = some (some (.ref f_take_in)))
    (l_take_in : K.lookup f_take_in = some ⟨oc_take_in, od_take_in, .func (PySem.W.fnOf "take_in" "take_in" (defArgs s_take_in) (defBody s_take_in) (defScope s_take_in) .none kV_take_in dc_take_in pm_take_in an_take_in cd_take_in ct_take_in), sl_take_in⟩)
    (c_take_in : PySem.W.codeIn K cd_take_in "take_in" = true)
    (k_take_in : PySem.W.keepIn K (.ref f_take_in) = true)
    (a_does_go : PySem.W.nsIn K mainGlobals "does_go" = some (some (.ref f_does_go)))
    (l_does_go : K.lookup f_does_go = some ⟨oc_does_go, od_does_go, .func (PySem.W.fnOf "does_go" "does_go" (defArgs s_does_go) (defBody s_does_go) (defScope s_does_go) .none kV_does_go dc_does_go pm_does_go an_does_go cd_does_go ct_does_go), sl_does_go⟩)
    (c_does_go : PySem.W.codeIn K cd_does_go "does_go" = true)
    (k_does_go : PySem.W.keepIn K (.ref f_does_go) = true)
    (a_frames_of : PySem.W.nsIn K mainGlobals "frames_of" = some (some (.ref f_frames_of)))
    (l_frames_of : K.lookup f_frames_of = some ⟨oc_frames_of, od_frames_of, .func (PySem.W.fnOf "frames_of" "frames_of" (defArgs s_frames_of) (defBody s_frames_of) (defScope s_frames_of) .none kV_frames_of dc_frames_of pm_frames_of an_frames_of cd_frames_of ct_frames_of), sl_frames_of⟩)
    (c_frames_of : PySem.W.codeIn K cd_frames_of "frames_of" = true)
    (k_frames_of : PySem.W.keepIn K (.ref f_frames_of) = true)
    (a_demand_post : PySem.W.nsIn K mainGlobals "demand_post" = some (some (.ref f_demand_post)))
    (l_demand_post : K.lookup f_demand_post = some ⟨oc_demand_post, od_demand_post, .func (PySem.W.fnOf "demand_post" "demand_post" (defArgs s_demand_post) (defBody s_demand_post) (defScope s_demand_post) .none kV_demand_post dc_demand_post pm_demand_post an_demand_post cd_demand_post ct_demand_post), sl_demand_post⟩)
    (c_demand_post : PySem.W.codeIn K cd_demand_post "demand_post" = true)
    (k_demand_post : PySem.W.keepIn K (.ref f_demand_post) = true)
    (a_day : PySem.W.nsIn K mainGlobals "day" = some (some (.ref f_day)))
    (l_day : K.lookup f_day = some ⟨oc_day, od_day, .func (PySem.W.fnOf "day" "day" (defArgs s_day) (defBody s_day) (defScope s_day) .none kV_day dc_day pm_day an_day cd_day ct_day), sl_day⟩)
    (c_day : PySem.W.codeIn K cd_day "day" = true)
    (k_day : PySem.W.keepIn K (.ref f_day) = true)
    (a_tick_posts : PySem.W.nsIn K mainGlobals "tick_posts" = some (some (.ref f_tick_posts)))
    (l_tick_posts : K.lookup f_tick_posts = some ⟨oc_tick_posts, od_tick_posts, .func (PySem.W.fnOf "tick" "tick" (defArgs s_tick_posts) (defBody s_tick_posts) (defScope s_tick_posts) .none kV_tick_posts dc_tick_posts pm_tick_posts an_tick_posts cd_tick_posts ct_tick_posts), sl_tick_posts⟩)
    (c_tick_posts : PySem.W.codeIn K cd_tick_posts "tick" = true)
    (k_tick_posts : PySem.W.keepIn K (.ref f_tick_posts) = true)
    (a_Town_init : PySem.W.findIn K (.ref cT) "__init__" = some (some (.ref f_Town_init)))
    (i_Town_init : PySem.W.isFn K (.ref f_Town_init) = true)
    (l_Town_init : K.lookup f_Town_init = some ⟨oc_Town_init, od_Town_init, .func (PySem.W.fnOf "__init__" "Town.__init__" (defArgs s_Town_init) (defBody s_Town_init) (defScope s_Town_init) .none kV_Town_init dc_Town_init pm_Town_init an_Town_init cd_Town_init ct_Town_init), sl_Town_init⟩)
    (c_Town_init : PySem.W.codeIn K cd_Town_init "Town.__init__" = true)
    (k_Town_init : PySem.W.keepIn K (.ref f_Town_init) = true)
    (a_Town_come : PySem.W.findIn K (.ref cT) "come" = some (some (.ref f_Town_come)))
    (i_Town_come : PySem.W.isFn K (.ref f_Town_come) = true)
    (l_Town_come : K.lookup f_Town_come = some ⟨oc_Town_come, od_Town_come, .func (PySem.W.fnOf "come" "Town.come" (defArgs s_Town_come) (defBody s_Town_come) (defScope s_Town_come) .none kV_Town_come dc_Town_come pm_Town_come an_Town_come cd_Town_come ct_Town_come), sl_Town_come⟩)
    (c_Town_come : PySem.W.codeIn K cd_Town_come "Town.come" = true)
    (k_Town_come : PySem.W.keepIn K (.ref f_Town_come) = true)
    (a_station_of : PySem.W.nsIn K mainGlobals "station_of" = some (some (.ref f_station_of)))
    (l_station_of : K.lookup f_station_of = some ⟨oc_station_of, od_station_of, .func (PySem.W.fnOf "station_of" "station_of" (defArgs s_station_of) (defBody s_station_of) (defScope s_station_of) .none kV_station_of dc_station_of pm_station_of an_station_of cd_station_of ct_station_of), sl_station_of⟩)
    (c_station_of : PySem.W.codeIn K cd_station_of "station_of" = true)
    (k_station_of : PySem.W.keepIn K (.ref f_station_of) = true)
    (a_want : PySem.W.nsIn K mainGlobals "want" = some (some (.ref f_want)))
    (l_want : K.lookup f_want = some ⟨oc_want, od_want, .func (PySem.W.fnOf "want" "want" (defArgs s_want) (defBody s_want) (defScope s_want) .none kV_want dc_want pm_want an_want cd_want ct_want), sl_want⟩)
    (c_want : PySem.W.codeIn K cd_want "want" = true)
    (k_want : PySem.W.keepIn K (.ref f_want) = true)
    (a_frame_wire : PySem.W.nsIn K mainGlobals "frame_wire" = some (some (.ref f_frame_wire)))
    (l_frame_wire : K.lookup f_frame_wire = some ⟨oc_frame_wire, od_frame_wire, .func (PySem.W.fnOf "frame_wire" "frame_wire" (defArgs s_frame_wire) (defBody s_frame_wire) (defScope s_frame_wire) .none kV_frame_wire dc_frame_wire pm_frame_wire an_frame_wire cd_frame_wire ct_frame_wire), sl_frame_wire⟩)
    (c_frame_wire : PySem.W.codeIn K cd_frame_wire "frame_wire" = true)
    (k_frame_wire : PySem.W.keepIn K (.ref f_frame_wire) = true)
    (a_good : PySem.W.nsIn K mainGlobals "good" = some (some (.ref f_good)))
    (l_good : K.lookup f_good = some ⟨oc_good, od_good, .func (PySem.W.fnOf "good" "good" (defArgs s_good) (defBody s_good) (defScope s_good) .none kV_good dc_good pm_good an_good cd_good ct_good), sl_good⟩)
    (c_good : PySem.W.codeIn K cd_good "good" = true)
    (k_good : PySem.W.keepIn K (.ref f_good) = true)
    (a_asked_post : PySem.W.nsIn K mainGlobals "asked_post" = some (some (.ref f_asked_post)))
    (l_asked_post : K.lookup f_asked_post = some ⟨oc_asked_post, od_asked_post, .func (PySem.W.fnOf "asked_post" "asked_post" (defArgs s_asked_post) (defBody s_asked_post) (defScope s_asked_post) .none kV_asked_post dc_asked_post pm_asked_post an_asked_post cd_asked_post ct_asked_post), sl_asked_post⟩)
    (c_asked_post : PySem.W.codeIn K cd_asked_post "asked_post" = true)
    (k_asked_post : PySem.W.keepIn K (.ref f_asked_post) = true)
    (a_row : PySem.W.nsIn K mainGlobals "row" = some (some (.ref f_row)))
    (l_row : K.lookup f_row = some ⟨oc_row, od_row, .func (PySem.W.fnOf "row" "row" (defArgs s_row) (defBody s_row) (defScope s_row) .none kV_row dc_row pm_row an_row cd_row ct_row), sl_row⟩)
    (c_row : PySem.W.codeIn K cd_row "row" = true)
    (k_row : PySem.W.keepIn K (.ref f_row) = true)
    (a_Town_come_all : PySem.W.findIn K (.ref cT) "come_all" = some (some (.ref f_Town_come_all)))
    (i_Town_come_all : PySem.W.isFn K (.ref f_Town_come_all) = true)
    (l_Town_come_all : K.lookup f_Town_come_all = some ⟨oc_Town_come_all, od_Town_come_all, .func (PySem.W.fnOf "come_all" "Town.come_all" (defArgs s_Town_come_all) (defBody s_Town_come_all) (defScope s_Town_come_all) .none kV_Town_come_all dc_Town_come_all pm_Town_come_all an_Town_come_all cd_Town_come_all ct_Town_come_all), sl_Town_come_all⟩)
    (c_Town_come_all : PySem.W.codeIn K cd_Town_come_all "Town.come_all" = true)
    (k_Town_come_all : PySem.W.keepIn K (.ref f_Town_come_all) = true)
    (a_Town_tick_post : PySem.W.findIn K (.ref cT) "tick_post" = some (some (.ref f_Town_tick_post)))
    (i_Town_tick_post : PySem.W.isFn K (.ref f_Town_tick_post) = true)
    (l_Town_tick_post : K.lookup f_Town_tick_post = some ⟨oc_Town_tick_post, od_Town_tick_post, .func (PySem.W.fnOf "tick_post" "Town.tick_post" (defArgs s_Town_tick_post) (defBody s_Town_tick_post) (defScope s_Town_tick_post) .none kV_Town_tick_post dc_Town_tick_post pm_Town_tick_post an_Town_tick_post cd_Town_tick_post ct_Town_tick_post), sl_Town_tick_post⟩)
    (c_Town_tick_post : PySem.W.codeIn K cd_Town_tick_post "Town.tick_post" = true)
    (k_Town_tick_post : PySem.W.keepIn K (.ref f_Town_tick_post) = true)
    (a_safe : PySem.W.nsIn K mainGlobals "safe" = some (some (.ref f_safe)))
    (l_safe : K.lookup f_safe = some ⟨oc_safe, od_safe, .func (PySem.W.fnOf "safe" "safe" (defArgs s_safe) (defBody s_safe) (defScope s_safe) .none kV_safe dc_safe pm_safe an_safe cd_safe ct_safe), sl_safe⟩)
    (c_safe : PySem.W.codeIn K cd_safe "safe" = true)
    (k_safe : PySem.W.keepIn K (.ref f_safe) = true)
    (a_deliver : PySem.W.nsIn K mainGlobals "deliver" = some (some (.ref f_deliver)))
    (l_deliver : K.lookup f_deliver = some ⟨oc_deliver, od_deliver, .func (PySem.W.fnOf "deliver" "deliver" (defArgs s_deliver) (defBody s_deliver) (defScope s_deliver) .none kV_deliver dc_deliver pm_deliver an_deliver cd_deliver ct_deliver), sl_deliver⟩)
    (c_deliver : PySem.W.codeIn K cd_deliver "deliver" = true)
    (k_deliver : PySem.W.keepIn K (.ref f_deliver) = true)
    (a_lose : PySem.W.nsIn K mainGlobals "lose" = some (some (.ref f_lose)))
    (l_lose : K.lookup f_lose = some ⟨oc_lose, od_lose, .func (PySem.W.fnOf "lose" "lose" (defArgs s_lose) (defBody s_lose) (defScope s_lose) .none kV_lose dc_lose pm_lose an_lose cd_lose ct_lose), sl_lose⟩)
    (c_lose : PySem.W.codeIn K cd_lose "lose" = true)
    (k_lose : PySem.W.keepIn K (.ref f_lose) = true)
    (a_double : PySem.W.nsIn K mainGlobals "double" = some (some (.ref f_double)))
    (l_double : K.lookup f_double = some ⟨oc_double, od_double, .func (PySem.W.fnOf "double" "double" (defArgs s_double) (defBody s_double) (defScope s_double) .none kV_double dc_double pm_double an_double cd_double ct_double), sl_double⟩)
    (c_double : PySem.W.codeIn K cd_double "double" = true)
    (k_double : PySem.W.keepIn K (.ref f_double) = true)
    (a_cut : PySem.W.nsIn K mainGlobals "cut" = some (some (.ref f_cut)))
    (l_cut : K.lookup f_cut = some ⟨oc_cut, od_cut, .func (PySem.W.fnOf "cut" "cut" (defArgs s_cut) (defBody s_cut) (defScope s_cut) .none kV_cut dc_cut pm_cut an_cut cd_cut ct_cut), sl_cut⟩)
    (c_cut : PySem.W.codeIn K cd_cut "cut" = true)
    (k_cut : PySem.W.keepIn K (.ref f_cut) = true)
    (a_Town_calm_day : PySem.W.findIn K (.ref cT) "calm_day" = some (some (.ref f_Town_calm_day)))
    (i_Town_calm_day : PySem.W.isFn K (.ref f_Town_calm_day) = true)
    (l_Town_calm_day : K.lookup f_Town_calm_day = some ⟨oc_Town_calm_day, od_Town_calm_day, .func (PySem.W.fnOf "calm_day" "Town.calm_day" (defArgs s_Town_calm_day) (defBody s_Town_calm_day) (defScope s_Town_calm_day) .none kV_Town_calm_day dc_Town_calm_day pm_Town_calm_day an_Town_calm_day cd_Town_calm_day ct_Town_calm_day), sl_Town_calm_day⟩)
    (c_Town_calm_day : PySem.W.codeIn K cd_Town_calm_day "Town.calm_day" = true)
    (k_Town_calm_day : PySem.W.keepIn K (.ref f_Town_calm_day) = true)
    (a_Desk_init : PySem.W.findIn K (.ref cD) "__init__" = some (some (.ref f_Desk_init)))
    (i_Desk_init : PySem.W.isFn K (.ref f_Desk_init) = true)
    (l_Desk_init : K.lookup f_Desk_init = some ⟨oc_Desk_init, od_Desk_init, .func (PySem.W.fnOf "__init__" "Desk.__init__" (defArgs s_Desk_init) (defBody s_Desk_init) (defScope s_Desk_init) .none kV_Desk_init dc_Desk_init pm_Desk_init an_Desk_init cd_Desk_init ct_Desk_init), sl_Desk_init⟩)
    (c_Desk_init : PySem.W.codeIn K cd_Desk_init "Desk.__init__" = true)
    (k_Desk_init : PySem.W.keepIn K (.ref f_Desk_init) = true)
    (a_house : PySem.W.nsIn K mainGlobals "house" = some (some (.ref f_house)))
    (l_house : K.lookup f_house = some ⟨oc_house, od_house, .func (PySem.W.fnOf "house" "house" (defArgs s_house) (defBody s_house) (defScope s_house) .none kV_house dc_house pm_house an_house cd_house ct_house), sl_house⟩)
    (c_house : PySem.W.codeIn K cd_house "house" = true)
    (k_house : PySem.W.keepIn K (.ref f_house) = true)
    (a_tick_deeds : PySem.W.nsIn K mainGlobals "tick_deeds" = some (some (.ref f_tick_deeds)))
    (l_tick_deeds : K.lookup f_tick_deeds = some ⟨oc_tick_deeds, od_tick_deeds, .func (PySem.W.fnOf "tick" "tick" (defArgs s_tick_deeds) (defBody s_tick_deeds) (defScope s_tick_deeds) .none kV_tick_deeds dc_tick_deeds pm_tick_deeds an_tick_deeds cd_tick_deeds ct_tick_deeds), sl_tick_deeds⟩)
    (c_tick_deeds : PySem.W.codeIn K cd_tick_deeds "tick" = true)
    (k_tick_deeds : PySem.W.keepIn K (.ref f_tick_deeds) = true)
    (a_calm : PySem.W.nsIn K mainGlobals "calm" = some (some (.ref f_calm)))
    (l_calm : K.lookup f_calm = some ⟨oc_calm, od_calm, .func (PySem.W.fnOf "calm" "calm" (defArgs s_calm) (defBody s_calm) (defScope s_calm) .none kV_calm dc_calm pm_calm an_calm cd_calm ct_calm), sl_calm⟩)
    (c_calm : PySem.W.codeIn K cd_calm "calm" = true)
    (k_calm : PySem.W.keepIn K (.ref f_calm) = true)
    (aDE : PySem.W.nsIn K mainGlobals "DEEDS" = some (some (.ref dA)))
    (lDE : K.lookup dA = some ⟨.type "tuple", odDE, .seq itsDE nDE, slDE⟩)
    (vDE : itsDE.toList = [Value.ref f_house, Value.ref f_want, Value.ref f_tick_deeds, Value.ref f_safe, Value.ref f_deliver, Value.ref f_lose, Value.ref f_double, Value.ref f_cut, Value.ref f_day, Value.ref f_calm, Value.ref f_papers, Value.ref f_good, Value.ref f_leases, Value.ref f_asked_home, Value.ref f_asked_post, Value.ref f_row, Value.ref f_now])
    (aNU : PySem.W.nsIn K mainGlobals "NUMBERS" = some (some (.ref nA)))
    (lNU : K.lookup nA = some ⟨.type "tuple", odNU, .seq itsNU nNU, slNU⟩)
    (vNU : itsNU.toList.map vint = (table.map fun t => some (t.1 : Int)))
    (a_answer : PySem.W.nsIn K mainGlobals "answer" = some (some (.ref f_answer)))
    (l_answer : K.lookup f_answer = some ⟨oc_answer, od_answer, .func (PySem.W.fnOf "answer" "answer" (defArgs s_answer) (defBody s_answer) (defScope s_answer) .none kV_answer dc_answer pm_answer an_answer cd_answer ct_answer), sl_answer⟩)
    (c_answer : PySem.W.codeIn K cd_answer "answer" = true)
    (k_answer : PySem.W.keepIn K (.ref f_answer) = true)
    (a_answers : PySem.W.nsIn K mainGlobals "answers" = some (some (.ref f_answers)))
    (l_answers : K.lookup f_answers = some ⟨oc_answers, od_answers, .func (PySem.W.fnOf "answers" "answers" (defArgs s_answers) (defBody s_answers) (defScope s_answers) .none kV_answers dc_answers pm_answers an_answers cd_answers ct_answers), sl_answers⟩)
    (c_answers : PySem.W.codeIn K cd_answers "answers" = true)
    (k_answers : PySem.W.keepIn K (.ref f_answers) = true) :
    ∃ fd : FuncData, (∀ (s : Shared) (us : List Value), us.length = (["calls"] : List Str).length → BindsTo s fd ⟨us, []⟩ ((["calls"] : List Str).zip us)) ∧ ∀ base : Heap, K.In base → base.Ns mainGlobals mg → FnOk P w K mg base CX0 10 fa fd ["calls"] (spAnswers K) := by
  have e := hfa.symm.trans (PySem.W.mg_of X G a_answers)
  cases e
  have low : PySem.LowX.LowTxt K mg cR fI :=
    { gC := PySem.W.mg_of X G aR, cls := ⟨nmR, qR, NR, bsR, _, snR, subR, abR, colR, ddR, m0, m1, m2, m3, m5, xR, by decide +kernel⟩, sa := saR, ga := gaR, gg := ggR, noN := nnR, iC := iR, tC := tR, kC := kR, exC := eR, tyC := tyR, hdC := hdR, te := exm_self eR icR tyR sR,
      fn := ⟨_, _, _, _, _, _, _, _, _, _, _, _, _, _, lR, cdcR⟩ }
  have T : Txt K mg ⟨cR, cS, cH, cP, cW, cT, cD⟩ fI := ⟨⟨pgcS, hdcS, pocS, sacS⟩, ⟨pgcH, hdcH, pocH, sacH⟩, ⟨pgcP, hdcP, pocP, sacP⟩, ⟨pgcW, hdcW, pocW, sacW⟩, ⟨pgcT, hdcT, pocT, sacT⟩, ⟨pgcD, hdcD, pocD, sacD⟩, nS_records, nS_sure, nH_station, nP_station, nP_leases, nP_wants, nP_heard, nW_frames, nT_home, nT_posts, nT_to_home, nT_to_post, nT_length, nT_today, nD_town, ⟨_, PySem.W.mg_of X G i_MOST_RECORDS⟩, ⟨_, PySem.W.mg_of X G i_LEASE_homes⟩, ⟨_, PySem.W.mg_of X G i_ENDED⟩, ⟨_, PySem.W.mg_of X G i_ASK_homes⟩, ⟨_, PySem.W.mg_of X G i_HEARD⟩, ⟨_, PySem.W.mg_of X G i_GRANT⟩, ⟨_, PySem.W.mg_of X G i_BACK⟩, ⟨_, PySem.W.mg_of X G i_ASK_posts⟩, ⟨_, PySem.W.mg_of X G i_LEASE_posts⟩, ⟨_, PySem.W.mg_of X G i_MOST_FRAMES⟩, ⟨_, PySem.W.mg_of X G i_MOST_WANTS⟩, ⟨_, PySem.W.mg_of X G i_LAST_DAY⟩, ⟨_, PySem.W.mg_of X G i_HOME⟩, PySem.W.mg_none_of X G z_len, PySem.W.mg_none_of X G z_max, PySem.W.mg_none_of X G z_min, PySem.W.mg_none_of X G z_any, PySem.W.mg_none_of X G z_all, PySem.W.mg_none_of X G z_enumerate, PySem.W.mg_none_of X G z_range, PySem.W.mg_none_of X G z_list, low⟩
  refine ⟨PySem.W.fnOf "answers" "answers" (defArgs s_answers) (defBody s_answers) (defScope s_answers) .none kV_answers dc_answers pm_answers an_answers cd_answers ct_answers, fun s us hu => match us, hu with | [_], _ => .of_eq rfl, fun base _ _ => ?_⟩
  let c : Ad := ⟨cR, cS, cH, cP, cW, cT, cD⟩
  have F_Station_init := fun_mk (st := s_Station_init) l_Station_init c_Station_init k_Station_init
  have b_Station_init := F_Station_init.binds (ps := ["self"]) fun _ _ _ _ _ _ us hl => match us, hl with | [_], _ => rfl
  have o_Station_init := ok_Station_init (P := P) (w := w) (base := base) T  F_Station_init
  have G_Station_init : CG P w K mg base cS "Station" 1 ["self"] (spStInit c) f_Station_init _ := ⟨⟨mkcS, a_Station_init, i_Station_init, kccS⟩, PySem.W.mg_of X G acS, o_Station_init, b_Station_init⟩
  have F_Station_has_room := fun_mk (st := s_Station_has_room) l_Station_has_room c_Station_has_room k_Station_has_room
  have b_Station_has_room := F_Station_has_room.binds (ps := ["self"]) fun _ _ _ _ _ _ us hl => match us, hl with | [_], _ => rfl
  have o_Station_has_room := ok_Station_has_room (P := P) (w := w) (base := base) T  F_Station_has_room
  have G_Station_has_room : MG P w K mg base cS 1 "has_room" ["self"] (spHasRoom c) f_Station_has_room _ := ⟨⟨a_Station_has_room, i_Station_has_room, k_Station_has_room⟩, o_Station_has_room, b_Station_has_room⟩
  have F_Station_record := fun_mk (st := s_Station_record) l_Station_record c_Station_record k_Station_record
  have b_Station_record := F_Station_record.binds (ps := ["self", "row"]) fun _ _ _ _ _ _ us hl => match us, hl with | [_, _], _ => rfl
  have o_Station_record := ok_Station_record (P := P) (w := w) (base := base) T  F_Station_record
  have G_Station_record : MG P w K mg base cS 1 "record" ["self", "row"] (spRecord c) f_Station_record _ := ⟨⟨a_Station_record, i_Station_record, k_Station_record⟩, o_Station_record, b_Station_record⟩
  have F_Station_make_safe := fun_mk (st := s_Station_make_safe) l_Station_make_safe c_Station_make_safe k_Station_make_safe
  have b_Station_make_safe := F_Station_make_safe.binds (ps := ["self", "many"]) fun _ _ _ _ _ _ us hl => match us, hl with | [_, _], _ => rfl
  have o_Station_make_safe := ok_Station_make_safe (P := P) (w := w) (base := base) T  F_Station_make_safe
  have G_Station_make_safe : MG P w K mg base cS 1 "make_safe" ["self", "many"] (spMakeSafe c) f_Station_make_safe _ := ⟨⟨a_Station_make_safe, i_Station_make_safe, k_Station_make_safe⟩, o_Station_make_safe, b_Station_make_safe⟩
  have F_Station_lose_unsafe := fun_mk (st := s_Station_lose_unsafe) l_Station_lose_unsafe c_Station_lose_unsafe k_Station_lose_unsafe
  have b_Station_lose_unsafe := F_Station_lose_unsafe.binds (ps := ["self"]) fun _ _ _ _ _ _ us hl => match us, hl with | [_], _ => rfl
  have o_Station_lose_unsafe := ok_Station_lose_unsafe (P := P) (w := w) (base := base) T  F_Station_lose_unsafe
  have G_Station_lose_unsafe : MG P w K mg base cS 1 "lose_unsafe" ["self"] (spLose c) f_Station_lose_unsafe _ := ⟨⟨a_Station_lose_unsafe, i_Station_lose_unsafe, k_Station_lose_unsafe⟩, o_Station_lose_unsafe, b_Station_lose_unsafe⟩
  have F_Station_safe_records := fun_mk (st := s_Station_safe_records) l_Station_safe_records c_Station_safe_records k_Station_safe_records
  have b_Station_safe_records := F_Station_safe_records.binds (ps := ["self"]) fun _ _ _ _ _ _ us hl => match us, hl with | [_], _ => rfl
  have o_Station_safe_records := ok_Station_safe_records (P := P) (w := w) (base := base) T  F_Station_safe_records
  have G_Station_safe_records : MG P w K mg base cS 1 "safe_records" ["self"] (spSafeRecs c) f_Station_safe_records _ := ⟨⟨a_Station_safe_records, i_Station_safe_records, k_Station_safe_records⟩, o_Station_safe_records, b_Station_safe_records⟩
  have F_Home_all_leases := fun_mk (st := s_Home_all_leases) l_Home_all_leases c_Home_all_leases k_Home_all_leases
  have b_Home_all_leases := F_Home_all_leases.binds (ps := ["self"]) fun _ _ _ _ _ _ us hl => match us, hl with | [_], _ => rfl
  have o_Home_all_leases := ok_Home_all_leases (P := P) (w := w) (base := base) T  F_Home_all_leases
  have G_Home_all_leases : MG P w K mg base cH 1 "all_leases" ["self"] (spAllLeases c) f_Home_all_leases _ := ⟨⟨a_Home_all_leases, i_Home_all_leases, k_Home_all_leases⟩, o_Home_all_leases, b_Home_all_leases⟩
  have F_Home_ended_at := fun_mk (st := s_Home_ended_at) l_Home_ended_at c_Home_ended_at k_Home_ended_at
  have b_Home_ended_at := F_Home_ended_at.binds (ps := ["self", "lease"]) fun _ _ _ _ _ _ us hl => match us, hl with | [_, _], _ => rfl
  have o_Home_ended_at := ok_Home_ended_at (P := P) (w := w) (base := base) T  F_Home_ended_at
  have G_Home_ended_at : MG P w K mg base cH 1 "ended_at" ["self", "lease"] (spEndedAt c) f_Home_ended_at _ := ⟨⟨a_Home_ended_at, i_Home_ended_at, k_Home_ended_at⟩, o_Home_ended_at, b_Home_ended_at⟩
  have F_Post_grants := fun_mk (st := s_Post_grants) l_Post_grants c_Post_grants k_Post_grants
  have b_Post_grants := F_Post_grants.binds (ps := ["self"]) fun _ _ _ _ _ _ us hl => match us, hl with | [_], _ => rfl
  have o_Post_grants := ok_Post_grants (P := P) (w := w) (base := base) T  F_Post_grants
  have G_Post_grants : MG P w K mg base cP 1 "grants" ["self"] (spGrants c) f_Post_grants _ := ⟨⟨a_Post_grants, i_Post_grants, k_Post_grants⟩, o_Post_grants, b_Post_grants⟩
  have F_Post_has_back := fun_mk (st := s_Post_has_back) l_Post_has_back c_Post_has_back k_Post_has_back
  have b_Post_has_back := F_Post_has_back.binds (ps := ["self", "lease"]) fun _ _ _ _ _ _ us hl => match us, hl with | [_, _], _ => rfl
  have o_Post_has_back := ok_Post_has_back (P := P) (w := w) (base := base) T  F_Post_has_back
  have G_Post_has_back : MG P w K mg base cP 1 "has_back" ["self", "lease"] (spHasBack c) f_Post_has_back _ := ⟨⟨a_Post_has_back, i_Post_has_back, k_Post_has_back⟩, o_Post_has_back, b_Post_has_back⟩
  have F_Post_learn := fun_mk (st := s_Post_learn) l_Post_learn c_Post_learn k_Post_learn
  have b_Post_learn := F_Post_learn.binds (ps := ["self", "frame"]) fun _ _ _ _ _ _ us hl => match us, hl with | [_, _], _ => rfl
  have o_Post_learn := ok_Post_learn (P := P) (w := w) (base := base) T  F_Post_learn
  have G_Post_learn : MG P w K mg base cP 1 "learn" ["self", "frame"] (spLearn c) f_Post_learn _ := ⟨⟨a_Post_learn, i_Post_learn, k_Post_learn⟩, o_Post_learn, b_Post_learn⟩
  have F_Wire_init := fun_mk (st := s_Wire_init) l_Wire_init c_Wire_init k_Wire_init
  have b_Wire_init := F_Wire_init.binds (ps := ["self"]) fun _ _ _ _ _ _ us hl => match us, hl with | [_], _ => rfl
  have o_Wire_init := ok_Wire_init (P := P) (w := w) (base := base) T  F_Wire_init
  have G_Wire_init : CG P w K mg base cW "Wire" 1 ["self"] (spWiInit c) f_Wire_init _ := ⟨⟨mkcW, a_Wire_init, i_Wire_init, kccW⟩, PySem.W.mg_of X G acW, o_Wire_init, b_Wire_init⟩
  have F_Wire_send := fun_mk (st := s_Wire_send) l_Wire_send c_Wire_send k_Wire_send
  have b_Wire_send := F_Wire_send.binds (ps := ["self", "frame"]) fun _ _ _ _ _ _ us hl => match us, hl with | [_, _], _ => rfl
  have o_Wire_send := ok_Wire_send (P := P) (w := w) (base := base) T  F_Wire_send
  have G_Wire_send : MG P w K mg base cW 1 "send" ["self", "frame"] (spSend c) f_Wire_send _ := ⟨⟨a_Wire_send, i_Wire_send, k_Wire_send⟩, o_Wire_send, b_Wire_send⟩
  have F_Wire_has := fun_mk (st := s_Wire_has) l_Wire_has c_Wire_has k_Wire_has
  have b_Wire_has := F_Wire_has.binds (ps := ["self", "place"]) fun _ _ _ _ _ _ us hl => match us, hl with | [_, _], _ => rfl
  have o_Wire_has := ok_Wire_has (P := P) (w := w) (base := base) T  F_Wire_has
  have G_Wire_has : MG P w K mg base cW 1 "has" ["self", "place"] (spHas c) f_Wire_has _ := ⟨⟨a_Wire_has, i_Wire_has, k_Wire_has⟩, o_Wire_has, b_Wire_has⟩
  have F_Wire_take := fun_mk (st := s_Wire_take) l_Wire_take c_Wire_take k_Wire_take
  have b_Wire_take := F_Wire_take.binds (ps := ["self", "place"]) fun _ _ _ _ _ _ us hl => match us, hl with | [_, _], _ => rfl
  have o_Wire_take := ok_Wire_take (P := P) (w := w) (base := base) T  F_Wire_take
  have G_Wire_take : MG P w K mg base cW 1 "take" ["self", "place"] (spTake c) f_Wire_take _ := ⟨⟨a_Wire_take, i_Wire_take, k_Wire_take⟩, o_Wire_take, b_Wire_take⟩
  have F_Wire_is_full := fun_mk (st := s_Wire_is_full) l_Wire_is_full c_Wire_is_full k_Wire_is_full
  have b_Wire_is_full := F_Wire_is_full.binds (ps := ["self"]) fun _ _ _ _ _ _ us hl => match us, hl with | [_], _ => rfl
  have o_Wire_is_full := ok_Wire_is_full (P := P) (w := w) (base := base) T  F_Wire_is_full
  have G_Wire_is_full : MG P w K mg base cW 1 "is_full" ["self"] (spFull c) f_Wire_is_full _ := ⟨⟨a_Wire_is_full, i_Wire_is_full, k_Wire_is_full⟩, o_Wire_is_full, b_Wire_is_full⟩
  have F_Wire_twice := fun_mk (st := s_Wire_twice) l_Wire_twice c_Wire_twice k_Wire_twice
  have b_Wire_twice := F_Wire_twice.binds (ps := ["self", "place"]) fun _ _ _ _ _ _ us hl => match us, hl with | [_, _], _ => rfl
  have o_Wire_twice := ok_Wire_twice (P := P) (w := w) (base := base) T  F_Wire_twice
  have G_Wire_twice : MG P w K mg base cW 1 "twice" ["self", "place"] (spTwice c) f_Wire_twice _ := ⟨⟨a_Wire_twice, i_Wire_twice, k_Wire_twice⟩, o_Wire_twice, b_Wire_twice⟩
  have F_Wire_take_all := fun_mk (st := s_Wire_take_all) l_Wire_take_all c_Wire_take_all k_Wire_take_all
  have b_Wire_take_all := F_Wire_take_all.binds (ps := ["self"]) fun _ _ _ _ _ _ us hl => match us, hl with | [_], _ => rfl
  have o_Wire_take_all := ok_Wire_take_all (P := P) (w := w) (base := base) T  F_Wire_take_all
  have G_Wire_take_all : MG P w K mg base cW 1 "take_all" ["self"] (spTakeAll c) f_Wire_take_all _ := ⟨⟨a_Wire_take_all, i_Wire_take_all, k_Wire_take_all⟩, o_Wire_take_all, b_Wire_take_all⟩
  have F_Town_wire := fun_mk (st := s_Town_wire) l_Town_wire c_Town_wire k_Town_wire
  have b_Town_wire := F_Town_wire.binds (ps := ["self", "way", "post"]) fun _ _ _ _ _ _ us hl => match us, hl with | [_, _, _], _ => rfl
  have o_Town_wire := ok_Town_wire (P := P) (w := w) (base := base) T  F_Town_wire
  have G_Town_wire : MG P w K mg base cT 1 "wire" ["self", "way", "post"] (spToWire c) f_Town_wire _ := ⟨⟨a_Town_wire, i_Town_wire, k_Town_wire⟩, o_Town_wire, b_Town_wire⟩
  have F_counted := fun_mk (st := s_counted) l_counted c_counted k_counted
  have b_counted := F_counted.binds (ps := ["rows"]) fun _ _ _ _ _ _ us hl => match us, hl with | [_], _ => rfl
  have o_counted := ok_counted (P := P) (w := w) (base := base) T  F_counted
  have G_counted : FG P w K mg base CX0 1 "counted" ["rows"] (spCounted c) f_counted _ := ⟨PySem.W.mg_of X G a_counted, k_counted, o_counted, b_counted⟩
  have F_now := fun_mk (st := s_now) l_now c_now k_now
  have b_now := F_now.binds (ps := ["desk", "numbers"]) fun _ _ _ _ _ _ us hl => match us, hl with | [_, _], _ => rfl
  have o_now := ok_now (P := P) (w := w) (base := base) T  F_now
  have G_now : FG P w K mg base CX0 1 "now" ["desk", "numbers"] (spDeed c 0 cNow) f_now _ := ⟨PySem.W.mg_of X G a_now, k_now, o_now, b_now⟩
  have F_end_of := fun_mk (st := s_end_of) l_end_of c_end_of k_end_of
  have b_end_of := F_end_of.binds (ps := ["home", "number", "lease"]) fun _ _ _ _ _ _ us hl => match us, hl with | [_, _, _], _ => rfl
  have o_end_of := ok_end_of (P := P) (w := w) (base := base) T G_Home_ended_at F_end_of
  have G_end_of : FG P w K mg base CX0 2 "end_of" ["home", "number", "lease"] (spEndOf c) f_end_of _ := ⟨PySem.W.mg_of X G a_end_of, k_end_of, o_end_of, b_end_of⟩
  have F_given_back := fun_mk (st := s_given_back) l_given_back c_given_back k_given_back
  have b_given_back := F_given_back.binds (ps := ["home", "wire", "lease", "last"]) fun _ _ _ _ _ _ us hl => match us, hl with | [_, _, _, _], _ => rfl
  have o_given_back := ok_given_back (P := P) (w := w) (base := base) T G_Home_ended_at G_Station_has_room G_Station_record G_Wire_send F_given_back
  have G_given_back : FG P w K mg base CX0 2 "given_back" ["home", "wire", "lease", "last"] (spGivenBack c) f_given_back _ := ⟨PySem.W.mg_of X G a_given_back, k_given_back, o_given_back, b_given_back⟩
  have F_Post_forget := fun_mk (st := s_Post_forget) l_Post_forget c_Post_forget k_Post_forget
  have b_Post_forget := F_Post_forget.binds (ps := ["self"]) fun _ _ _ _ _ _ us hl => match us, hl with | [_], _ => rfl
  have o_Post_forget := ok_Post_forget (P := P) (w := w) (base := base) T G_Station_lose_unsafe F_Post_forget
  have G_Post_forget : MG P w K mg base cP 2 "forget" ["self"] (spForget c) f_Post_forget _ := ⟨⟨a_Post_forget, i_Post_forget, k_Post_forget⟩, o_Post_forget, b_Post_forget⟩
  have F_will_do := fun_mk (st := s_will_do) l_will_do c_will_do k_will_do
  have b_will_do := F_will_do.binds (ps := ["post", "lease", "want", "day"]) fun _ _ _ _ _ _ us hl => match us, hl with | [_, _, _, _], _ => rfl
  have o_will_do := ok_will_do (P := P) (w := w) (base := base) T G_Post_has_back F_will_do
  have G_will_do : FG P w K mg base CX0 2 "will_do" ["post", "lease", "want", "day"] (spWillDo c) f_will_do _ := ⟨PySem.W.mg_of X G a_will_do, k_will_do, o_will_do, b_will_do⟩
  have F_has_given := fun_mk (st := s_has_given) l_has_given c_has_given k_has_given
  have b_has_given := F_has_given.binds (ps := ["post", "book", "day"]) fun _ _ _ _ _ _ us hl => match us, hl with | [_, _, _], _ => rfl
  have o_has_given := ok_has_given (P := P) (w := w) (base := base) T G_Post_grants F_has_given
  have G_has_given : FG P w K mg base CX0 2 "has_given" ["post", "book", "day"] (spHasGiven c) f_has_given _ := ⟨PySem.W.mg_of X G a_has_given, k_has_given, o_has_given, b_has_given⟩
  have F_last_day := fun_mk (st := s_last_day) l_last_day c_last_day k_last_day
  have b_last_day := F_last_day.binds (ps := ["post", "lease"]) fun _ _ _ _ _ _ us hl => match us, hl with | [_, _], _ => rfl
  have o_last_day := ok_last_day (P := P) (w := w) (base := base) T G_Post_grants F_last_day
  have G_last_day : FG P w K mg base CX0 2 "last_day" ["post", "lease"] (spLastDay c) f_last_day _ := ⟨PySem.W.mg_of X G a_last_day, k_last_day, o_last_day, b_last_day⟩
  have F_Town_make_all_safe := fun_mk (st := s_Town_make_all_safe) l_Town_make_all_safe c_Town_make_all_safe k_Town_make_all_safe
  have b_Town_make_all_safe := F_Town_make_all_safe.binds (ps := ["self"]) fun _ _ _ _ _ _ us hl => match us, hl with | [_], _ => rfl
  have o_Town_make_all_safe := ok_Town_make_all_safe (P := P) (w := w) (base := base) T G_Station_make_safe F_Town_make_all_safe
  have G_Town_make_all_safe : MG P w K mg base cT 2 "make_all_safe" ["self"] (spMkSafe c) f_Town_make_all_safe _ := ⟨⟨a_Town_make_all_safe, i_Town_make_all_safe, k_Town_make_all_safe⟩, o_Town_make_all_safe, b_Town_make_all_safe⟩
  have F_papers_of := fun_mk (st := s_papers_of) l_papers_of c_papers_of k_papers_of
  have b_papers_of := F_papers_of.binds (ps := ["town"]) fun _ _ _ _ _ _ us hl => match us, hl with | [_], _ => rfl
  have o_papers_of := ok_papers_of (P := P) (w := w) (base := base) T G_Station_safe_records F_papers_of
  have G_papers_of : FG P w K mg base CX0 2 "papers_of" ["town"] (spPapersOf c) f_papers_of _ := ⟨PySem.W.mg_of X G a_papers_of, k_papers_of, o_papers_of, b_papers_of⟩
  have F_told_records := fun_mk (st := s_told_records) l_told_records c_told_records k_told_records
  have b_told_records := F_told_records.binds (ps := ["station"]) fun _ _ _ _ _ _ us hl => match us, hl with | [_], _ => rfl
  have o_told_records := ok_told_records (P := P) (w := w) (base := base) T G_counted F_told_records
  have G_told_records : FG P w K mg base CX0 2 "told_records" ["station"] (spTold c) f_told_records _ := ⟨PySem.W.mg_of X G a_told_records, k_told_records, o_told_records, b_told_records⟩
  have F_demand := fun_mk (st := s_demand) l_demand c_demand k_demand
  have b_demand := F_demand.binds (ps := ["is_good", "number"]) fun _ _ _ _ _ _ us hl => match us, hl with | [_, _], _ => rfl
  have o_demand := ok_demand (P := P) (w := w) (base := base) T  F_demand
  have G_demand : FG P w K mg base (L2.CX P w) 3 "demand" ["is_good", "number"] (spDemand c) f_demand _ := ⟨PySem.W.mg_of X G a_demand, k_demand, o_demand, b_demand⟩
  have F_Home_init := fun_mk (st := s_Home_init) l_Home_init c_Home_init k_Home_init
  have b_Home_init := F_Home_init.binds (ps := ["self"]) fun _ _ _ _ _ _ us hl => match us, hl with | [_], _ => rfl
  have o_Home_init := ok_Home_init (P := P) (w := w) (base := base) T G_Station_init F_Home_init
  have G_Home_init : CG P w K mg base cH "Home" 3 ["self"] (spHoInit c) f_Home_init _ := ⟨⟨mkcH, a_Home_init, i_Home_init, kccH⟩, PySem.W.mg_of X G acH, o_Home_init, b_Home_init⟩
  have F_asked := fun_mk (st := s_asked) l_asked c_asked k_asked
  have b_asked := F_asked.binds (ps := ["home", "wire", "post", "book", "day", "length"]) fun _ _ _ _ _ _ us hl => match us, hl with | [_, _, _, _, _, _], _ => rfl
  have o_asked := ok_asked (P := P) (w := w) (base := base) T G_Station_has_room G_Station_record G_Home_all_leases G_Home_ended_at G_Wire_send G_end_of F_asked
  have G_asked : FG P w K mg base CX0 3 "asked" ["home", "wire", "post", "book", "day", "length"] (spAsked c) f_asked _ := ⟨PySem.W.mg_of X G a_asked, k_asked, o_asked, b_asked⟩
  have F_Post_init := fun_mk (st := s_Post_init) l_Post_init c_Post_init k_Post_init
  have b_Post_init := F_Post_init.binds (ps := ["self"]) fun _ _ _ _ _ _ us hl => match us, hl with | [_], _ => rfl
  have o_Post_init := ok_Post_init (P := P) (w := w) (base := base) T G_Station_init F_Post_init
  have G_Post_init : CG P w K mg base cP "Post" 3 ["self"] (spPoInit c) f_Post_init _ := ⟨⟨mkcP, a_Post_init, i_Post_init, kccP⟩, PySem.W.mg_of X G acP, o_Post_init, b_Post_init⟩
  have F_lease_for := fun_mk (st := s_lease_for) l_lease_for c_lease_for k_lease_for
  have b_lease_for := F_lease_for.binds (ps := ["post", "want", "day"]) fun _ _ _ _ _ _ us hl => match us, hl with | [_, _, _], _ => rfl
  have o_lease_for := ok_lease_for (P := P) (w := w) (base := base) T G_will_do F_lease_for
  have G_lease_for : FG P w K mg base CX0 3 "lease_for" ["post", "want", "day"] (spLeaseFor c) f_lease_for _ := ⟨PySem.W.mg_of X G a_lease_for, k_lease_for, o_lease_for, b_lease_for⟩
  have F_give_back := fun_mk (st := s_give_back) l_give_back c_give_back k_give_back
  have b_give_back := F_give_back.binds (ps := ["post", "lease", "day"]) fun _ _ _ _ _ _ us hl => match us, hl with | [_, _, _], _ => rfl
  have o_give_back := ok_give_back (P := P) (w := w) (base := base) T G_will_do G_Station_record G_last_day G_Station_has_room G_Post_has_back F_give_back
  have G_give_back : FG P w K mg base CX0 3 "give_back" ["post", "lease", "day"] (spBack c) f_give_back _ := ⟨PySem.W.mg_of X G a_give_back, k_give_back, o_give_back, b_give_back⟩
  have F_papers := fun_mk (st := s_papers) l_papers c_papers k_papers
  have b_papers := F_papers.binds (ps := ["desk", "numbers"]) fun _ _ _ _ _ _ us hl => match us, hl with | [_, _], _ => rfl
  have o_papers := ok_papers (P := P) (w := w) (base := base) T G_counted G_papers_of F_papers
  have G_papers : FG P w K mg base CX0 3 "papers" ["desk", "numbers"] (spDeed c 0 cPapers) f_papers _ := ⟨PySem.W.mg_of X G a_papers, k_papers, o_papers, b_papers⟩
  have F_leases := fun_mk (st := s_leases) l_leases c_leases k_leases
  have b_leases := F_leases.binds (ps := ["desk", "numbers"]) fun _ _ _ _ _ _ us hl => match us, hl with | [_, _], _ => rfl
  have o_leases := ok_leases (P := P) (w := w) (base := base) T G_counted G_Home_all_leases G_end_of F_leases
  have G_leases : FG P w K mg base CX0 3 "leases" ["desk", "numbers"] (spDeed c 0 cLeases) f_leases _ := ⟨PySem.W.mg_of X G a_leases, k_leases, o_leases, b_leases⟩
  have F_asked_home := fun_mk (st := s_asked_home) l_asked_home c_asked_home k_asked_home
  have b_asked_home := F_asked_home.binds (ps := ["desk", "numbers"]) fun _ _ _ _ _ _ us hl => match us, hl with | [_, _], _ => rfl
  have o_asked_home := ok_asked_home (P := P) (w := w) (base := base) T G_told_records F_asked_home
  have G_asked_home : FG P w K mg base CX0 3 "asked_home" ["desk", "numbers"] (spDeed c 0 cHome) f_asked_home _ := ⟨PySem.W.mg_of X G a_asked_home, k_asked_home, o_asked_home, b_asked_home⟩
  have F_demand_in := fun_mk (st := s_demand_in) l_demand_in c_demand_in k_demand_in
  have b_demand_in := F_demand_in.binds (ps := ["number", "low", "high"]) fun _ _ _ _ _ _ us hl => match us, hl with | [_, _, _], _ => rfl
  have o_demand_in := ok_demand_in (P := P) (w := w) (base := base) T G_demand F_demand_in
  have G_demand_in : FG P w K mg base (L2.CX P w) 4 "demand_in" ["number", "low", "high"] (spDemandIn c) f_demand_in _ := ⟨PySem.W.mg_of X G a_demand_in, k_demand_in, o_demand_in, b_demand_in⟩
  have F_take_in := fun_mk (st := s_take_in) l_take_in c_take_in k_take_in
  have b_take_in := F_take_in.binds (ps := ["home", "wire", "post", "frame", "day", "length"]) fun _ _ _ _ _ _ us hl => match us, hl with | [_, _, _, _, _, _], _ => rfl
  have o_take_in := ok_take_in (P := P) (w := w) (base := base) T G_asked G_given_back F_take_in
  have G_take_in : FG P w K mg base CX0 4 "take_in" ["home", "wire", "post", "frame", "day", "length"] (spTakeIn c) f_take_in _ := ⟨PySem.W.mg_of X G a_take_in, k_take_in, o_take_in, b_take_in⟩
  have F_does_go := fun_mk (st := s_does_go) l_does_go c_does_go k_does_go
  have b_does_go := F_does_go.binds (ps := ["post", "want", "day"]) fun _ _ _ _ _ _ us hl => match us, hl with | [_, _, _], _ => rfl
  have o_does_go := ok_does_go (P := P) (w := w) (base := base) T G_Station_has_room G_Station_record G_lease_for G_has_given F_does_go
  have G_does_go : FG P w K mg base CX0 4 "does_go" ["post", "want", "day"] (spDoesGo c) f_does_go _ := ⟨PySem.W.mg_of X G a_does_go, k_does_go, o_does_go, b_does_go⟩
  have F_frames_of := fun_mk (st := s_frames_of) l_frames_of c_frames_of k_frames_of
  have b_frames_of := F_frames_of.binds (ps := ["post", "day"]) fun _ _ _ _ _ _ us hl => match us, hl with | [_, _], _ => rfl
  have o_frames_of := ok_frames_of (P := P) (w := w) (base := base) T G_Station_safe_records G_lease_for F_frames_of
  have G_frames_of : FG P w K mg base CX0 4 "frames_of" ["post", "day"] (spFramesOf c) f_frames_of _ := ⟨PySem.W.mg_of X G a_frames_of, k_frames_of, o_frames_of, b_frames_of⟩
  have F_demand_post := fun_mk (st := s_demand_post) l_demand_post c_demand_post k_demand_post
  have b_demand_post := F_demand_post.binds (ps := ["desk", "post"]) fun _ _ _ _ _ _ us hl => match us, hl with | [_, _], _ => rfl
  have o_demand_post := ok_demand_post (P := P) (w := w) (base := base) T G_demand F_demand_post
  have G_demand_post : FG P w K mg base (L2.CX P w) 4 "demand_post" ["desk", "post"] (spDemandPost c) f_demand_post _ := ⟨PySem.W.mg_of X G a_demand_post, k_demand_post, o_demand_post, b_demand_post⟩
  have F_day := fun_mk (st := s_day) l_day c_day k_day
  have b_day := F_day.binds (ps := ["desk", "numbers"]) fun _ _ _ _ _ _ us hl => match us, hl with | [_, _], _ => rfl
  have o_day := ok_day (P := P) (w := w) (base := base) T G_demand F_day
  have G_day : FG P w K mg base (L2.CX P w) 4 "day" ["desk", "numbers"] (spDeed c 0 cDay) f_day _ := ⟨PySem.W.mg_of X G a_day, k_day, o_day, b_day⟩
  have F_tick_posts := fun_mk (st := s_tick_posts) l_tick_posts c_tick_posts k_tick_posts
  have b_tick_posts := F_tick_posts.binds (ps := ["post", "wire", "day"]) fun _ _ _ _ _ _ us hl => match us, hl with | [_, _, _], _ => rfl
  have o_tick_posts := ok_tick_posts (P := P) (w := w) (base := base) T G_Wire_send G_frames_of G_give_back G_does_go F_tick_posts
  have G_tick_posts : FG P w K mg base CX0 5 "tick_posts" ["post", "wire", "day"] (spTick c) f_tick_posts _ := ⟨PySem.W.mg_of X G a_tick_posts, k_tick_posts, o_tick_posts, b_tick_posts⟩
  have F_Town_init := fun_mk (st := s_Town_init) l_Town_init c_Town_init k_Town_init
  have b_Town_init := F_Town_init.binds (ps := ["self", "many", "length"]) fun _ _ _ _ _ _ us hl => match us, hl with | [_, _, _], _ => rfl
  have o_Town_init := ok_Town_init (P := P) (w := w) (base := base) T G_Wire_init G_Post_init G_Home_init F_Town_init
  have G_Town_init : CG P w K mg base cT "Town" 5 ["self", "many", "length"] (spToInit c) f_Town_init _ := ⟨⟨mkcT, a_Town_init, i_Town_init, kccT⟩, PySem.W.mg_of X G acT, o_Town_init, b_Town_init⟩
  have F_Town_come := fun_mk (st := s_Town_come) l_Town_come c_Town_come k_Town_come
  have b_Town_come := F_Town_come.binds (ps := ["self", "way", "post", "frame"]) fun _ _ _ _ _ _ us hl => match us, hl with | [_, _, _, _], _ => rfl
  have o_Town_come := ok_Town_come (P := P) (w := w) (base := base) T G_take_in G_Post_learn F_Town_come
  have G_Town_come : MG P w K mg base cT 5 "come" ["self", "way", "post", "frame"] (spCome c) f_Town_come _ := ⟨⟨a_Town_come, i_Town_come, k_Town_come⟩, o_Town_come, b_Town_come⟩
  have F_station_of := fun_mk (st := s_station_of) l_station_of c_station_of k_station_of
  have b_station_of := F_station_of.binds (ps := ["desk", "number"]) fun _ _ _ _ _ _ us hl => match us, hl with | [_, _], _ => rfl
  have o_station_of := ok_station_of (P := P) (w := w) (base := base) T G_demand_post F_station_of
  have G_station_of : FG P w K mg base (L2.CX P w) 5 "station_of" ["desk", "number"] (spStationOf c) f_station_of _ := ⟨PySem.W.mg_of X G a_station_of, k_station_of, o_station_of, b_station_of⟩
  have F_want := fun_mk (st := s_want) l_want c_want k_want
  have b_want := F_want.binds (ps := ["desk", "numbers"]) fun _ _ _ _ _ _ us hl => match us, hl with | [_, _], _ => rfl
  have o_want := ok_want (P := P) (w := w) (base := base) T G_demand G_demand_post G_demand_in F_want
  have G_want : FG P w K mg base (L2.CX P w) 5 "want" ["desk", "numbers"] (spDeed c 3 cWant) f_want _ := ⟨PySem.W.mg_of X G a_want, k_want, o_want, b_want⟩
  have F_frame_wire := fun_mk (st := s_frame_wire) l_frame_wire c_frame_wire k_frame_wire
  have b_frame_wire := F_frame_wire.binds (ps := ["desk", "numbers"]) fun _ _ _ _ _ _ us hl => match us, hl with | [_, _], _ => rfl
  have o_frame_wire := ok_frame_wire (P := P) (w := w) (base := base) T G_demand G_Wire_has G_Town_wire G_demand_post G_demand_in F_frame_wire
  have G_frame_wire : FG P w K mg base (L2.CX P w) 5 "frame_wire" ["desk", "numbers"] (spFrameWire c) f_frame_wire _ := ⟨PySem.W.mg_of X G a_frame_wire, k_frame_wire, o_frame_wire, b_frame_wire⟩
  have F_good := fun_mk (st := s_good) l_good c_good k_good
  have b_good := F_good.binds (ps := ["desk", "numbers"]) fun _ _ _ _ _ _ us hl => match us, hl with | [_, _], _ => rfl
  have o_good := ok_good (P := P) (w := w) (base := base) T G_demand_in G_counted G_papers_of F_good
  have G_good : FG P w K mg base (L2.CX P w) 5 "good" ["desk", "numbers"] (spDeed c 2 cGood) f_good _ := ⟨PySem.W.mg_of X G a_good, k_good, o_good, b_good⟩
  have F_asked_post := fun_mk (st := s_asked_post) l_asked_post c_asked_post k_asked_post
  have b_asked_post := F_asked_post.binds (ps := ["desk", "numbers"]) fun _ _ _ _ _ _ us hl => match us, hl with | [_, _], _ => rfl
  have o_asked_post := ok_asked_post (P := P) (w := w) (base := base) T G_demand_in G_demand_post G_counted G_told_records F_asked_post
  have G_asked_post : FG P w K mg base (L2.CX P w) 5 "asked_post" ["desk", "numbers"] (spDeed c 1 cPost) f_asked_post _ := ⟨PySem.W.mg_of X G a_asked_post, k_asked_post, o_asked_post, b_asked_post⟩
  have F_row := fun_mk (st := s_row) l_row c_row k_row
  have b_row := F_row.binds (ps := ["desk", "numbers"]) fun _ _ _ _ _ _ us hl => match us, hl with | [_, _], _ => rfl
  have o_row := ok_row (P := P) (w := w) (base := base) T G_demand_in G_demand_post G_counted G_Town_wire F_row
  have G_row : FG P w K mg base (L2.CX P w) 5 "row" ["desk", "numbers"] (spDeed c 2 cRow) f_row _ := ⟨PySem.W.mg_of X G a_row, k_row, o_row, b_row⟩
  have F_Town_come_all := fun_mk (st := s_Town_come_all) l_Town_come_all c_Town_come_all k_Town_come_all
  have b_Town_come_all := F_Town_come_all.binds (ps := ["self", "way"]) fun _ _ _ _ _ _ us hl => match us, hl with | [_, _], _ => rfl
  have o_Town_come_all := ok_Town_come_all (P := P) (w := w) (base := base) T G_Wire_take_all G_Town_wire G_Town_come F_Town_come_all
  have G_Town_come_all : MG P w K mg base cT 6 "come_all" ["self", "way"] (spComeAll c) f_Town_come_all _ := ⟨⟨a_Town_come_all, i_Town_come_all, k_Town_come_all⟩, o_Town_come_all, b_Town_come_all⟩
  have F_Town_tick_post := fun_mk (st := s_Town_tick_post) l_Town_tick_post c_Town_tick_post k_Town_tick_post
  have b_Town_tick_post := F_Town_tick_post.binds (ps := ["self", "post"]) fun _ _ _ _ _ _ us hl => match us, hl with | [_, _], _ => rfl
  have o_Town_tick_post := ok_Town_tick_post (P := P) (w := w) (base := base) T G_tick_posts F_Town_tick_post
  have G_Town_tick_post : MG P w K mg base cT 6 "tick_post" ["self", "post"] (spTickPost c) f_Town_tick_post _ := ⟨⟨a_Town_tick_post, i_Town_tick_post, k_Town_tick_post⟩, o_Town_tick_post, b_Town_tick_post⟩
  have F_safe := fun_mk (st := s_safe) l_safe c_safe k_safe
  have b_safe := F_safe.binds (ps := ["desk", "numbers"]) fun _ _ _ _ _ _ us hl => match us, hl with | [_, _], _ => rfl
  have o_safe := ok_safe (P := P) (w := w) (base := base) T G_demand_in G_station_of G_Station_make_safe F_safe
  have G_safe : FG P w K mg base (L2.CX P w) 6 "safe" ["desk", "numbers"] (spDeed c 2 cSafe) f_safe _ := ⟨PySem.W.mg_of X G a_safe, k_safe, o_safe, b_safe⟩
  have F_deliver := fun_mk (st := s_deliver) l_deliver c_deliver k_deliver
  have b_deliver := F_deliver.binds (ps := ["desk", "numbers"]) fun _ _ _ _ _ _ us hl => match us, hl with | [_, _], _ => rfl
  have o_deliver := ok_deliver (P := P) (w := w) (base := base) T G_frame_wire G_Wire_take G_Town_come F_deliver
  have G_deliver : FG P w K mg base (L2.CX P w) 6 "deliver" ["desk", "numbers"] (spDeed c 3 cDeliver) f_deliver _ := ⟨PySem.W.mg_of X G a_deliver, k_deliver, o_deliver, b_deliver⟩
  have F_lose := fun_mk (st := s_lose) l_lose c_lose k_lose
  have b_lose := F_lose.binds (ps := ["desk", "numbers"]) fun _ _ _ _ _ _ us hl => match us, hl with | [_, _], _ => rfl
  have o_lose := ok_lose (P := P) (w := w) (base := base) T G_frame_wire G_Wire_take F_lose
  have G_lose : FG P w K mg base (L2.CX P w) 6 "lose" ["desk", "numbers"] (spDeed c 3 cLose) f_lose _ := ⟨PySem.W.mg_of X G a_lose, k_lose, o_lose, b_lose⟩
  have F_double := fun_mk (st := s_double) l_double c_double k_double
  have b_double := F_double.binds (ps := ["desk", "numbers"]) fun _ _ _ _ _ _ us hl => match us, hl with | [_, _], _ => rfl
  have o_double := ok_double (P := P) (w := w) (base := base) T G_demand G_frame_wire G_Wire_twice G_Wire_is_full F_double
  have G_double : FG P w K mg base (L2.CX P w) 6 "double" ["desk", "numbers"] (spDeed c 3 cDouble) f_double _ := ⟨PySem.W.mg_of X G a_double, k_double, o_double, b_double⟩
  have F_cut := fun_mk (st := s_cut) l_cut c_cut k_cut
  have b_cut := F_cut.binds (ps := ["desk", "numbers"]) fun _ _ _ _ _ _ us hl => match us, hl with | [_, _], _ => rfl
  have o_cut := ok_cut (P := P) (w := w) (base := base) T G_demand_in G_station_of G_Station_lose_unsafe G_Post_forget F_cut
  have G_cut : FG P w K mg base (L2.CX P w) 6 "cut" ["desk", "numbers"] (spDeed c 1 cCut) f_cut _ := ⟨PySem.W.mg_of X G a_cut, k_cut, o_cut, b_cut⟩
  have F_Town_calm_day := fun_mk (st := s_Town_calm_day) l_Town_calm_day c_Town_calm_day k_Town_calm_day
  have b_Town_calm_day := F_Town_calm_day.binds (ps := ["self"]) fun _ _ _ _ _ _ us hl => match us, hl with | [_], _ => rfl
  have o_Town_calm_day := ok_Town_calm_day (P := P) (w := w) (base := base) T G_Town_come_all G_Town_make_all_safe G_Town_tick_post F_Town_calm_day
  have G_Town_calm_day : MG P w K mg base cT 7 "calm_day" ["self"] (spCalmDay c) f_Town_calm_day _ := ⟨⟨a_Town_calm_day, i_Town_calm_day, k_Town_calm_day⟩, o_Town_calm_day, b_Town_calm_day⟩
  have F_Desk_init := fun_mk (st := s_Desk_init) l_Desk_init c_Desk_init k_Desk_init
  have b_Desk_init := F_Desk_init.binds (ps := ["self"]) fun _ _ _ _ _ _ us hl => match us, hl with | [_], _ => rfl
  have o_Desk_init := ok_Desk_init (P := P) (w := w) (base := base) T G_Town_init F_Desk_init
  have G_Desk_init : CG P w K mg base cD "Desk" 7 ["self"] (spDeInit c) f_Desk_init _ := ⟨⟨mkcD, a_Desk_init, i_Desk_init, kccD⟩, PySem.W.mg_of X G acD, o_Desk_init, b_Desk_init⟩
  have F_house := fun_mk (st := s_house) l_house c_house k_house
  have b_house := F_house.binds (ps := ["desk", "numbers"]) fun _ _ _ _ _ _ us hl => match us, hl with | [_, _], _ => rfl
  have o_house := ok_house (P := P) (w := w) (base := base) T G_demand_in G_Town_init F_house
  have G_house : FG P w K mg base (L2.CX P w) 7 "house" ["desk", "numbers"] (spDeed c 2 cHouse) f_house _ := ⟨PySem.W.mg_of X G a_house, k_house, o_house, b_house⟩
  have F_tick_deeds := fun_mk (st := s_tick_deeds) l_tick_deeds c_tick_deeds k_tick_deeds
  have b_tick_deeds := F_tick_deeds.binds (ps := ["desk", "numbers"]) fun _ _ _ _ _ _ us hl => match us, hl with | [_, _], _ => rfl
  have o_tick_deeds := ok_tick_deeds (P := P) (w := w) (base := base) T G_demand_in G_demand_post G_Town_tick_post F_tick_deeds
  have G_tick_deeds : FG P w K mg base (L2.CX P w) 7 "tick_deeds" ["desk", "numbers"] (spDeed c 1 cTick) f_tick_deeds _ := ⟨PySem.W.mg_of X G a_tick_deeds, k_tick_deeds, o_tick_deeds, b_tick_deeds⟩
  have F_calm := fun_mk (st := s_calm) l_calm c_calm k_calm
  have b_calm := F_calm.binds (ps := ["desk", "numbers"]) fun _ _ _ _ _ _ us hl => match us, hl with | [_, _], _ => rfl
  have o_calm := ok_calm (P := P) (w := w) (base := base) T G_demand G_demand_in G_Town_calm_day F_calm
  have G_calm : FG P w K mg base (L2.CX P w) 8 "calm" ["desk", "numbers"] (spDeed c 1 cCalm) f_calm _ := ⟨PySem.W.mg_of X G a_calm, k_calm, o_calm, b_calm⟩
  have Dd : Deeds P w K mg base c dA [f_house, f_want, f_tick_deeds, f_safe, f_deliver, f_lose, f_double, f_cut, f_day, f_calm, f_papers, f_good, f_leases, f_asked_home, f_asked_post, f_row, f_now] := ⟨PySem.W.mg_of X G aDE, ⟨_, itsDE, nDE, lDE, rfl, rfl, by rw [← Array.length_toList, vDE]; show 17 ≤ sizeLine; decide, by rw [vDE]; exact vals_ref _⟩, rfl, fun k f h => match k, h with
    | 0, h => by cases h; exact HeldX.of G_house (by decide)
    | 1, h => by cases h; exact HeldX.of G_want (by decide)
    | 2, h => by cases h; exact HeldX.of G_tick_deeds (by decide)
    | 3, h => by cases h; exact HeldX.of G_safe (by decide)
    | 4, h => by cases h; exact HeldX.of G_deliver (by decide)
    | 5, h => by cases h; exact HeldX.of G_lose (by decide)
    | 6, h => by cases h; exact HeldX.of G_double (by decide)
    | 7, h => by cases h; exact HeldX.of G_cut (by decide)
    | 8, h => by cases h; exact HeldX.of G_day (by decide)
    | 9, h => by cases h; exact HeldX.of G_calm (by decide)
    | 10, h => by cases h; exact HeldX.of0 G_papers (by decide)
    | 11, h => by cases h; exact HeldX.of G_good (by decide)
    | 12, h => by cases h; exact HeldX.of0 G_leases (by decide)
    | 13, h => by cases h; exact HeldX.of0 G_asked_home (by decide)
    | 14, h => by cases h; exact HeldX.of G_asked_post (by decide)
    | 15, h => by cases h; exact HeldX.of G_row (by decide)
    | 16, h => by cases h; exact HeldX.of0 G_now (by decide)
    | k + 17, h => by simp at h⟩
  have Nb : Numbers K mg nA := ⟨PySem.W.mg_of X G aNU, ⟨_, itsNU, nNU, lNU, rfl, rfl, by have := congrArg List.length vNU; rw [List.length_map, List.length_map, Array.length_toList] at this; rw [this]; show 17 ≤ sizeLine; decide, by
    have := vals_int (l := itsNU.toList) (ns := table.map fun t => (t.1 : Int)) (by rw [vNU, List.map_map]; rfl)
    rw [List.map_map] at this
    exact this⟩⟩
  have F_answer := fun_mk (st := s_answer) l_answer c_answer k_answer
  have b_answer := F_answer.binds (ps := ["desk", "call", "numbers"]) fun _ _ _ _ _ _ us hl => match us, hl with | [_, _, _], _ => rfl
  have F_answers := fun_mk (st := s_answers) l_answers c_answers k_answers
  have b_answers := F_answers.binds (ps := ["calls"]) fun _ _ _ _ _ _ us hl => match us, hl with | [_], _ => rfl
  have G_answer : FG P w K mg base CX0 9 "answer" ["desk", "call", "numbers"] (spAnswer c) f_answer _ := ⟨PySem.W.mg_of X G a_answer, k_answer, ok_answer T Dd F_answer, b_answer⟩
  exact ok_answers T Nb G_Desk_init G_answer F_answers
end Pp

set_option linter.all false
namespace Pp
open Vbkoah (Lease HomeRec PostRec Up Down Want numbered endedAt endOf hasBack willDo hasGiven says sendTo homeNums postNums upNums downNums given addHome addPost toHome toPost)
/-! ### the plain law: what holds of every state that is reached -/
def GG (s : SState) : List SGiven := given (s.recs.take s.safe)
def UpOk (G : List SGiven) (p : Nat) : Up → Prop
  | .ask _ => True
  | .back m e => ∃ g, G[m]? = some g ∧ g.p = p ∧ e ≤ (g.b : Int)
def DownOk (G : List SGiven) (p : Nat) : Down → Prop
  | .lease l => G[l.m]? = some ⟨l.x, p, l.a, l.b⟩
  | .heard m => m < G.length
def RecOk (G : List SGiven) (p : Nat) : PostRec → Prop
  | .grant m _ _ t => ∃ g, G[m]? = some g ∧ g.p = p ∧ g.a ≤ t ∧ t ≤ g.b
  | .back m e _ => ∃ g, G[m]? = some g ∧ g.p = p ∧ e ≤ (g.b : Int)
structure PI (G : List SGiven) (p : Nat) (x : SPost) : Prop where
  recs : x.recs.length ≤ 80
  safe : x.safe ≤ x.recs.length
  wants : x.wants.length ≤ 6
  long : ∀ v ∈ x.wants, 1 ≤ v.long
  upl : x.up.length ≤ 8
  downl : x.down.length ≤ 8
  knd : (x.known.map (·.m)).Nodup
  known : ∀ l ∈ x.known, G[l.m]? = some ⟨l.x, p, l.a, l.b⟩
  hnd : x.heard.Nodup
  heard : ∀ m ∈ x.heard, m < G.length
  up : ∀ f ∈ x.up, UpOk G p f
  down : ∀ f ∈ x.down, DownOk G p f
  rcs : ∀ r ∈ x.recs, RecOk G p r
structure Inv (s : SState) : Prop where
  recs : s.recs.length ≤ 80
  safe : s.safe ≤ s.recs.length
  w : 1 ≤ s.w
  few : s.posts.length ≤ 3
  lease : ∀ x p a b, HomeRec.lease x p a b ∈ s.recs → a ≤ b + 1
  post : ∀ p x, s.posts[p]? = some x → PI (GG s) p x
/-! #### growing -/
theorem get_app {α : Type} {l r : List α} {i : Nat} {x : α} (h : l[i]? = some x) : (l ++ r)[i]? = some x := by
  rw [List.getElem?_append_left (List.getElem?_eq_some_iff.mp h).1]
  exact h
theorem UpOk.grow {G r : List SGiven} {p : Nat} {f : Up} (h : UpOk G p f) : UpOk (G ++ r) p f := by
  cases f with
  | ask x => trivial
  | back m e =>
    obtain ⟨g, h1, h2⟩ := h
    exact ⟨g, get_app h1, h2⟩
theorem DownOk.grow {G r : List SGiven} {p : Nat} {f : Down} (h : DownOk G p f) : DownOk (G ++ r) p f := by
  cases f with
  | lease l => exact get_app h
  | heard m =>
    have h : m < G.length := h
    show m < (G ++ r).length
    rw [List.length_append]
    omega
theorem RecOk.grow {G r : List SGiven} {p : Nat} {f : PostRec} (h : RecOk G p f) : RecOk (G ++ r) p f := by
  cases f with
  | grant m x y t =>
    obtain ⟨g, h1, h2⟩ := h
    exact ⟨g, get_app h1, h2⟩
  | back m e b =>
    obtain ⟨g, h1, h2⟩ := h
    exact ⟨g, get_app h1, h2⟩
theorem PI.grow {G r : List SGiven} {p : Nat} {x : SPost} (h : PI G p x) : PI (G ++ r) p x where
  recs := h.recs
  safe := h.safe
  wants := h.wants
  long := h.long
  upl := h.upl
  downl := h.downl
  knd := h.knd
  known := fun l hl => get_app (h.known l hl)
  hnd := h.hnd
  heard := fun m hm => by have := h.heard m hm; rw [List.length_append]; omega
  up := fun f hf => (h.up f hf).grow
  down := fun f hf => (h.down f hf).grow
  rcs := fun f hf => (h.rcs f hf).grow
theorem given_app (a b : List HomeRec) : given (a ++ b) = given a ++ given b := List.filterMap_append
theorem given_len (l : List HomeRec) : (given l).length ≤ l.length := List.length_filterMap_le _ _
theorem GG_len {s : SState} (h : Inv s) : (GG s).length ≤ 80 := by
  refine Nat.le_trans (given_len _) ?_
  rw [List.length_take]
  have := h.recs
  omega
theorem take_grow {α : Type} (l : List α) {i j : Nat} (h : i ≤ j) : ∃ r, l.take j = l.take i ++ r := ⟨(l.take j).drop i, by
  have := List.take_append_drop i (l.take j)
  rw [List.take_take, Nat.min_eq_left h] at this
  exact this.symm⟩
/-- a lease that is safe is there -/
theorem GG_at {s : SState} {m : Nat} {g : SGiven} (h : (GG s)[m]? = some g) : (given s.recs)[m]? = some g := by
  have e := List.take_append_drop s.safe s.recs
  rw [← e, given_app]
  exact get_app h
theorem given_mem : ∀ {l : List HomeRec} {g : SGiven}, g ∈ given l → HomeRec.lease g.x g.p g.a g.b ∈ l
  | .lease x p a b :: l, g, h => by
    have h : g ∈ (⟨x, p, a, b⟩ : SGiven) :: given l := h
    rcases List.mem_cons.mp h with h | h
    · subst h
      exact List.mem_cons_self
    · exact List.mem_cons_of_mem _ (given_mem h)
  | .ended m e :: l, g, h => List.mem_cons_of_mem _ (given_mem (l := l) h)
theorem Inv.ab {s : SState} (h : Inv s) {m : Nat} {g : SGiven} (hg : (GG s)[m]? = some g) : g.a ≤ g.b + 1 :=
  h.lease _ _ _ _ (given_mem (List.mem_of_getElem? (GG_at hg)))
/-! #### few -/
theorem nodup_erase (n : Nat) : ∀ {l : List Nat}, l.Nodup → l.length ≤ (l.filter (· != n)).length + 1
  | [], _ => Nat.zero_le _
  | a :: l, h => by
    have h2 := List.nodup_cons.mp h
    by_cases e : a = n
    · subst e
      have : l.filter (· != a) = l := by
        refine List.filter_eq_self.mpr fun b hb => ?_
        have : b ≠ a := fun z => h2.1 (by rw [← z]; exact hb)
        simpa using this
      rw [List.filter_cons, this]
      simp
    · have ih := nodup_erase n h2.2
      rw [List.filter_cons, if_pos (by simpa using e), List.length_cons, List.length_cons]
      omega
theorem nodup_few : ∀ (n : Nat) {l : List Nat}, l.Nodup → (∀ m ∈ l, m < n) → l.length ≤ n
  | 0, [], _, _ => Nat.le_refl _
  | 0, a :: l, _, h => absurd (h a List.mem_cons_self) (Nat.not_lt_zero _)
  | n + 1, l, h, hb => by
    have h1 := nodup_erase n h
    have h2 := nodup_few n (l := l.filter (· != n)) (h.filter _) (fun m hm => by
      have := List.mem_filter.mp hm
      have h3 := hb m this.1
      have h4 : m ≠ n := by simpa using this.2
      omega)
    omega
theorem PI.few {G : List SGiven} {p : Nat} {x : SPost} (h : PI G p x) (hG : G.length ≤ 80) : PBd x where
  recs := h.recs
  known := by
    have := nodup_few G.length h.knd (fun m hm => by
      obtain ⟨l, hl, rfl⟩ := List.mem_map.mp hm
      exact (List.getElem?_eq_some_iff.mp (h.known l hl)).1)
    rw [List.length_map] at this
    omega
  wants := h.wants
  heard := by
    have := nodup_few G.length h.hnd h.heard
    omega
  up := h.upl
  down := h.downl
  long := h.long
theorem Inv.sbd {s : SState} (h : Inv s) : SBd s where
  recs := h.recs
  w := h.w
  post := fun x hx => by
    obtain ⟨p, hp⟩ := List.getElem?_of_mem hx
    exact (h.post p x hp).few (GG_len h)
/-! #### a tick -/
structure RI (G : List SGiven) (p : Nat) (x : SPost) : Prop where
  recs : x.recs.length ≤ 80
  safe : x.safe ≤ x.recs.length
  known : ∀ l ∈ x.known, G[l.m]? = some ⟨l.x, p, l.a, l.b⟩
  rcs : ∀ r ∈ x.recs, RecOk G p r
theorem RI.push {G : List SGiven} {p : Nat} {x : SPost} {r : PostRec} (h : RI G p x) (hr : RecOk G p r) (hl : x.recs.length < 80) : RI G p { x with recs := x.recs ++ [r] } where
  recs := by show (x.recs ++ [r]).length ≤ 80; rw [List.length_append, List.length_singleton]; omega
  safe := by have := h.safe; show x.safe ≤ (x.recs ++ [r]).length; rw [List.length_append, List.length_singleton]; omega
  known := h.known
  rcs := fun q hq => by
    rcases List.mem_append.mp hq with z | z
    · exact h.rcs q z
    · rw [List.mem_singleton.mp z]
      exact hr
theorem willDo_iff {day : Nat} {x : SPost} {l : Lease} {v : Want} (h : willDo day x l v = true) : l.a ≤ day ∧ day + v.long ≤ l.b + 1 := by
  unfold willDo at h
  rw [Bool.and_eq_true, Bool.and_eq_true, decide_eq_true_iff] at h
  exact h.2.1
theorem goF_ok {G : List SGiven} {p day : Nat} {x : SPost} {v : Want} (h : RI G p x) (hv : 1 ≤ v.long) : RI G p (goF day x v).2 := by
  unfold goF
  split
  · exact h
  · split
    · exact h
    · rename_i l hl
      split
      · rename_i hr
        have hw := willDo_iff (by have := List.find?_some hl; exact this)
        have hk := h.known l (List.mem_of_find?_eq_some hl)
        exact h.push ⟨_, hk, rfl, by show l.a ≤ day + v.long - 1; omega, by show day + v.long - 1 ≤ l.b; omega⟩ hr
      · exact h
theorem serve_eq (day : Nat) (x : SPost) (left : List Want) (v : Want) : Vbkoah.serve day { x with wants := left } v = { (goF day x v).2 with wants := if (goF day x v).1 = true then left else left ++ [v] } := by
  have e1 : hasGiven day { x with wants := left } v.x = hasGiven day x v.x := rfl
  by_cases c : hasGiven day x v.x = true
  · have hg : goF day x v = (true, x) := if_pos c
    rw [hg]
    exact if_pos c
  · have hs : Vbkoah.serve day { x with wants := left } v = (match x.known.find? fun l => willDo day x l v with
      | some l => if Vbkoah.FULL ≤ x.recs.length then { x with wants := left ++ [v] } else addPost { x with wants := left } (.grant l.m v.x day (day + v.long - 1))
      | none => { x with wants := left ++ [v] }) := if_neg c
    have hg : goF day x v = (match x.known.find? fun l => willDo day x l v with
      | none => (false, x)
      | some l => if x.recs.length < 80 then (true, { x with recs := x.recs ++ [.grant l.m v.x day (day + v.long - 1)] }) else (false, x)) := if_neg c
    rw [hs]
    cases e : x.known.find? fun l => willDo day x l v with
    | none =>
      rw [e] at hg
      rw [hg]
      rfl
    | some l =>
      rw [e] at hg
      by_cases d : x.recs.length < 80
      · have hg : goF day x v = (true, { x with recs := x.recs ++ [.grant l.m v.x day (day + v.long - 1)] }) := hg.trans (if_pos d)
        rw [hg]
        refine (if_neg (show ¬ Vbkoah.FULL ≤ x.recs.length from Nat.not_le_of_lt d)).trans ?_
        exact if_neg (show ¬ Vbkoah.FULL ≤ x.recs.length from Nat.not_le_of_lt d)
      · have hg : goF day x v = (false, x) := hg.trans (if_neg d)
        rw [hg]
        exact if_pos (show Vbkoah.FULL ≤ x.recs.length from Nat.le_of_not_lt d)
theorem served_fold (day : Nat) : ∀ (vs : List Want) (left : List Want) (x : SPost), vs.foldl (Vbkoah.serve day) { x with wants := left } = { (vs.foldl (goStep day) (left, x)).2 with wants := (vs.foldl (goStep day) (left, x)).1 }
  | [], left, x => rfl
  | v :: vs, left, x => by
    rw [List.foldl_cons, List.foldl_cons, serve_eq]
    exact served_fold day vs _ _
theorem served_eq (day : Nat) (x : SPost) : Vbkoah.served day x = servedP day x := served_fold day x.wants [] x
theorem goFold_ok {G : List SGiven} {p day : Nat} : ∀ (vs : List Want) (left : List Want) (x : SPost), RI G p x → (∀ v ∈ vs, 1 ≤ v.long) → RI G p (vs.foldl (goStep day) (left, x)).2
  | [], left, x, h, _ => h
  | v :: vs, left, x, h, hv => goFold_ok vs _ _ (goF_ok h (hv v List.mem_cons_self)) fun u hu => hv u (List.mem_cons_of_mem _ hu)
theorem RI.like {G : List SGiven} {p : Nat} {x y : SPost} (h : RI G p x) (h1 : y.recs = x.recs) (h2 : y.safe = x.safe) (h3 : y.known = x.known) : RI G p y := ⟨by rw [h1]; exact h.recs, by rw [h1, h2]; exact h.safe, by rw [h3]; exact h.known, by rw [h1]; exact h.rcs⟩
theorem servedP_ok {G : List SGiven} {p day : Nat} {x : SPost} (h : RI G p x) (hv : ∀ v ∈ x.wants, 1 ≤ v.long) : RI G p (servedP day x) := (goFold_ok (day := day) x.wants [] x h hv).like rfl rfl rfl
/-! the last day -/
def lastStep (m : Nat) (e : Int) (r : PostRec) : Int := match r with
  | .grant k _ _ t => if k = m then max e (t : Int) else e
  | _ => e
def endO (m : Nat) (r : PostRec) : Option Int := match r with
  | .grant k _ _ t => if k = m then some (t : Int) else none
  | _ => none
theorem last_fold (m : Nat) : ∀ (rs : List PostRec) (e : Int), rs.foldl (lastStep m) e = (rs.filterMap (endO m)).foldl max e
  | [], e => rfl
  | .grant k y f t :: rs, e => by
    rw [List.foldl_cons, List.filterMap_cons]
    by_cases c : k = m
    · have h1 : endO m (.grant k y f t) = some (t : Int) := if_pos c
      have h2 : lastStep m e (.grant k y f t) = max e (t : Int) := if_pos c
      rw [h1, h2]
      exact last_fold m rs _
    · have h1 : endO m (.grant k y f t) = none := if_neg c
      have h2 : lastStep m e (.grant k y f t) = e := if_neg c
      rw [h1, h2]
      exact last_fold m rs _
  | .back k e' b :: rs, e => last_fold m rs e
theorem lastOf_eq (x : SPost) (l : Lease) : Vbkoah.lastOf x l = (endsOf x l.m).foldl max ((l.a : Int) - 1) := last_fold l.m x.recs _
theorem foldl_max_le : ∀ (l : List Int) (a b : Int), a ≤ b → (∀ t ∈ l, t ≤ b) → l.foldl max a ≤ b
  | [], a, b, h, _ => h
  | t :: l, a, b, h, hl => foldl_max_le l _ b (by have := hl t List.mem_cons_self; omega) fun u hu => hl u (List.mem_cons_of_mem _ hu)
theorem endsOf_mem {x : SPost} {m : Nat} {t : Int} (h : t ∈ endsOf x m) : ∃ y f u, PostRec.grant m y f u ∈ x.recs ∧ t = (u : Int) := by
  obtain ⟨r, hr, e⟩ := List.mem_filterMap.mp h
  cases r with
  | back k e' b => cases e
  | grant k y f u =>
    by_cases c : k = m
    · subst c
      have e : some (u : Int) = some t := by
        have h1 : (if k = k then some (u : Int) else none) = some t := e
        rw [if_pos rfl] at h1
        exact h1
      exact ⟨y, f, u, hr, (Option.some.inj e).symm⟩
    · have h1 : (if k = m then some (u : Int) else none) = some t := e
      rw [if_neg c] at h1
      cases h1
theorem lastP_ok {G : List SGiven} {p : Nat} {x : SPost} {l : Lease} (h : RI G p x) (hl : G[l.m]? = some ⟨l.x, p, l.a, l.b⟩) (ab : l.a ≤ l.b + 1) : lastP x l = Vbkoah.lastOf x l ∧ lastP x l ≤ (l.b : Int) := by
  have hm : ∀ t ∈ endsOf x l.m, (l.a : Int) ≤ t ∧ t ≤ (l.b : Int) := fun t ht => by
    obtain ⟨y, f, u, hr, rfl⟩ := endsOf_mem ht
    obtain ⟨g, h1, h2, h3, h4⟩ := h.rcs _ hr
    rw [hl] at h1
    cases h1
    have h3 : l.a ≤ u := h3
    have h4 : u ≤ l.b := h4
    omega
  rw [lastOf_eq]
  unfold lastP
  cases e : endsOf x l.m with
  | nil =>
    refine ⟨rfl, ?_⟩
    show (l.a : Int) - 1 ≤ (l.b : Int)
    omega
  | cons t r =>
    rw [e] at hm
    have ht := hm t List.mem_cons_self
    refine ⟨?_, foldl_max_le r t _ ht.2 fun u hu => (hm u (List.mem_cons_of_mem _ hu)).2⟩
    show r.foldl max t = r.foldl max (max ((l.a : Int) - 1) t)
    rw [Int.max_eq_right (by omega)]
end Pp

set_option linter.all false
namespace Pp
open Vbkoah (Lease HomeRec PostRec Up Down Want numbered endedAt endOf hasBack willDo hasGiven says sendTo homeNums postNums upNums downNums given addHome addPost toHome toPost)
/-! ### a post's tick is the specification's -/
def backS (day : Nat) (x : SPost) (l : Lease) : SPost := if day ≤ l.b ∧ hasBack x l.m = false ∧ (x.wants.any fun v => willDo day x l v) = false then addPost x (.back l.m (Vbkoah.lastOf x l) l.b) else x
theorem backs_def (day : Nat) (x : SPost) : Vbkoah.backs day x = x.known.foldl (backS day) x := rfl
theorem back_ok {G : List SGiven} {p day : Nat} {x : SPost} {l : Lease} (h : RI G p x) (hl : G[l.m]? = some ⟨l.x, p, l.a, l.b⟩) (ab : l.a ≤ l.b + 1) : backP day x l = backS day x l ∧ RI G p (backP day x l) := by
  have lp := lastP_ok h hl ab
  by_cases c1 : l.b < day ∨ hasBack x l.m = true ∨ ¬ x.recs.length < 80
  · have e1 : backP day x l = x := if_pos c1
    rw [e1]
    refine ⟨?_, h⟩
    unfold backS
    by_cases c2 : day ≤ l.b ∧ hasBack x l.m = false ∧ (x.wants.any fun v => willDo day x l v) = false
    · rw [if_pos c2]
      rcases c1 with c | c | c
      · have := c2.1; omega
      · rw [c2.2.1] at c; cases c
      · exact (if_pos (show Vbkoah.FULL ≤ x.recs.length from Nat.le_of_not_lt c)).symm
    · rw [if_neg c2]
  · have d1 : ¬ l.b < day := fun z => c1 (.inl z)
    have d2 : hasBack x l.m = false := by
      cases e : hasBack x l.m with
      | false => rfl
      | true => exact absurd (.inr (.inl e)) c1
    have d3 : x.recs.length < 80 := by
      by_cases e : x.recs.length < 80
      · exact e
      · exact absurd (.inr (.inr e)) c1
    by_cases c2 : (x.wants.any fun v => willDo day x l v) = true
    · have e1 : backP day x l = x := (if_neg c1).trans (if_pos c2)
      rw [e1]
      refine ⟨?_, h⟩
      unfold backS
      rw [if_neg (fun z => by rw [z.2.2] at c2; cases c2)]
    · have e1 : backP day x l = { x with recs := x.recs ++ [.back l.m (lastP x l) l.b] } := (if_neg c1).trans (if_neg c2)
      rw [e1]
      refine ⟨?_, h.push ⟨_, hl, rfl, lp.2⟩ d3⟩
      unfold backS
      rw [if_pos ⟨Nat.le_of_not_lt d1, d2, by simpa using c2⟩, ← lp.1]
      exact (if_neg (show ¬ Vbkoah.FULL ≤ x.recs.length from Nat.not_le_of_lt d3)).symm
theorem backFold_ok {G : List SGiven} {p day : Nat} : ∀ (ls : List Lease) (x : SPost), RI G p x → (∀ l ∈ ls, G[l.m]? = some ⟨l.x, p, l.a, l.b⟩ ∧ l.a ≤ l.b + 1) → ls.foldl (backP day) x = ls.foldl (backS day) x ∧ RI G p (ls.foldl (backP day) x)
  | [], x, h, _ => ⟨rfl, h⟩
  | l :: ls, x, h, hl => by
    have h1 := hl l List.mem_cons_self
    have h2 := back_ok (day := day) h h1.1 h1.2
    have ih := backFold_ok (day := day) ls (backP day x l) h2.2 fun u hu => hl u (List.mem_cons_of_mem _ hu)
    rw [List.foldl_cons, List.foldl_cons, ← h2.1]
    exact ih
theorem PI.ri {G : List SGiven} {p : Nat} {x : SPost} (h : PI G p x) : RI G p x := ⟨h.recs, h.safe, h.known, h.rcs⟩
def ABG (G : List SGiven) : Prop := ∀ (m : Nat) (g : SGiven), G[m]? = some g → g.a ≤ g.b + 1
theorem Inv.abg {s : SState} (h : Inv s) : ABG (GG s) := fun m g hg => h.ab hg
theorem preTick_ok {G : List SGiven} {p day : Nat} {x : SPost} (h : PI G p x) (ab : ABG G) : preTick day x = Vbkoah.backs day (Vbkoah.served day x) ∧ RI G p (preTick day x) := by
  have h1 := servedP_ok (day := day) h.ri h.long
  have h2 := backFold_ok (day := day) (servedP day x).known (servedP day x) h1 fun l hl => ⟨h1.known l hl, ab _ _ (h1.known l hl)⟩
  rw [served_eq]
  exact h2
theorem tick_eq {G : List SGiven} {p day : Nat} {x : SPost} (h : PI G p x) (ab : ABG G) : tickP day x = Vbkoah.tickPost day x := by
  have h1 := (preTick_ok (day := day) h ab).1
  have hu : (preTick day x).up = x.up := (preTick_same (day := day) h.recs).2.2.2.1
  unfold tickP Vbkoah.tickPost
  dsimp only
  rw [← h1, hu]
  rfl
theorem sendTo_mem {α : Type} {x y : α} {l : List α} (h : y ∈ sendTo x l) : y = x ∨ y ∈ l := by
  unfold sendTo at h
  split at h
  · exact .inr h
  · rcases List.mem_append.mp h with h | h
    · exact .inr h
    · exact .inl (List.mem_singleton.mp h)
theorem sendAll_mem : ∀ (fs : List Up) {l : List Up} {y : Up}, y ∈ sendAll fs l → y ∈ fs ∨ y ∈ l
  | [], l, y, h => .inr h
  | f :: fs, l, y, h => by
    rcases sendAll_mem fs (l := sendTo f l) h with h | h
    · exact .inl (List.mem_cons_of_mem _ h)
    · rcases sendTo_mem h with h | h
      · exact .inl (by rw [h]; exact List.mem_cons_self)
      · exact .inr h
theorem says_ok {G : List SGiven} {p day : Nat} {x : SPost} (h : RI G p x) {f : Up} (hf : f ∈ says day x) : UpOk G p f := by
  unfold says at hf
  rcases List.mem_append.mp hf with hf | hf
  · obtain ⟨k, _, rfl⟩ := List.mem_map.mp hf
    trivial
  · obtain ⟨r, hr, e⟩ := List.mem_filterMap.mp hf
    have hr := h.rcs r (List.mem_of_mem_take hr)
    cases r with
    | grant m y f' t => cases e
    | back m e' b =>
      dsimp only at e
      split at e
      · have e := Option.some.inj e
        subst e
        exact hr
      · cases e
theorem tick_ok' {G : List SGiven} {p day : Nat} {x : SPost} (h : PI G p x) (ab : ABG G) : PI G p (tickP day x) := by
  have hr := (preTick_ok (day := day) h ab).2
  obtain ⟨h1, h2, h3, h4, h5, h6, h7, h8⟩ := preTick_same (day := day) h.recs
  refine ⟨hr.recs, hr.safe, Nat.le_trans h7 h.wants, fun v hv => h.long v (h8 v hv), sendAll_len _ h.upl, ?_, ?_, ?_, ?_, ?_, ?_, ?_, hr.rcs⟩
  · show (preTick day x).down.length ≤ 8
    rw [h5]; exact h.downl
  · show ((preTick day x).known.map (·.m)).Nodup
    rw [h2]; exact h.knd
  · exact hr.known
  · show (preTick day x).heard.Nodup
    rw [h3]; exact h.hnd
  · show ∀ m ∈ (preTick day x).heard, m < G.length
    rw [h3]; exact h.heard
  · intro f hf
    rcases sendAll_mem _ hf with z | z
    · exact says_ok hr z
    · exact h.up f z
  · show ∀ f ∈ (preTick day x).down, DownOk G p f
    rw [h5]; exact h.down
/-! ### a frame comes to a post -/
theorem toPost_ok {G : List SGiven} {p : Nat} {x : SPost} {f : Down} (h : PI G p x) (hf : DownOk G p f) : PI G p (toPost x f) := by
  cases f with
  | lease l =>
    show PI G p (if (x.known.any fun k => k.m == l.m) = true then x else { x with known := x.known ++ [l] })
    by_cases c : (x.known.any fun k => k.m == l.m) = true
    · rw [if_pos c]; exact h
    · rw [if_neg c]
      refine ⟨h.recs, h.safe, h.wants, h.long, h.upl, h.downl, ?_, fun u hu => ?_, h.hnd, h.heard, h.up, h.down, h.rcs⟩
      · show ((x.known ++ [l]).map (·.m)).Nodup
        rw [List.map_append]
        refine List.nodup_append.mpr ⟨h.knd, by simp, fun a ha b hb => ?_⟩
        obtain ⟨k, hk, rfl⟩ := List.mem_map.mp ha
        have hb : b = l.m := by simpa using hb
        intro z
        exact c (List.any_eq_true.mpr ⟨k, hk, by rw [z, hb]; exact beq_self_eq_true _⟩)
      · rcases List.mem_append.mp hu with z | z
        · exact h.known u z
        · rw [List.mem_singleton.mp z]
          exact hf
  | heard m =>
    show PI G p (if x.heard.contains m = true then x else { x with heard := x.heard ++ [m] })
    by_cases c : x.heard.contains m = true
    · rw [if_pos c]; exact h
    · rw [if_neg c]
      refine ⟨h.recs, h.safe, h.wants, h.long, h.upl, h.downl, h.knd, h.known, ?_, fun u hu => ?_, h.up, h.down, h.rcs⟩
      · show (x.heard ++ [m]).Nodup
        refine List.nodup_append.mpr ⟨h.hnd, by simp, fun a ha b hb => ?_⟩
        have hb : b = m := by simpa using hb
        intro z
        exact c (by rw [List.contains_iff_mem, ← hb, ← z]; exact ha)
      · rcases List.mem_append.mp hu with z | z
        · exact h.heard u z
        · rw [List.mem_singleton.mp z]
          exact hf
/-! ### setting one post -/
theorem Inv.setP {s : SState} {p : Nat} {y : SPost} (h : Inv s) (hy : PI (GG s) p y) : Inv (setP s p y) where
  recs := h.recs
  safe := h.safe
  w := h.w
  few := by rw [setP_len]; exact h.few
  lease := h.lease
  post := fun q x hq => by
    show PI (GG s) q x
    have hq : (s.posts.set p y)[q]? = some x := hq
    by_cases c : p = q
    · subst c
      by_cases d : p < s.posts.length
      · rw [List.getElem?_set_self d] at hq
        cases hq
        exact hy
      · rw [List.getElem?_eq_none (by rw [List.length_set]; omega)] at hq
        cases hq
    · rw [List.getElem?_set_ne c] at hq
      exact h.post q x hq
theorem comeDown_ok {s : SState} {p : Nat} {f : Down} (h : Inv s) (hf : DownOk (GG s) p f) : Inv (comeDown s p f) ∧ GG (comeDown s p f) = GG s := by
  cases e : s.posts[p]? with
  | none =>
    have : comeDown s p f = s := by unfold comeDown; rw [e]
    rw [this]
    exact ⟨h, rfl⟩
  | some x =>
    rw [comeDown_eq e]
    exact ⟨h.setP (toPost_ok (h.post p x e) hf), rfl⟩
end Pp

set_option linter.all false
namespace Pp
open Vbkoah (Lease HomeRec PostRec Up Down Want numbered endedAt endOf hasBack willDo hasGiven says sendTo homeNums postNums upNums downNums given addHome addPost toHome toPost reply safeLease safeEnded setPost)
/-! ### a frame comes to home -/
theorem endIx_neg (recs : List HomeRec) (m : Nat) : decide (endIx recs m < 0) = (endedAt recs m).isNone := by
  cases e : recs.findIdx? (isEnded m) with
  | none => rw [endIx_none e, endedAt_none _ _ e]; rfl
  | some i =>
    obtain ⟨v, _, h⟩ := endedAt_some _ _ _ e
    rw [endIx_some e, h]
    exact decide_eq_false (by omega)
theorem find_filter {α : Type} (a b : α → Bool) : ∀ l : List α, (l.filter a).find? b = l.find? fun t => a t && b t
  | [] => rfl
  | x :: l => by
    rw [List.filter_cons, List.find?_cons]
    cases h : a x with
    | false =>
      simp only [Bool.false_and, if_neg Bool.false_ne_true]
      exact find_filter a b l
    | true =>
      rw [if_pos rfl, List.find?_cons]
      simp only [Bool.true_and]
      cases b x with
      | false => exact find_filter a b l
      | true => rfl
theorem find_map {α β : Type} (f : α → β) (b : β → Bool) : ∀ l : List α, (l.map f).find? b = (l.find? fun t => b (f t)).map f
  | [] => rfl
  | x :: l => by
    rw [List.map_cons, List.find?_cons, List.find?_cons]
    cases b (f x) with
    | false => exact find_map f b l
    | true => rfl
theorem numbered_given (recs : List HomeRec) (sure : Nat) : numbered (given recs) = (numbered (allL recs sure)).map fun t => (t.1, t.2.1) := by
  rw [← allFrom_given sure recs 0, numbered_map]
  rfl
theorem allFrom_sure (sure : Nat) : ∀ (recs : List HomeRec) (n m : Nat) (g : SGiven) (b : Bool), (allFrom sure n recs)[m]? = some (g, b) → b = decide (m < (given (recs.take (sure - n))).length)
  | [], n, m, g, b, h => by simp [allFrom] at h
  | .lease x p a d :: l, n, m, g, b, h => by
    have h : ((⟨x, p, a, d⟩, decide (n < sure)) :: allFrom sure (n + 1) l)[m]? = some (g, b) := h
    by_cases hn : n < sure
    · obtain ⟨k, hk⟩ : ∃ k, sure - n = k + 1 := ⟨sure - n - 1, by omega⟩
      have hk' : sure - (n + 1) = k := by omega
      have e : given ((HomeRec.lease x p a d :: l).take (sure - n)) = (⟨x, p, a, d⟩ : SGiven) :: given (l.take k) := by rw [hk]; rfl
      rw [e, List.length_cons]
      cases m with
      | zero =>
        have h : (⟨x, p, a, d⟩, decide (n < sure)) = (g, b) := Option.some.inj h
        injection h with _ h
        rw [← h, decide_eq_true hn, decide_eq_true (Nat.succ_pos _)]
      | succ m =>
        have ih := allFrom_sure sure l (n + 1) m g b h
        rw [hk'] at ih
        rw [ih]
        exact decide_eq_decide.mpr (by omega)
    · have e0 : sure - n = 0 := by omega
      have e : given ((HomeRec.lease x p a d :: l).take (sure - n)) = [] := by rw [e0]; rfl
      rw [e]
      cases m with
      | zero =>
        have h : (⟨x, p, a, d⟩, decide (n < sure)) = (g, b) := Option.some.inj h
        injection h with _ h
        rw [← h, decide_eq_false hn]
        rfl
      | succ m =>
        have ih := allFrom_sure sure l (n + 1) m g b h
        have e1 : sure - (n + 1) = 0 := by omega
        rw [e1] at ih
        rw [ih]
        rfl
  | .ended k e :: l, n, m, g, b, h => by
    have ih := allFrom_sure sure l (n + 1) m g b h
    by_cases hn : n < sure
    · obtain ⟨k', hk⟩ : ∃ k, sure - n = k + 1 := ⟨sure - n - 1, by omega⟩
      have hk' : sure - (n + 1) = k' := by omega
      rw [hk'] at ih
      rw [hk, ih]
      rfl
    · have e0 : sure - n = 0 := by omega
      have e1 : sure - (n + 1) = 0 := by omega
      rw [e1] at ih
      rw [e0, ih]
      rfl
theorem numbered_mem {α : Type} {l : List α} {t : Nat × α} (h : t ∈ numbered l) : l[t.1]? = some t.2 := by
  obtain ⟨i, hi⟩ := List.getElem?_of_mem h
  have hl : i < l.length := by
    have := (List.getElem?_eq_some_iff.mp hi).1
    rw [numbered_len] at this
    exact this
  have h1 := numbered_get (List.getElem?_eq_getElem hl)
  rw [hi] at h1
  cases h1
  exact List.getElem?_eq_getElem hl
theorem modify_set {α : Type} (g : α → α) : ∀ {l : List α} {p : Nat} {x : α}, l[p]? = some x → l.modify p g = l.set p (g x)
  | [], p, x, h => by simp at h
  | a :: l, 0, x, h => by
    have h : a = x := Option.some.inj h
    subst h
    rfl
  | a :: l, p + 1, x, h => by
    have ih := modify_set g (l := l) (p := p) (x := x) h
    show a :: l.modify p g = a :: l.set p (g x)
    rw [ih]
theorem set_same {α : Type} : ∀ {l : List α} {p : Nat} {x : α}, l[p]? = some x → l.set p x = l
  | [], p, x, h => by simp at h
  | a :: l, 0, x, h => by
    have h : a = x := Option.some.inj h
    subst h
    rfl
  | a :: l, p + 1, x, h => by
    have ih := set_same (l := l) (p := p) (x := x) h
    show a :: l.set p x = a :: l
    rw [ih]
theorem setP_same {s : SState} {p : Nat} {x : SPost} (h : s.posts[p]? = some x) : setP s p x = s := by
  unfold setP
  rw [set_same h]
theorem reply_eq {s : SState} {p : Nat} {x : SPost} (f : Down) (h : s.posts[p]? = some x) : reply s p f = setP s p { x with down := sendTo f x.down } := by
  unfold reply setP
  rw [modify_set _ h]
theorem addHome_eq (s : SState) (r : HomeRec) : addHome s r = { s with recs := if s.recs.length < 80 then s.recs ++ [r] else s.recs } := by
  unfold addHome
  by_cases c : s.recs.length < 80
  · rw [if_neg (show ¬ Vbkoah.FULL ≤ s.recs.length from Nat.not_le_of_lt c), if_pos c]
  · rw [if_pos (show Vbkoah.FULL ≤ s.recs.length from Nat.le_of_not_lt c), if_neg c]
theorem fi_take {α : Type} (p : α → Bool) : ∀ (l : List α) (k i : Nat), l.findIdx? p = some i → (l.take k).findIdx? p = if i < k then some i else none
  | [], k, i, h => by simp at h
  | a :: l, 0, i, h => by simp
  | a :: l, k + 1, i, h => by
    rw [List.take_succ_cons, List.findIdx?_cons]
    rw [List.findIdx?_cons] at h
    cases e : p a with
    | true =>
      rw [e] at h
      simp only [if_true] at h ⊢
      cases h
      rw [if_pos (Nat.succ_pos _)]
    | false =>
      rw [e] at h
      simp only [if_neg Bool.false_ne_true] at h ⊢
      cases e2 : l.findIdx? p with
      | none => rw [e2] at h; cases h
      | some j =>
        rw [e2] at h
        have h : j + 1 = i := Option.some.inj h
        subst h
        rw [fi_take p l k j e2]
        by_cases c : j < k
        · rw [if_pos c, if_pos (by omega)]; rfl
        · rw [if_neg c, if_neg (by omega)]; rfl
theorem safeEnded_eq {s : SState} {m i : Nat} (h : s.recs.findIdx? (isEnded m) = some i) : safeEnded s m = decide (i < s.safe) := by
  unfold safeEnded
  have e := fi_take (isEnded m) s.recs s.safe i h
  by_cases c : i < s.safe
  · rw [if_pos c] at e
    obtain ⟨v, _, hv⟩ := endedAt_some _ _ _ e
    rw [hv, decide_eq_true c]
    rfl
  · rw [if_neg c] at e
    rw [endedAt_none _ _ e, decide_eq_false c]
    rfl
/-- home's records are longer at their end -/
theorem Inv.addRec {s : SState} {r : HomeRec} (h : Inv s) (hr : ∀ x p a b, r = .lease x p a b → a ≤ b + 1) (hl : s.recs.length < 80) : Inv { s with recs := s.recs ++ [r] } ∧ GG { s with recs := s.recs ++ [r] } = GG s := by
  have g : GG { s with recs := s.recs ++ [r] } = GG s := by
    show given ((s.recs ++ [r]).take s.safe) = given (s.recs.take s.safe)
    rw [List.take_append_of_le_length h.safe]
  refine ⟨⟨?_, ?_, h.w, h.few, ?_, ?_⟩, g⟩
  · show (s.recs ++ [r]).length ≤ 80
    rw [List.length_append, List.length_singleton]; omega
  · show s.safe ≤ (s.recs ++ [r]).length
    rw [List.length_append, List.length_singleton]; have := h.safe; omega
  · intro x p a b hm
    rcases List.mem_append.mp hm with z | z
    · exact h.lease x p a b z
    · exact hr x p a b (List.mem_singleton.mp z).symm
  · rw [g]
    exact h.post
theorem sendTo_down {G : List SGiven} {p : Nat} {x : SPost} {f : Down} (h : PI G p x) (hf : DownOk G p f) : PI G p { x with down := sendTo f x.down } :=
  ⟨h.recs, h.safe, h.wants, h.long, h.upl, sendTo_len h.downl, h.knd, h.known, h.hnd, h.heard, h.up, fun u hu => by
    rcases sendTo_mem hu with z | z
    · rw [z]; exact hf
    · exact h.down u z, h.rcs⟩
theorem comeUp_ok {s : SState} {p : Nat} {x : SPost} {f : Up} (h : Inv s) (hx : s.posts[p]? = some x) (hf : UpOk (GG s) p f) : comeUp s p f = toHome s p f ∧ Inv (comeUp s p f) ∧ GG (comeUp s p f) = GG s := by
  have px := h.post p x hx
  have same : { setP s p { x with down := x.down } with recs := s.recs } = s := setP_same hx
  cases f with
  | ask y =>
    have e0 : comeUp s p (.ask y) = { setP s p { x with down := (askedF s.recs s.safe p y s.day s.w x.down).2 } with recs := (askedF s.recs s.safe p y s.day s.w x.down).1 } := comeUp_eq hx
    have ef : ((numbered (given s.recs)).filter fun t => t.2.x == y).find? (fun t => t.2.p == p && (decide (Vbkoah.whole s.day ≤ endOf s.recs t.1 t.2) && (endedAt s.recs t.1).isNone)) = ((numbered (allL s.recs s.safe)).find? (askP s.recs p y s.day)).map fun t => (t.1, t.2.1) := by
      rw [find_filter, numbered_given s.recs s.safe, find_map]
      congr 2
      funext t
      unfold askP
      rw [endIx_neg]
      rfl
    have eA : (((numbered (given s.recs)).filter fun t => t.2.x == y).all fun t => decide (endOf s.recs t.1 t.2 < Vbkoah.whole s.day)) = (((numbered (allL s.recs s.safe)).filter fun t => t.2.1.x == y).all fun t => decide (endOf s.recs t.1 t.2.1 < (s.day : Int))) := by
      rw [numbered_given s.recs s.safe, List.filter_map, List.all_map]
      rfl
    have eT : toHome s p (.ask y) = (match ((numbered (given s.recs)).filter fun t => t.2.x == y).find? (fun t => t.2.p == p && (decide (Vbkoah.whole s.day ≤ endOf s.recs t.1 t.2) && (endedAt s.recs t.1).isNone)) with
      | some t => if safeLease s t.1 = true then reply s p (.lease ⟨t.1, t.2.x, t.2.a, t.2.b⟩) else s
      | none => if (((numbered (given s.recs)).filter fun t => t.2.x == y).all fun t => decide (endOf s.recs t.1 t.2 < Vbkoah.whole s.day)) = true then addHome s (.lease y p s.day (s.day + s.w - 1)) else s) := rfl
    rw [ef, eA] at eT
    cases hF : (numbered (allL s.recs s.safe)).find? (askP s.recs p y s.day) with
    | some t =>
      obtain ⟨m, g, b⟩ := t
      rw [hF] at eT
      have hm := numbered_mem (List.mem_of_find?_eq_some hF)
      have hm : (allFrom s.safe 0 s.recs)[m]? = some (g, b) := hm
      have hb := allFrom_sure s.safe s.recs 0 m g b hm
      have hg : (given s.recs)[m]? = some g := by
        rw [← allFrom_given s.safe s.recs 0, List.getElem?_map, hm]
        rfl
      have hp := List.find?_some hF
      have hp : (g.x == y && (g.p == p && (decide ((s.day : Int) ≤ endOf s.recs m g) && decide (endIx s.recs m < 0)))) = true := hp
      rw [Bool.and_eq_true, Bool.and_eq_true] at hp
      have gx : g.x = y := by simpa using hp.1
      have gp : g.p = p := by simpa using hp.2.1
      have eF : askedF s.recs s.safe p y s.day s.w x.down = (s.recs, if b = true then sendTo (.lease ⟨m, y, g.a, g.b⟩) x.down else x.down) := by
        unfold askedF
        rw [hF]
      have sl : safeLease s m = b := by rw [hb]; rfl
      have eT : toHome s p (.ask y) = if safeLease s m = true then reply s p (.lease ⟨m, g.x, g.a, g.b⟩) else s := eT
      rw [sl] at eT
      rw [eF] at e0
      cases hbb : b with
      | false =>
        rw [hbb] at e0 eT
        have e0 : comeUp s p (.ask y) = s := e0.trans same
        have eT : toHome s p (.ask y) = s := eT
        rw [e0, eT]
        exact ⟨rfl, h, rfl⟩
      | true =>
        rw [hbb] at e0 eT hb
        have e0 : comeUp s p (.ask y) = setP s p { x with down := sendTo (.lease ⟨m, y, g.a, g.b⟩) x.down } := e0
        have eT : toHome s p (.ask y) = reply s p (.lease ⟨m, g.x, g.a, g.b⟩) := eT
        rw [reply_eq _ hx, gx] at eT
        rw [e0, eT]
        refine ⟨rfl, h.setP (sendTo_down px ?_), rfl⟩
        have hlt : m < (GG s).length := of_decide_eq_true hb.symm
        have e := List.take_append_drop s.safe s.recs
        rw [← e, given_app] at hg
        have hg : (GG s)[m]? = some g := (List.getElem?_append_left (l₁ := GG s) (l₂ := given (s.recs.drop s.safe)) hlt).symm.trans hg
        show (GG s)[m]? = some ⟨y, p, g.a, g.b⟩
        rw [← gx, ← gp]
        exact hg
    | none =>
      rw [hF] at eT
      have eT : toHome s p (.ask y) = if (((numbered (allL s.recs s.safe)).filter fun t => t.2.1.x == y).all fun t => decide (endOf s.recs t.1 t.2.1 < (s.day : Int))) = true then addHome s (.lease y p s.day (s.day + s.w - 1)) else s := eT
      have eF : askedF s.recs s.safe p y s.day s.w x.down = if (((numbered (allL s.recs s.safe)).filter fun t => t.2.1.x == y).all fun t => decide (endOf s.recs t.1 t.2.1 < (s.day : Int))) = true ∧ s.recs.length < 80 then (s.recs ++ [.lease y p s.day (s.day + s.w - 1)], x.down) else (s.recs, x.down) := by
        unfold askedF
        rw [hF]
      by_cases c : (((numbered (allL s.recs s.safe)).filter fun t => t.2.1.x == y).all fun t => decide (endOf s.recs t.1 t.2.1 < (s.day : Int))) = true
      · rw [if_pos c, addHome_eq] at eT
        by_cases d : s.recs.length < 80
        · rw [if_pos d] at eT
          rw [if_pos ⟨c, d⟩] at eF
          rw [eF] at e0
          have e0 : comeUp s p (.ask y) = { setP s p x with recs := s.recs ++ [.lease y p s.day (s.day + s.w - 1)] } := e0
          rw [setP_same hx] at e0
          rw [e0, eT]
          refine ⟨rfl, h.addRec (fun x' p' a b e => ?_) d⟩
          cases e
          have := h.w
          omega
        · rw [if_neg d] at eT
          rw [if_neg (fun z => d z.2)] at eF
          rw [eF] at e0
          have e0 : comeUp s p (.ask y) = s := e0.trans same
          rw [e0, eT]
          exact ⟨rfl, h, rfl⟩
      · rw [if_neg c] at eT
        rw [if_neg (fun z => c z.1)] at eF
        rw [eF] at e0
        have e0 : comeUp s p (.ask y) = s := e0.trans same
        rw [e0, eT]
        exact ⟨rfl, h, rfl⟩
  | back m e =>
    obtain ⟨g, hg, gp, hb⟩ := hf
    have hga := GG_at hg
    have e0 : comeUp s p (.back m e) = { setP s p { x with down := (givenBackF s.recs s.safe m e x.down).2 } with recs := (givenBackF s.recs s.safe m e x.down).1 } := comeUp_eq hx
    have eT : toHome s p (.back m e) = (match (given s.recs)[m]? with
      | none => s
      | some g => if g.p ≠ p then s else if (endedAt s.recs m).isSome = true then (if safeEnded s m = true then reply s p (.heard m) else s) else if e ≤ Vbkoah.whole g.b then addHome s (.ended m e) else s) := rfl
    rw [hga] at eT
    have eT : toHome s p (.back m e) = if g.p ≠ p then s else if (endedAt s.recs m).isSome = true then (if safeEnded s m = true then reply s p (.heard m) else s) else if e ≤ Vbkoah.whole g.b then addHome s (.ended m e) else s := eT
    rw [if_neg (not_not_intro gp)] at eT
    cases hF : s.recs.findIdx? (isEnded m) with
    | some i =>
      obtain ⟨v, _, hv⟩ := endedAt_some _ _ _ hF
      rw [hv, if_pos (by rfl), safeEnded_eq hF] at eT
      have eF : givenBackF s.recs s.safe m e x.down = (s.recs, if i < s.safe then sendTo (.heard m) x.down else x.down) := by
        unfold givenBackF
        rw [hF]
      rw [eF] at e0
      by_cases c : i < s.safe
      · rw [if_pos (decide_eq_true c), reply_eq _ hx] at eT
        have e0 : comeUp s p (.back m e) = setP s p { x with down := if i < s.safe then sendTo (.heard m) x.down else x.down } := e0
        rw [if_pos c] at e0
        rw [e0, eT]
        exact ⟨rfl, h.setP (sendTo_down px (List.getElem?_eq_some_iff.mp hg).1), rfl⟩
      · rw [if_neg (by rw [decide_eq_false c]; exact Bool.false_ne_true)] at eT
        have e0 : comeUp s p (.back m e) = setP s p { x with down := if i < s.safe then sendTo (.heard m) x.down else x.down } := e0
        rw [if_neg c] at e0
        have e0 : comeUp s p (.back m e) = s := e0.trans (setP_same hx)
        rw [e0, eT]
        exact ⟨rfl, h, rfl⟩
    | none =>
      rw [endedAt_none _ _ hF, if_neg (by exact Bool.false_ne_true), if_pos (show e ≤ Vbkoah.whole g.b from hb), addHome_eq] at eT
      have eF : givenBackF s.recs s.safe m e x.down = if s.recs.length < 80 then (s.recs ++ [.ended m e], x.down) else (s.recs, x.down) := by
        unfold givenBackF
        rw [hF]
      by_cases d : s.recs.length < 80
      · rw [if_pos d] at eT eF
        rw [eF] at e0
        have e0 : comeUp s p (.back m e) = { setP s p x with recs := s.recs ++ [.ended m e] } := e0
        rw [setP_same hx] at e0
        rw [e0, eT]
        exact ⟨rfl, h.addRec (fun x' p' a b z => by cases z) d⟩
      · rw [if_neg d] at eT eF
        rw [eF] at e0
        have e0 : comeUp s p (.back m e) = s := e0.trans same
        rw [e0, eT]
        exact ⟨rfl, h, rfl⟩
end Pp

set_option linter.all false
namespace Pp
open Vbkoah (Lease HomeRec PostRec Up Down Want numbered endedAt endOf hasBack willDo hasGiven says sendTo homeNums postNums upNums downNums given addHome addPost toHome toPost reply safeLease safeEnded setPost)
/-! ### a calm day is the specification's -/
theorem set_mid {α : Type} (a : List α) (x y : α) (c : List α) : (a ++ x :: c).set a.length y = a ++ y :: c := by
  induction a with
  | nil => rfl
  | cons z a ih => show z :: (a ++ x :: c).set a.length y = _; rw [ih]; rfl
theorem fold_map (g : SState → Nat → SState) (f : SPost → SPost) (s : SState) (hg : ∀ (T : SState) (p : Nat) (x : SPost), T.day = s.day → T.posts[p]? = some x → g T p = setP T p (f x)) :
    ∀ k, k ≤ s.posts.length → (List.range k).foldl g s = { s with posts := (s.posts.take k).map f ++ s.posts.drop k }
  | 0, _ => rfl
  | k + 1, hk => by
    have ih := fold_map g f s hg k (by omega)
    have hx := List.getElem?_eq_getElem (l := s.posts) (i := k) (by omega)
    generalize s.posts[k] = x at hx
    have hd : s.posts.drop k = x :: s.posts.drop (k + 1) := by
      rw [List.drop_eq_getElem_cons (by omega)]
      rw [List.getElem?_eq_getElem (by omega)] at hx
      rw [Option.some.inj hx]
    have hl : ((s.posts.take k).map f).length = k := by rw [List.length_map, List.length_take]; omega
    rw [List.range_succ, List.foldl_append, ih, List.foldl_cons, List.foldl_nil, hd, take_succ_at hx, List.map_append]
    have hp : ({ s with posts := (s.posts.take k).map f ++ x :: s.posts.drop (k + 1) } : SState).posts[k]? = some x := by
      show ((s.posts.take k).map f ++ x :: s.posts.drop (k + 1))[k]? = some x
      rw [List.getElem?_append_right (by omega), hl, Nat.sub_self]
      rfl
    rw [hg { s with posts := (s.posts.take k).map f ++ x :: s.posts.drop (k + 1) } k x rfl hp]
    unfold setP
    dsimp only
    have e := set_mid ((s.posts.take k).map f) x (f x) (s.posts.drop (k + 1))
    rw [hl] at e
    rw [e, List.append_assoc]
    rfl
theorem fold_all (g : SState → Nat → SState) (f : SPost → SPost) (s : SState) (hg : ∀ (T : SState) (p : Nat) (x : SPost), T.day = s.day → T.posts[p]? = some x → g T p = setP T p (f x)) : (List.range s.posts.length).foldl g s = { s with posts := s.posts.map f } := by
  rw [fold_map g f s hg _ (Nat.le_refl _), List.take_length, List.drop_length, List.append_nil]
theorem map_posts {s : SState} {f g : SPost → SPost} (h : ∀ (p : Nat) (x : SPost), s.posts[p]? = some x → f x = g x) : s.posts.map f = s.posts.map g :=
  List.map_congr_left fun x hx => by
    obtain ⟨p, hp⟩ := List.getElem?_of_mem hx
    exact h p x hp
theorem Inv.map {s : SState} {f : SPost → SPost} (h : Inv s) (hf : ∀ (p : Nat) (x : SPost), s.posts[p]? = some x → PI (GG s) p (f x)) : Inv { s with posts := s.posts.map f } where
  recs := h.recs
  safe := h.safe
  w := h.w
  few := by show (s.posts.map f).length ≤ 3; rw [List.length_map]; exact h.few
  lease := h.lease
  post := fun p y hy => by
    have hy : (s.posts.map f)[p]? = some y := hy
    rw [List.getElem?_map] at hy
    obtain ⟨x, hx, rfl⟩ := Option.map_eq_some_iff.mp hy
    exact hf p x hx
theorem Inv.onDay {s : SState} (h : Inv s) (d : Nat) : Inv { s with day := d } := ⟨h.recs, h.safe, h.w, h.few, h.lease, h.post⟩
/-! #### all safe -/
theorem allSafe_ok {s : SState} (h : Inv s) : allSafeP s = Vbkoah.allSafe s ∧ Inv (Vbkoah.allSafe s) := by
  have hs : safeHome s = { s with safe := s.recs.length } := by
    unfold safeHome
    have h1 := h.recs
    have h2 := h.safe
    rw [Nat.min_eq_right h1, Nat.max_eq_right h2]
  have hp : ∀ (p : Nat) (x : SPost), s.posts[p]? = some x → safePost x = { x with safe := x.recs.length } := fun p x hx => by
    have px := h.post p x hx
    unfold safePost
    rw [Nat.min_eq_right px.recs, Nat.max_eq_right px.safe]
  constructor
  · unfold allSafeP
    rw [show s.posts.length = (safeHome s).posts.length from rfl, fold_all safeAt safePost (safeHome s) fun T p x _ hx => safeAt_eq hx, hs]
    unfold Vbkoah.allSafe
    rw [map_posts hp]
  · have g : GG (Vbkoah.allSafe s) = GG s ++ given (s.recs.drop s.safe) := by
      show given (s.recs.take s.recs.length) = given (s.recs.take s.safe) ++ given (s.recs.drop s.safe)
      rw [← given_app, List.take_append_drop, List.take_length]
    refine ⟨h.recs, Nat.le_refl _, h.w, ?_, h.lease, fun p y hy => ?_⟩
    · show (s.posts.map _).length ≤ 3
      rw [List.length_map]; exact h.few
    · have hy : (s.posts.map fun x => { x with safe := x.recs.length })[p]? = some y := hy
      rw [List.getElem?_map] at hy
      obtain ⟨x, hx, rfl⟩ := Option.map_eq_some_iff.mp hy
      rw [g]
      have px := (h.post p x hx).grow (r := given (s.recs.drop s.safe))
      exact ⟨px.recs, Nat.le_refl _, px.wants, px.long, px.upl, px.downl, px.knd, px.known, px.hnd, px.heard, px.up, px.down, px.rcs⟩
/-! #### all tick -/
theorem ticks_ok {s : SState} (h : Inv s) : ticksP s = { s with posts := s.posts.map (Vbkoah.tickPost s.day) } ∧ Inv { s with posts := s.posts.map (Vbkoah.tickPost s.day) } := by
  have hp : ∀ (p : Nat) (x : SPost), s.posts[p]? = some x → tickP s.day x = Vbkoah.tickPost s.day x := fun p x hx => tick_eq (h.post p x hx) h.abg
  constructor
  · unfold ticksP
    rw [fold_all tickAt (tickP s.day) s fun T p x hd hx => by rw [tickAt_eq hx, hd], map_posts hp]
  · refine h.map fun p x hx => ?_
    rw [← hp p x hx]
    exact tick_ok' (h.post p x hx) h.abg
/-! #### all that is under way to home comes -/
theorem comeUps_ok {p : Nat} : ∀ (fs : List Up) (s : SState), Inv s → p < s.posts.length → (∀ f ∈ fs, UpOk (GG s) p f) →
    fs.foldl (fun s f => comeUp s p f) s = fs.foldl (fun s f => toHome s p f) s ∧ Inv (fs.foldl (fun s f => comeUp s p f) s) ∧ GG (fs.foldl (fun s f => comeUp s p f) s) = GG s
  | [], s, h, _, _ => ⟨rfl, h, rfl⟩
  | f :: fs, s, h, hp, hf => by
    have c := comeUp_ok h (List.getElem?_eq_getElem hp) (hf f List.mem_cons_self)
    have ih := comeUps_ok fs (comeUp s p f) c.2.1 (by rw [comeUp_len]; exact hp) fun u hu => by rw [c.2.2]; exact hf u (List.mem_cons_of_mem _ hu)
    rw [List.foldl_cons, List.foldl_cons, ← c.1]
    exact ⟨ih.1, ih.2.1, ih.2.2.trans c.2.2⟩
theorem noUp {G : List SGiven} {p : Nat} {x : SPost} (h : PI G p x) : PI G p { x with up := [] } :=
  ⟨h.recs, h.safe, h.wants, h.long, Nat.zero_le _, h.downl, h.knd, h.known, h.hnd, h.heard, fun _ z => (by cases z), h.down, h.rcs⟩
theorem drainUp_ok {s : SState} (p : Nat) (h : Inv s) : drainUpP s p = Vbkoah.drainUp s p ∧ Inv (drainUpP s p) := by
  cases e : s.posts[p]? with
  | none =>
    have h1 : drainUpP s p = s := by unfold drainUpP; rw [e]
    have h2 : Vbkoah.drainUp s p = s := by unfold Vbkoah.drainUp; rw [e]
    rw [h1, h2]
    exact ⟨rfl, h⟩
  | some x =>
    have px := h.post p x e
    have h2 : Vbkoah.drainUp s p = x.up.foldl (fun s f => toHome s p f) (setP s p { x with up := [] }) := by unfold Vbkoah.drainUp; rw [e]; rfl
    rw [drainUpP_eq e, h2]
    have c := comeUps_ok (p := p) x.up (setP s p { x with up := [] }) (h.setP (noUp px)) (by rw [setP_len]; exact (List.getElem?_eq_some_iff.mp e).1) px.up
    exact ⟨c.1, c.2.1⟩
theorem drainUps_ok : ∀ (ps : List Nat) (s : SState), Inv s → ps.foldl drainUpP s = ps.foldl Vbkoah.drainUp s ∧ Inv (ps.foldl drainUpP s)
  | [], s, h => ⟨rfl, h⟩
  | p :: ps, s, h => by
    have c := drainUp_ok p h
    have ih := drainUps_ok ps (drainUpP s p) c.2
    rw [List.foldl_cons, List.foldl_cons, ← c.1]
    exact ih
/-! #### all that is under way to the posts comes -/
theorem comeDowns_eq {p : Nat} : ∀ (fs : List Down) (s : SState) (y : SPost), p < s.posts.length → fs.foldl (fun s f => comeDown s p f) (setP s p y) = setP s p (fs.foldl toPost y)
  | [], s, y, _ => rfl
  | f :: fs, s, y, hp => by
    have hy : (setP s p y).posts[p]? = some y := setP_at (List.getElem?_eq_getElem hp)
    have e : setP (setP s p y) p (toPost y f) = setP s p (toPost y f) := by
      unfold setP
      dsimp only
      rw [List.set_set]
    rw [List.foldl_cons, List.foldl_cons, comeDown_eq hy, e]
    exact comeDowns_eq fs s _ hp
theorem drainDown_eq {s : SState} {p : Nat} {x : SPost} (h : s.posts[p]? = some x) : drainDownP s p = setP s p (Vbkoah.drainDown x) := by
  rw [drainDownP_eq h]
  exact comeDowns_eq _ _ _ (List.getElem?_eq_some_iff.mp h).1
theorem toPosts_ok {G : List SGiven} {p : Nat} : ∀ (fs : List Down) (x : SPost), PI G p x → (∀ f ∈ fs, DownOk G p f) → PI G p (fs.foldl toPost x)
  | [], x, h, _ => h
  | f :: fs, x, h, hf => toPosts_ok fs _ (toPost_ok h (hf f List.mem_cons_self)) fun u hu => hf u (List.mem_cons_of_mem _ hu)
theorem noDown {G : List SGiven} {p : Nat} {x : SPost} (h : PI G p x) : PI G p { x with down := [] } :=
  ⟨h.recs, h.safe, h.wants, h.long, h.upl, Nat.zero_le _, h.knd, h.known, h.hnd, h.heard, h.up, fun _ z => (by cases z), h.rcs⟩
theorem drainDowns_ok {s : SState} (h : Inv s) : drainDownsP s = { s with posts := s.posts.map Vbkoah.drainDown } ∧ Inv { s with posts := s.posts.map Vbkoah.drainDown } := by
  constructor
  · unfold drainDownsP
    exact fold_all drainDownP Vbkoah.drainDown s fun T p x _ hx => drainDown_eq hx
  · exact h.map fun p x hx => toPosts_ok _ _ (noDown (h.post p x hx)) (h.post p x hx).down
/-! #### the day -/
theorem calmDay_ok {s : SState} (h : Inv s) : calmDayP s = Vbkoah.calmDay s ∧ Inv (calmDayP s) := by
  have eC : calmDayP s = { drainDownsP (allSafeP (drainUpsP (ticksP (allSafeP s)))) with day := (drainDownsP (allSafeP (drainUpsP (ticksP (allSafeP s))))).day + 1 } := rfl
  rw [eC]
  obtain ⟨e1, i1⟩ := allSafe_ok h
  rw [e1]
  obtain ⟨e2, i2⟩ := ticks_ok i1
  rw [e2]
  have e3 := drainUps_ok (List.range ({ Vbkoah.allSafe s with posts := (Vbkoah.allSafe s).posts.map (Vbkoah.tickPost (Vbkoah.allSafe s).day) } : SState).posts.length) _ i2
  have e3' : drainUpsP { Vbkoah.allSafe s with posts := (Vbkoah.allSafe s).posts.map (Vbkoah.tickPost (Vbkoah.allSafe s).day) } = _ := e3.1
  have i3 := e3.2
  rw [e3.1] at i3
  rw [e3']
  obtain ⟨e4, i4⟩ := allSafe_ok i3
  rw [e4]
  obtain ⟨e5, i5⟩ := drainDowns_ok i4
  rw [e5]
  exact ⟨rfl, i5.onDay _⟩
theorem calm_ok' : ∀ (k : Nat) (s : SState), Inv s → calmP k s = Vbkoah.calm k s ∧ Inv (calmP k s)
  | 0, s, h => ⟨rfl, h⟩
  | k + 1, s, h => by
    have c := calmDay_ok h
    have ih := calm_ok' k (calmDayP s) c.2
    show calmP k (calmDayP s) = Vbkoah.calm k (Vbkoah.calmDay s) ∧ Inv (calmP k (calmDayP s))
    rw [← c.1]
    exact ih
theorem Inv.ok {s : SState} (h : Inv s) : Ok s := ⟨fun k => (calm_ok' k s h).2.sbd, h.few⟩
end Pp

set_option linter.all false
namespace Pp
open Vbkoah (Lease HomeRec PostRec Up Down Want numbered endedAt endOf hasBack willDo hasGiven says sendTo homeNums postNums upNums downNums given addHome addPost toHome toPost reply safeLease safeEnded setPost onPost onRow no whole)
/-! ### each call is the specification's -/
theorem new_inv {n w : Nat} (hn : n ≤ 3) (hw : 1 ≤ w) : Inv (Vbkoah.newHouse n w) where
  recs := Nat.zero_le _
  safe := Nat.zero_le _
  w := hw
  few := by show (List.replicate n Vbkoah.newPost).length ≤ 3; rw [List.length_replicate]; exact hn
  lease := fun _ _ _ _ z => by cases z
  post := fun p x hx => by
    have e : x = Vbkoah.newPost := List.eq_of_mem_replicate (List.mem_of_getElem? hx)
    subst e
    exact ⟨Nat.zero_le _, Nat.zero_le _, Nat.zero_le _, fun _ z => (by cases z), Nat.zero_le _, Nat.zero_le _, List.nodup_nil, fun _ z => (by cases z), List.nodup_nil, fun _ z => (by cases z), fun _ z => (by cases z), fun _ z => (by cases z), fun _ z => (by cases z)⟩
theorem at_cases (s : SState) (p : Nat) : s.posts[p]? = none ∨ ∃ x, s.posts[p]? = some x := by
  cases h : s.posts[p]? with
  | none => exact .inl rfl
  | some x => exact .inr ⟨x, rfl⟩
theorem of_same {s : SState} {c : Vbkoah.Call} {a : List Int} (h : Inv s) (e : stepP s c = (s, a)) : Inv (stepP s c).1 := by rw [e]; exact h
theorem PI.safer {G : List SGiven} {p : Nat} {x : SPost} (h : PI G p x) {k : Nat} (hk : k ≤ x.recs.length) : PI G p { x with safe := k } :=
  ⟨h.recs, hk, h.wants, h.long, h.upl, h.downl, h.knd, h.known, h.hnd, h.heard, h.up, h.down, h.rcs⟩
theorem max_min_le {a b m : Nat} (h : a ≤ b) : max a (min m b) ≤ b := by
  refine Nat.max_le.mpr ⟨h, Nat.min_le_right _ _⟩
theorem safer_inv {s : SState} {k : Nat} (h : Inv s) (h1 : s.safe ≤ k) (h2 : k ≤ s.recs.length) : Inv { s with safe := k } := by
  obtain ⟨r, hr⟩ := take_grow s.recs h1
  have g : GG { s with safe := k } = GG s ++ given r := by
    show given (s.recs.take k) = given (s.recs.take s.safe) ++ given r
    rw [hr, given_app]
  refine ⟨h.recs, h2, h.w, h.few, h.lease, fun p x hx => ?_⟩
  rw [g]
  exact (h.post p x hx).grow
theorem cut_inv {s : SState} (h : Inv s) : Inv { s with recs := s.recs.take s.safe } := by
  have hl : (s.recs.take s.safe).length = s.safe := by rw [List.length_take, Nat.min_eq_left h.safe]
  have g : GG { s with recs := s.recs.take s.safe } = GG s := by
    show given ((s.recs.take s.safe).take s.safe) = given (s.recs.take s.safe)
    rw [List.take_take, Nat.min_self]
  refine ⟨?_, ?_, h.w, h.few, fun x p a b z => h.lease x p a b (List.mem_of_mem_take z), fun p x hx => ?_⟩
  · show (s.recs.take s.safe).length ≤ 80
    rw [hl]; exact Nat.le_trans h.safe h.recs
  · show s.safe ≤ (s.recs.take s.safe).length
    rw [hl]; exact Nat.le_refl _
  · rw [g]; exact h.post p x hx
theorem cutPost_ok {G : List SGiven} {p : Nat} {x : SPost} (h : PI G p x) : PI G p (Vbkoah.cutPost x) := by
  have hl : (x.recs.take x.safe).length = x.safe := by rw [List.length_take, Nat.min_eq_left h.safe]
  refine ⟨?_, ?_, Nat.zero_le _, fun _ z => (by cases z), h.upl, h.downl, List.nodup_nil, fun _ z => (by cases z), List.nodup_nil, fun _ z => (by cases z), h.up, h.down, fun r hr => h.rcs r (List.mem_of_mem_take hr)⟩
  · show (x.recs.take x.safe).length ≤ 80
    rw [hl]; exact Nat.le_trans h.safe h.recs
  · show x.safe ≤ (x.recs.take x.safe).length
    rw [hl]; exact Nat.le_refl _
theorem mem_erase {α : Type} {l : List α} {i : Nat} {x : α} (h : x ∈ l.eraseIdx i) : x ∈ l := by
  rw [eraseIdx_eq] at h
  rcases List.mem_append.mp h with h | h
  · exact List.mem_of_mem_take h
  · exact List.mem_of_mem_drop h
theorem erase_le {α : Type} (l : List α) (i : Nat) : (l.eraseIdx i).length ≤ l.length := by
  rw [eraseIdx_eq, List.length_append, List.length_take, List.length_drop]
  omega
theorem mem_twice {α : Type} {l : List α} {i : Nat} {x : α} (h : x ∈ Vbkoah.twice l i) : x ∈ l := by
  rw [twice_eq] at h
  rcases List.mem_append.mp h with h | h
  · exact List.mem_of_mem_take h
  · exact List.mem_of_mem_drop h
theorem withUp {G : List SGiven} {p : Nat} {x : SPost} {u : List Up} (h : PI G p x) (h1 : u.length ≤ 8) (h2 : ∀ f ∈ u, f ∈ x.up) : PI G p { x with up := u } :=
  ⟨h.recs, h.safe, h.wants, h.long, h1, h.downl, h.knd, h.known, h.hnd, h.heard, fun f hf => h.up f (h2 f hf), h.down, h.rcs⟩
theorem withDown {G : List SGiven} {p : Nat} {x : SPost} {u : List Down} (h : PI G p x) (h1 : u.length ≤ 8) (h2 : ∀ f ∈ u, f ∈ x.down) : PI G p { x with down := u } :=
  ⟨h.recs, h.safe, h.wants, h.long, h.upl, h1, h.knd, h.known, h.hnd, h.heard, h.up, fun f hf => h.down f (h2 f hf), h.rcs⟩
theorem setP_setP {s : SState} {p : Nat} {x y : SPost} : setP (setP s p x) p y = setP s p y := by
  unfold setP
  dsimp only
  rw [List.set_set]
theorem row_cases (s : SState) (d p i : Int) : (¬ Rows d p i) ∨ (Rows d p i ∧ s.posts[p.toNat]? = none) ∨ (Rows d p i ∧ ∃ x, s.posts[p.toNat]? = some x ∧ (rowLen d x ≤ i.toNat ∨ i.toNat < rowLen d x)) := by
  by_cases h : Rows d p i
  · rcases at_cases s p.toNat with hx | ⟨x, hx⟩
    · exact .inr (.inl ⟨h, hx⟩)
    · exact .inr (.inr ⟨h, x, hx, Nat.lt_or_ge i.toNat (rowLen d x) |>.symm⟩)
  · exact .inl h
theorem step_tick {s : SState} {p : Int} (h : Inv s) : stepP s (.tick p) = Vbkoah.step s (.tick p) ∧ Inv (stepP s (.tick p)).1 := by
  by_cases hp : 0 ≤ p ∧ p ≤ 2
  · rcases at_cases s p.toNat with hx | ⟨x, hx⟩
    · refine ⟨(tick_4 hp hx).trans ?_, of_same h (tick_4 hp hx)⟩
      unfold Vbkoah.step
      exact (onPost_4 hp hx).symm
    · have px := h.post _ x hx
      have e := tick_ok hp hx
      rw [e]
      refine ⟨?_, h.setP (tick_ok' px h.abg)⟩
      unfold Vbkoah.step
      dsimp only
      rw [onPost_ok hp hx, ← tick_eq px h.abg]
      rfl
  · refine ⟨(tick_1 hp).trans ?_, of_same h (tick_1 hp)⟩
    unfold Vbkoah.step
    exact (onPost_1 hp).symm
theorem step_deliver {s : SState} {d p i : Int} (h : Inv s) : stepP s (.deliver d p i) = Vbkoah.step s (.deliver d p i) ∧ Inv (stepP s (.deliver d p i)).1 := by
  rcases row_cases s d p i with R | ⟨R, hx⟩ | ⟨R, x, hx, hi | hi⟩
  · have e : stepP s (.deliver d p i) = (s, [-1]) := deliver_no fun f => onRow_1 R
    refine ⟨e.trans ?_, of_same h e⟩
    unfold Vbkoah.step
    exact (onRow_1 R).symm
  · have e : stepP s (.deliver d p i) = (s, [-4]) := deliver_no fun f => onRow_4 R hx
    refine ⟨e.trans ?_, of_same h e⟩
    unfold Vbkoah.step
    exact (onRow_4 R hx).symm
  · have e : stepP s (.deliver d p i) = (s, [-6]) := deliver_no fun f => onRow_6 R hx hi
    refine ⟨e.trans ?_, of_same h e⟩
    unfold Vbkoah.step
    exact (onRow_6 R hx hi).symm
  · have px := h.post _ x hx
    have hl := (List.getElem?_eq_some_iff.mp hx).1
    by_cases c : d = 0
    · subst c
      have hi' : i.toNat < x.up.length := hi
      have hf := List.getElem?_eq_getElem hi'
      generalize x.up[i.toNat] = f at hf
      have e := deliver_up R hx hf
      have i1 := h.setP (withUp px (u := x.up.eraseIdx i.toNat) (Nat.le_trans (erase_le _ _) px.upl) fun f hf => mem_erase hf)
      have c1 := comeUp_ok (f := f) i1 (setP_at hx) (px.up f (List.mem_of_getElem? hf))
      rw [e]
      refine ⟨?_, c1.2.1⟩
      unfold Vbkoah.step
      dsimp only
      rw [onRow_ok R hx hi, if_pos rfl, hf, c1.1]
      rfl
    · have hi' : i.toNat < x.down.length := by rw [rowLen, if_neg c] at hi; exact hi
      have hf := List.getElem?_eq_getElem hi'
      generalize x.down[i.toNat] = f at hf
      have e := deliver_down c R hx hf
      have i1 := h.setP (withDown px (u := x.down.eraseIdx i.toNat) (Nat.le_trans (erase_le _ _) px.downl) fun f hf => mem_erase hf)
      have c1 := comeDown_ok (p := p.toNat) (f := f) i1 (px.down f (List.mem_of_getElem? hf))
      rw [e]
      refine ⟨?_, c1.1⟩
      unfold Vbkoah.step
      dsimp only
      rw [onRow_ok R hx hi, if_neg c, hf, comeDown_eq (setP_at hx), setP_setP]
      rfl
theorem step_calm {s : SState} {k : Int} (h : Inv s) : stepP s (.calm k) = Vbkoah.step s (.calm k) ∧ Inv (stepP s (.calm k)).1 := by
  have c := calm_ok' k.toNat s h
  have e : stepP s (.calm k) = Vbkoah.step s (.calm k) := by
    show (if Vbkoah.inside k 1 99 = false then no s (-1) else if Vbkoah.LAST < s.day + k.toNat then no s (-7) else (calmP k.toNat s, [whole (calmP k.toNat s).day])) = _
    rw [c.1]
    rfl
  refine ⟨e, ?_⟩
  by_cases h1 : 1 ≤ k ∧ k ≤ 99
  · by_cases h9 : 900 < s.day + k.toNat
    · exact of_same h (calm_7 h1 h9)
    · rw [calm_ok h1 h9]
      exact c.2
  · exact of_same h (calm_1 h1)
theorem step_ok {s : SState} (h : Inv s) : ∀ c : Vbkoah.Call, stepP s c = Vbkoah.step s c ∧ Inv (stepP s c).1
  | .house n w => ⟨rfl, by
    by_cases c : (1 ≤ n ∧ n ≤ 3) ∧ (3 ≤ w ∧ w ≤ 20)
    · rw [house_ok c]
      exact new_inv (by omega) (by omega)
    · exact of_same h (house_1 c)⟩
  | .want p x l => ⟨rfl, by
    by_cases c : Wn p x l
    · rcases at_cases s p.toNat with hx | ⟨y, hx⟩
      · exact of_same h (want_4 c hx)
      · by_cases c5 : whole s.w - 2 < l
        · exact of_same h (want_5 c hx c5)
        · by_cases c7 : 6 ≤ y.wants.length
          · exact of_same h (want_7 c hx c5 c7)
          · rw [want_ok c hx c5 c7]
            have py := h.post _ y hx
            refine h.setP ⟨py.recs, py.safe, ?_, fun v hv => ?_, py.upl, py.downl, py.knd, py.known, py.hnd, py.heard, py.up, py.down, py.rcs⟩
            · show (y.wants ++ [_]).length ≤ 6
              rw [List.length_append, List.length_singleton]; omega
            · rcases List.mem_append.mp hv with z | z
              · exact py.long v z
              · rw [List.mem_singleton.mp z]
                have := c.2.2.1
                show 1 ≤ l.toNat
                omega
    · exact of_same h (want_1 c)⟩
  | .tick p => step_tick h
  | .safe k m => ⟨rfl, by
    by_cases c : Kn k m
    · by_cases c3 : k = 3
      · subst c3
        rw [safe_3 c]
        exact safer_inv h (Nat.le_max_left _ _) (max_min_le h.safe)
      · rcases at_cases s k.toNat with hx | ⟨x, hx⟩
        · exact of_same h (safe_4 c c3 hx)
        · rw [safe_ok c c3 hx]
          exact h.setP ((h.post _ x hx).safer (max_min_le (h.post _ x hx).safe))
    · exact of_same h (safe_1 c)⟩
  | .deliver d p i => step_deliver h
  | .lose d p i => ⟨rfl, by
    rcases row_cases s d p i with R | ⟨R, hx⟩ | ⟨R, x, hx, hi | hi⟩
    · exact of_same h (lose_no fun f => onRow_1 R)
    · exact of_same h (lose_no fun f => onRow_4 R hx)
    · exact of_same h (lose_no fun f => onRow_6 R hx hi)
    · have px := h.post _ x hx
      by_cases c : d = 0
      · subst c
        rw [lose_up R hx hi]
        exact h.setP (withUp px (Nat.le_trans (erase_le _ _) px.upl) fun f hf => mem_erase hf)
      · have hi' : i.toNat < x.down.length := by rw [rowLen, if_neg c] at hi; exact hi
        rw [lose_down c R hx hi']
        exact h.setP (withDown px (Nat.le_trans (erase_le _ _) px.downl) fun f hf => mem_erase hf)⟩
  | .double d p i => ⟨rfl, by
    rcases row_cases s d p i with R | ⟨R, hx⟩ | ⟨R, x, hx, hi | hi⟩
    · exact of_same h (double_no fun f => onRow_1 R)
    · exact of_same h (double_no fun f => onRow_4 R hx)
    · exact of_same h (double_no fun f => onRow_6 R hx hi)
    · have px := h.post _ x hx
      by_cases c8 : 8 ≤ rowLen d x
      · exact of_same h (double_7 R hx hi c8)
      · by_cases c : d = 0
        · subst c
          have hi' : i.toNat < x.up.length := hi
          have c8' : ¬ 8 ≤ x.up.length := c8
          rw [double_up R hx hi' c8']
          exact h.setP (withUp px (by rw [twice_len hi']; omega) fun f hf => mem_twice hf)
        · have hi' : i.toNat < x.down.length := by rw [rowLen, if_neg c] at hi; exact hi
          have c8' : ¬ 8 ≤ x.down.length := by rw [rowLen, if_neg c] at c8; exact c8
          rw [double_down c R hx hi' c8']
          exact h.setP (withDown px (by rw [twice_len hi']; omega) fun f hf => mem_twice hf)⟩
  | .cut k => ⟨rfl, by
    by_cases c : 0 ≤ k ∧ k ≤ 3
    · by_cases c3 : k = 3
      · subst c3
        rw [cut_3]
        exact cut_inv h
      · rcases at_cases s k.toNat with hx | ⟨x, hx⟩
        · exact of_same h (cut_4 c c3 hx)
        · rw [cut_ok c c3 hx]
          exact h.setP (cutPost_ok (h.post _ x hx))
    · exact of_same h (cut_1 c)⟩
  | .day => ⟨rfl, by
    by_cases c : s.day < 900
    · rw [day_ok c]
      exact h.onDay _
    · exact of_same h (day_7 c)⟩
  | .calm k => step_calm h
  | .papers => ⟨rfl, h⟩
  | .good x d => ⟨rfl, by
    by_cases c : (0 ≤ x ∧ x ≤ 3) ∧ (0 ≤ d ∧ d ≤ 999)
    · exact of_same h (good_ok c)
    · exact of_same h (good_1 c)⟩
  | .leases => ⟨rfl, h⟩
  | .home => ⟨rfl, h⟩
  | .post p => ⟨rfl, by
    by_cases c : 0 ≤ p ∧ p ≤ 2
    · rcases at_cases s p.toNat with hx | ⟨x, hx⟩
      · exact of_same h (post_4 c hx)
      · exact of_same h (post_ok c hx)
    · exact of_same h (post_1 c)⟩
  | .row d p => ⟨rfl, by
    by_cases c : (0 ≤ d ∧ d ≤ 1) ∧ (0 ≤ p ∧ p ≤ 2)
    · rcases at_cases s p.toNat with hx | ⟨x, hx⟩
      · exact of_same h (row_4 c hx)
      · exact of_same h (row_ok c hx)
    · exact of_same h (row_1 c)⟩
  | .now => ⟨rfl, h⟩
end Pp

set_option linter.all false
namespace Pp
/-! ### the calls as they are asked -/
theorem pick {p q : Int} {a n k : Nat} {X : Option (Nat × Nat)} (h : (if p = q then some (a, 0) else X) = some (n, k)) : (p = q ∧ a = n ∧ 0 = k) ∨ X = some (n, k) := by
  by_cases c : p = q
  · rw [if_pos c] at h
    injection h with h
    injection h with h1 h2
    exact .inl ⟨c, h1, h2⟩
  · rw [if_neg c] at h
    exact .inr h
theorem shape_some {p : Int} {n k : Nat} (h : PyVbkoah.shape p = some (n, k)) : k = 0 ∧ ∃ j : Nat, j < 17 ∧ p = (j : Int) ∧ n = ar j := by
  unfold PyVbkoah.shape at h
  rcases pick h with ⟨rfl, rfl, rfl⟩ | h
  · exact ⟨rfl, 0, by decide, rfl, rfl⟩
  rcases pick h with ⟨rfl, rfl, rfl⟩ | h
  · exact ⟨rfl, 1, by decide, rfl, rfl⟩
  rcases pick h with ⟨rfl, rfl, rfl⟩ | h
  · exact ⟨rfl, 2, by decide, rfl, rfl⟩
  rcases pick h with ⟨rfl, rfl, rfl⟩ | h
  · exact ⟨rfl, 3, by decide, rfl, rfl⟩
  rcases pick h with ⟨rfl, rfl, rfl⟩ | h
  · exact ⟨rfl, 4, by decide, rfl, rfl⟩
  rcases pick h with ⟨rfl, rfl, rfl⟩ | h
  · exact ⟨rfl, 5, by decide, rfl, rfl⟩
  rcases pick h with ⟨rfl, rfl, rfl⟩ | h
  · exact ⟨rfl, 6, by decide, rfl, rfl⟩
  rcases pick h with ⟨rfl, rfl, rfl⟩ | h
  · exact ⟨rfl, 7, by decide, rfl, rfl⟩
  rcases pick h with ⟨rfl, rfl, rfl⟩ | h
  · exact ⟨rfl, 8, by decide, rfl, rfl⟩
  rcases pick h with ⟨rfl, rfl, rfl⟩ | h
  · exact ⟨rfl, 9, by decide, rfl, rfl⟩
  rcases pick h with ⟨rfl, rfl, rfl⟩ | h
  · exact ⟨rfl, 10, by decide, rfl, rfl⟩
  rcases pick h with ⟨rfl, rfl, rfl⟩ | h
  · exact ⟨rfl, 11, by decide, rfl, rfl⟩
  rcases pick h with ⟨rfl, rfl, rfl⟩ | h
  · exact ⟨rfl, 12, by decide, rfl, rfl⟩
  rcases pick h with ⟨rfl, rfl, rfl⟩ | h
  · exact ⟨rfl, 13, by decide, rfl, rfl⟩
  rcases pick h with ⟨rfl, rfl, rfl⟩ | h
  · exact ⟨rfl, 14, by decide, rfl, rfl⟩
  rcases pick h with ⟨rfl, rfl, rfl⟩ | h
  · exact ⟨rfl, 15, by decide, rfl, rfl⟩
  rcases pick h with ⟨rfl, rfl, rfl⟩ | h
  · exact ⟨rfl, 16, by decide, rfl, rfl⟩
  cases h
abbrev rawOf (t : CallN) : List (List Int) := [(t.1 : Int) :: t.2]
def Good (cs : List CallN) : Prop := ∀ t ∈ cs, t.1 < 17 ∧ t.2.length = ar t.1
theorem calls_some : ∀ (f : Nat) (l : List Int) (raw : List (List (List Int))), PyFlat.calls PyVbkoah.shape f l = some raw → ∃ cs : List CallN, l = flat cs ∧ Good cs ∧ raw = cs.map rawOf
  | f, [], raw, h => by
    have h : some [] = some raw := by cases f <;> exact h
    cases h
    exact ⟨[], rfl, fun _ z => (by cases z), rfl⟩
  | 0, p :: r, raw, h => by cases h
  | f + 1, p :: r, raw, h => by
    have h : (match PyFlat.call PyVbkoah.shape (p :: r) with
      | none => none
      | some (c, t) => match PyFlat.calls PyVbkoah.shape f t with
        | none => none
        | some cs => some (c :: cs)) = some raw := h
    have hc : PyFlat.call PyVbkoah.shape (p :: r) = (match PyVbkoah.shape p with
      | none => none
      | some (n, k) => if r.length < n then none else match PyFlat.rows k (r.drop n) with
        | none => none
        | some (xs, t) => some ((p :: r.take n) :: xs, t)) := rfl
    cases hs : PyVbkoah.shape p with
    | none =>
      rw [hs] at hc
      rw [hc] at h
      cases h
    | some nk =>
      obtain ⟨n, k⟩ := nk
      obtain ⟨rfl, j, hj, rfl, rfl⟩ := shape_some hs
      rw [hs] at hc
      have hc : PyFlat.call PyVbkoah.shape ((j : Int) :: r) = if r.length < ar j then none else some ([(j : Int) :: r.take (ar j)], r.drop (ar j)) := hc
      by_cases c : r.length < ar j
      · rw [if_pos c] at hc
        rw [hc] at h
        cases h
      · rw [if_neg c] at hc
        rw [hc] at h
        cases hr : PyFlat.calls PyVbkoah.shape f (r.drop (ar j)) with
        | none =>
          dsimp only at h
          rw [hr] at h
          cases h
        | some raw' =>
          dsimp only at h
          rw [hr] at h
          have h : some ([(j : Int) :: r.take (ar j)] :: raw') = some raw := h
          cases h
          obtain ⟨cs, e1, e2, rfl⟩ := calls_some f _ raw' hr
          refine ⟨(j, r.take (ar j)) :: cs, ?_, fun t ht => ?_, rfl⟩
          · rw [flat_cons, ← e1]
            show (j : Int) :: r = (j : Int) :: (r.take (ar j) ++ r.drop (ar j))
            rw [List.take_append_drop]
          · rcases List.mem_cons.mp ht with z | z
            · subst z
              exact ⟨hj, by show (r.take (ar j)).length = ar j; rw [List.length_take]; omega⟩
            · exact e2 t z
theorem callOf_eq {k : Nat} {ns : List Int} (hk : k < 17) (hn : ns.length = ar k) : VbkoahNeutral.callOf (PyVbkoah.whole (rawOf (k, ns))) = some (cOf k ns) := by
  match k, hk, hn with
  | 0, _, hn => obtain ⟨a, b, rfl⟩ := len2 hn; rfl
  | 1, _, hn => obtain ⟨a, b, d, rfl⟩ := len3 hn; rfl
  | 2, _, hn => obtain ⟨a, rfl⟩ := len1 hn; rfl
  | 3, _, hn => obtain ⟨a, b, rfl⟩ := len2 hn; rfl
  | 4, _, hn => obtain ⟨a, b, d, rfl⟩ := len3 hn; rfl
  | 5, _, hn => obtain ⟨a, b, d, rfl⟩ := len3 hn; rfl
  | 6, _, hn => obtain ⟨a, b, d, rfl⟩ := len3 hn; rfl
  | 7, _, hn => obtain ⟨a, rfl⟩ := len1 hn; rfl
  | 8, _, hn => obtain rfl := len0 hn; rfl
  | 9, _, hn => obtain ⟨a, rfl⟩ := len1 hn; rfl
  | 10, _, hn => obtain rfl := len0 hn; rfl
  | 11, _, hn => obtain ⟨a, b, rfl⟩ := len2 hn; rfl
  | 12, _, hn => obtain rfl := len0 hn; rfl
  | 13, _, hn => obtain rfl := len0 hn; rfl
  | 14, _, hn => obtain ⟨a, rfl⟩ := len1 hn; rfl
  | 15, _, hn => obtain ⟨a, b, rfl⟩ := len2 hn; rfl
  | 16, _, hn => obtain rfl := len0 hn; rfl
  | k + 17, h, _ => exact absurd h (by omega)
theorem step_neutral {s : SState} {t : CallN} (h : Inv s) (hk : t.1 < 17) (hn : t.2.length = ar t.1) : VbkoahNeutral.step s (PyVbkoah.whole (rawOf t)) = stp s t := by
  unfold VbkoahNeutral.step
  rw [callOf_eq hk hn]
  exact (step_ok h _).1.symm
theorem Good.tail {t : CallN} {cs : List CallN} (h : Good (t :: cs)) : Good cs := fun u hu => h u (List.mem_cons_of_mem _ hu)
theorem played_eq : ∀ (cs : List CallN) (s : SState), Inv s → Good cs → PyFlat.told (PyFlat.played VbkoahNeutral.step s ((cs.map rawOf).map PyVbkoah.whole)) = runA s cs
  | [], s, _, _ => rfl
  | t :: cs, s, h, g => by
    have gt := g t List.mem_cons_self
    have e := step_neutral h gt.1 gt.2
    have i : Inv (stp s t).1 := (step_ok h _).2
    have ih := played_eq cs (stp s t).1 i g.tail
    show PyFlat.told ((VbkoahNeutral.step s (PyVbkoah.whole (rawOf t))).2 :: PyFlat.played VbkoahNeutral.step (VbkoahNeutral.step s (PyVbkoah.whole (rawOf t))).1 ((cs.map rawOf).map PyVbkoah.whole)) = _
    rw [e]
    show (((stp s t).2.length : Int) :: (stp s t).2) ++ PyFlat.told (PyFlat.played VbkoahNeutral.step (stp s t).1 ((cs.map rawOf).map PyVbkoah.whole)) = _
    rw [ih]
    rfl
theorem run_inv : ∀ (cs : List CallN) (s : SState), Inv s → Inv (runS s cs)
  | [], s, h => h
  | t :: cs, s, h => run_inv cs (stp s t).1 (step_ok h _).2
theorem start_inv : Inv Vbkoah.start := new_inv (by decide) (by decide)
/-- what is asked: a row of good calls, and what the specification answers -/
theorem asked_cs {l : List Int} (h : PyVbkoah.answers_asked l = true) : ∃ cs : List CallN, l = flat cs ∧ Good cs ∧ (∀ pre suf, cs = pre ++ suf → Ok (runS Vbkoah.start pre)) ∧ (runA Vbkoah.start cs).length ≤ 10000000 ∧ PyVbkoah.answers l = runA Vbkoah.start cs := by
  unfold PyVbkoah.answers_asked at h
  cases hr : PyFlat.calls PyVbkoah.shape l.length l with
  | none => rw [hr] at h; cases h
  | some raw =>
    rw [hr] at h
    dsimp only at h
    rw [Bool.and_eq_true] at h
    obtain ⟨cs, e1, e2, rfl⟩ := calls_some _ _ _ hr
    have e : PyVbkoah.answers l = runA Vbkoah.start cs := by
      unfold PyVbkoah.answers PyVbkoah.calls
      rw [hr]
      exact played_eq cs Vbkoah.start start_inv e2
    refine ⟨cs, e1, e2, fun pre suf _ => (run_inv pre _ start_inv).ok, ?_, e⟩
    rw [← e]
    exact of_decide_eq_true h.2
end Pp

set_option Elab.async false
set_option linter.all false
set_option maxRecDepth 100000
set_option maxHeartbeats 2000000
namespace Pp
open PySem PySem.Spec PyProof.Rows L2
open PySem.W (Codec)
/-- what is asked keeps what answers wants; what it leaves is what the specification answers -/
theorem case_S {K : PySem.W.Frag} {H : Hp} {xs : List V} {a : Codec.denoteAll PySem.Challenge.rw_paperposts_s01_answers.args} (hask : Codec.app PySem.Challenge.rw_paperposts_s01_answers.args PySem.Challenge.rw_paperposts_s01_answers.asked a = true)
    (hx : L2.DwAll K H xs (Codec.encAll PySem.Challenge.rw_paperposts_s01_answers.args a)) :
    spAnswers K xs H (fun v H' => L2.Dw K H' v (PySem.Challenge.rw_paperposts_s01_answers.ret.enc (Codec.app PySem.Challenge.rw_paperposts_s01_answers.args PySem.Challenge.rw_paperposts_s01_answers.f a))) fun _ _ _ => False := by
  cases hx with
  | cons h1 h2 =>
    cases h2
    cases h1 with
    | lst hs ha =>
      have e := L2.ints_dw a.1 _ ha
      subst e
      obtain ⟨cs, e1, e2, e3, e4, e5⟩ := asked_cs (l := a.1) hask
      refine ⟨_, cs, rfl, ?_, e2, e3, e4, fun H' p hp => ?_⟩
      · rw [← e1]
        exact hs
      · show L2.Dw K H' (.ref p) (PySem.Challenge.rw_paperposts_s01_answers.ret.enc (PyVbkoah.answers a.1))
        rw [e5]
        exact .lst (L2.SqL.of hp) (L2.dw_ints _)
end Pp

open PySem PySem.W PyProof.Rows
set_option maxRecDepth 100000 in
set_option maxHeartbeats 0 in
theorem PySem.Challenge.cw_paperposts_s01_answers_holds : PySem.Challenge.rw_paperposts_s01_answers.Holds := by
  w_on; k_headS; (case hw => exact ⟨[.list [.int 16]], by decide +kernel, by decide +kernel⟩)
  k_fillS
  refine L2.walk_specK (r := PySem.Challenge.rw_paperposts_s01_answers) (k := 10) (CX := L2.CX0) (ps := ["calls"]) (sp := Pp.spAnswers) (by decide +kernel) rfl rfl ⟨rfl, by decide, by decide⟩ (fun w h Y => PySem.W.kIn_of Y) ?F ?S (fun _ _ _ _ z => z)
  case F =>
    intro w mg fa h Y KX G hmg
    refine' Pp.all_mk KX G hmg ?acS ?pgcS ?hdcS ?pocS ?sacS ?mkcS ?kccS ?acH ?pgcH ?hdcH ?pocH ?sacH ?mkcH ?kccH ?acP ?pgcP ?hdcP ?pocP ?sacP ?mkcP ?kccP ?acW ?pgcW ?hdcW ?pocW ?sacW ?mkcW ?kccW ?acT ?pgcT ?hdcT ?pocT ?sacT ?mkcT ?kccT ?acD ?pgcD ?hdcD ?pocD ?sacD ?mkcD ?kccD ?nS_records ?nS_sure ?nH_station ?nP_station ?nP_leases ?nP_wants ?nP_heard ?nW_frames ?nT_home ?nT_posts ?nT_to_home ?nT_to_post ?nT_length ?nT_today ?nD_town ?i_MOST_RECORDS ?i_LEASE_homes ?i_ENDED ?i_ASK_homes ?i_HEARD ?i_GRANT ?i_BACK ?i_ASK_posts ?i_LEASE_posts ?i_MOST_FRAMES ?i_MOST_WANTS ?i_LAST_DAY ?i_HOME ?z_len ?z_max ?z_min ?z_any ?z_all ?z_enumerate ?z_range ?z_list ?aR ?xR ?saR ?gaR ?ggR ?nnR ?iR ?tR ?lR ?cdcR ?kR ?eR ?tyR ?hdR ?icR ?sR ?a_Station_init ?i_Station_init ?l_Station_init ?c_Station_init ?k_Station_init ?a_Station_has_room ?i_Station_has_room ?l_Station_has_room ?c_Station_has_room ?k_Station_has_room ?a_Station_record ?i_Station_record ?l_Station_record ?c_Station_record ?k_Station_record ?a_Station_make_safe ?i_Station_make_safe ?l_Station_make_safe ?c_Station_make_safe ?k_Station_make_safe ?a_Station_lose_unsafe ?i_Station_lose_unsafe ?l_Station_lose_unsafe ?c_Station_lose_unsafe ?k_Station_lose_unsafe ?a_Station_safe_records ?i_Station_safe_records ?l_Station_safe_records ?c_Station_safe_records ?k_Station_safe_records ?a_Home_all_leases ?i_Home_all_leases ?l_Home_all_leases ?c_Home_all_leases ?k_Home_all_leases ?a_Home_ended_at ?i_Home_ended_at ?l_Home_ended_at ?c_Home_ended_at ?k_Home_ended_at ?a_Post_grants ?i_Post_grants ?l_Post_grants ?c_Post_grants ?k_Post_grants ?a_Post_has_back ?i_Post_has_back ?l_Post_has_back ?c_Post_has_back ?k_Post_has_back ?a_Post_learn ?i_Post_learn ?l_Post_learn ?c_Post_learn ?k_Post_learn ?a_Wire_init ?i_Wire_init ?l_Wire_init ?c_Wire_init ?k_Wire_init ?a_Wire_send ?i_Wire_send ?l_Wire_send ?c_Wire_send ?k_Wire_send ?a_Wire_has ?i_Wire_has ?l_Wire_has ?c_Wire_has ?k_Wire_has ?a_Wire_take ?i_Wire_take ?l_Wire_take ?c_Wire_take ?k_Wire_take ?a_Wire_is_full ?i_Wire_is_full ?l_Wire_is_full ?c_Wire_is_full ?k_Wire_is_full ?a_Wire_twice ?i_Wire_twice ?l_Wire_twice ?c_Wire_twice ?k_Wire_twice ?a_Wire_take_all ?i_Wire_take_all ?l_Wire_take_all ?c_Wire_take_all ?k_Wire_take_all ?a_Town_wire ?i_Town_wire ?l_Town_wire ?c_Town_wire ?k_Town_wire ?a_counted ?l_counted ?c_counted ?k_counted ?a_now ?l_now ?c_now ?k_now ?a_end_of ?l_end_of ?c_end_of ?k_end_of ?a_given_back ?l_given_back ?c_given_back ?k_given_back ?a_Post_forget ?i_Post_forget ?l_Post_forget ?c_Post_forget ?k_Post_forget ?a_will_do ?l_will_do ?c_will_do ?k_will_do ?a_has_given ?l_has_given ?c_has_given ?k_has_given ?a_last_day ?l_last_day ?c_last_day ?k_last_day ?a_Town_make_all_safe ?i_Town_make_all_safe ?l_Town_make_all_safe ?c_Town_make_all_safe ?k_Town_make_all_safe ?a_papers_of ?l_papers_of ?c_papers_of ?k_papers_of ?a_told_records ?l_told_records ?c_told_records ?k_told_records ?a_demand ?l_demand ?c_demand ?k_demand ?a_Home_init ?i_Home_init ?l_Home_init ?c_Home_init ?k_Home_init ?a_asked ?l_asked ?c_asked ?k_asked ?a_Post_init ?i_Post_init ?l_Post_init ?c_Post_init ?k_Post_init ?a_lease_for ?l_lease_for ?c_lease_for ?k_lease_for ?a_give_back ?l_give_back ?c_give_back ?k_give_back ?a_papers ?l_papers ?c_papers ?k_papers ?a_leases ?l_leases ?c_leases ?k_leases ?a_asked_home ?l_asked_home ?c_asked_home ?k_asked_home ?a_demand_in ?l_demand_in ?c_demand_in ?k_demand_in ?a_take_in ?l_take_in ?c_take_in ?k_take_in ?a_does_go ?l_does_go ?c_does_go ?k_does_go ?a_frames_of ?l_frames_of ?c_frames_of ?k_frames_of ?a_demand_post ?l_demand_post ?c_demand_post ?k_demand_post ?a_day ?l_day ?c_day ?k_day ?a_tick_posts ?l_tick_posts ?c_tick_posts ?k_tick_posts ?a_Town_init ?i_Town_init ?l_Town_init ?c_Town_init ?k_Town_init ?a_Town_come ?i_Town_come ?l_Town_come ?c_Town_come ?k_Town_come ?a_station_of ?l_station_of ?c_station_of ?k_station_of ?a_want ?l_want ?c_want ?k_want ?a_frame_wire ?l_frame_wire ?c_frame_wire ?k_frame_wire ?a_good ?l_good ?c_good ?k_good ?a_asked_post ?l_asked_post ?c_asked_post ?k_asked_post ?a_row ?l_row ?c_row ?k_row ?a_Town_come_all ?i_Town_come_all ?l_Town_come_all ?c_Town_come_all ?k_Town_come_all ?a_Town_tick_post ?i_Town_tick_post ?l_Town_tick_post ?c_Town_tick_post ?k_Town_tick_post ?a_safe ?l_safe ?c_safe ?k_safe ?a_deliver ?l_deliver ?c_deliver ?k_deliver ?a_lose ?l_lose ?c_lose ?k_lose ?a_double ?l_double ?c_double ?k_double ?a_cut ?l_cut ?c_cut ?k_cut ?a_Town_calm_day ?i_Town_calm_day ?l_Town_calm_day ?c_Town_calm_day ?k_Town_calm_day ?a_Desk_init ?i_Desk_init ?l_Desk_init ?c_Desk_init ?k_Desk_init ?a_house ?l_house ?c_house ?k_house ?a_tick_deeds ?l_tick_deeds ?c_tick_deeds ?k_tick_deeds ?a_calm ?l_calm ?c_calm ?k_calm ?aDE ?lDE ?vDE ?aNU ?lNU ?vNU ?a_answer ?l_answer ?c_answer ?k_answer ?a_answers ?l_answers ?c_answers ?k_answers
    (case acS => k_is)
    (case pgcS => k_is)
    (case hdcS => k_is)
    (case pocS => k_is)
    (case sacS => k_is)
    (case mkcS => k_is)
    (case kccS => k_is)
    (case acH => k_is)
    (case pgcH => k_is)
    (case hdcH => k_is)
    (case pocH => k_is)
    (case sacH => k_is)
    (case mkcH => k_is)
    (case kccH => k_is)
    (case acP => k_is)
    (case pgcP => k_is)
    (case hdcP => k_is)
    (case pocP => k_is)
    (case sacP => k_is)
    (case mkcP => k_is)
    (case kccP => k_is)
    (case acW => k_is)
    (case pgcW => k_is)
    (case hdcW => k_is)
    (case pocW => k_is)
    (case sacW => k_is)
    (case mkcW => k_is)
    (case kccW => k_is)
    (case acT => k_is)
    (case pgcT => k_is)
    (case hdcT => k_is)
    (case pocT => k_is)
    (case sacT => k_is)
    (case mkcT => k_is)
    (case kccT => k_is)
    (case acD => k_is)
    (case pgcD => k_is)
    (case hdcD => k_is)
    (case pocD => k_is)
    (case sacD => k_is)
    (case mkcD => k_is)
    (case kccD => k_is)
    (case nS_records => k_is)
    (case nS_sure => k_is)
    (case nH_station => k_is)
    (case nP_station => k_is)
    (case nP_leases => k_is)
    (case nP_wants => k_is)
    (case nP_heard => k_is)
    (case nW_frames => k_is)
    (case nT_home => k_is)
    (case nT_posts => k_is)
    (case nT_to_home => k_is)
    (case nT_to_post => k_is)
    (case nT_length => k_is)
    (case nT_today => k_is)
    (case nD_town => k_is)
    (case i_MOST_RECORDS => k_is)
    (case i_LEASE_homes => k_is)
    (case i_ENDED => k_is)
    (case i_ASK_homes => k_is)
    (case i_HEARD => k_is)
    (case i_GRANT => k_is)
    (case i_BACK => k_is)
    (case i_ASK_posts => k_is)
    (case i_LEASE_posts => k_is)
    (case i_MOST_FRAMES => k_is)
    (case i_MOST_WANTS => k_is)
    (case i_LAST_DAY => k_is)
    (case i_HOME => k_is)
    (case z_len => k_is)
    (case z_max => k_is)
    (case z_min => k_is)
    (case z_any => k_is)
    (case z_all => k_is)
    (case z_enumerate => k_is)
    (case z_range => k_is)
    (case z_list => k_is)
    (case aR => k_is)
    (case xR => k_is)
    (case saR => k_is)
    (case gaR => k_is)
    (case ggR => k_is)
    (case nnR => k_is)
    (case iR => k_is)
    (case tR => k_is)
    (case lR => k_is)
    (case cdcR => k_is)
    (case kR => k_is)
    (case eR => k_is)
    (case tyR => k_is)
    (case hdR => k_is)
    (case icR => k_is)
    (case sR => first | rfl | k_is)
    (case a_Station_init => k_is)
    (case i_Station_init => k_is)
    (case l_Station_init => k_is)
    (case c_Station_init => k_is)
    (case k_Station_init => k_is)
    (case a_Station_has_room => k_is)
    (case i_Station_has_room => k_is)
    (case l_Station_has_room => k_is)
    (case c_Station_has_room => k_is)
    (case k_Station_has_room => k_is)
    (case a_Station_record => k_is)
    (case i_Station_record => k_is)
    (case l_Station_record => k_is)
    (case c_Station_record => k_is)
    (case k_Station_record => k_is)
    (case a_Station_make_safe => k_is)
    (case i_Station_make_safe => k_is)
    (case l_Station_make_safe => k_is)
    (case c_Station_make_safe => k_is)
    (case k_Station_make_safe => k_is)
    (case a_Station_lose_unsafe => k_is)
    (case i_Station_lose_unsafe => k_is)
    (case l_Station_lose_unsafe => k_is)
    (case c_Station_lose_unsafe => k_is)
    (case k_Station_lose_unsafe => k_is)
    (case a_Station_safe_records => k_is)
    (case i_Station_safe_records => k_is)
    (case l_Station_safe_records => k_is)
    (case c_Station_safe_records => k_is)
    (case k_Station_safe_records => k_is)
    (case a_Home_all_leases => k_is)
    (case i_Home_all_leases => k_is)
    (case l_Home_all_leases => k_is)
    (case c_Home_all_leases => k_is)
    (case k_Home_all_leases => k_is)
    (case a_Home_ended_at => k_is)
    (case i_Home_ended_at => k_is)
    (case l_Home_ended_at => k_is)
    (case c_Home_ended_at => k_is)
    (case k_Home_ended_at => k_is)
    (case a_Post_grants => k_is)
    (case i_Post_grants => k_is)
    (case l_Post_grants => k_is)
    (case c_Post_grants => k_is)
    (case k_Post_grants => k_is)
    (case a_Post_has_back => k_is)
    (case i_Post_has_back => k_is)
    (case l_Post_has_back => k_is)
    (case c_Post_has_back => k_is)
    (case k_Post_has_back => k_is)
    (case a_Post_learn => k_is)
    (case i_Post_learn => k_is)
    (case l_Post_learn => k_is)
    (case c_Post_learn => k_is)
    (case k_Post_learn => k_is)
    (case a_Wire_init => k_is)
    (case i_Wire_init => k_is)
    (case l_Wire_init => k_is)
    (case c_Wire_init => k_is)
    (case k_Wire_init => k_is)
    (case a_Wire_send => k_is)
    (case i_Wire_send => k_is)
    (case l_Wire_send => k_is)
    (case c_Wire_send => k_is)
    (case k_Wire_send => k_is)
    (case a_Wire_has => k_is)
    (case i_Wire_has => k_is)
    (case l_Wire_has => k_is)
    (case c_Wire_has => k_is)
    (case k_Wire_has => k_is)
    (case a_Wire_take => k_is)
    (case i_Wire_take => k_is)
    (case l_Wire_take => k_is)
    (case c_Wire_take => k_is)
    (case k_Wire_take => k_is)
    (case a_Wire_is_full => k_is)
    (case i_Wire_is_full => k_is)
    (case l_Wire_is_full => k_is)
    (case c_Wire_is_full => k_is)
    (case k_Wire_is_full => k_is)
    (case a_Wire_twice => k_is)
    (case i_Wire_twice => k_is)
    (case l_Wire_twice => k_is)
    (case c_Wire_twice => k_is)
    (case k_Wire_twice => k_is)
    (case a_Wire_take_all => k_is)
    (case i_Wire_take_all => k_is)
    (case l_Wire_take_all => k_is)
    (case c_Wire_take_all => k_is)
    (case k_Wire_take_all => k_is)
    (case a_Town_wire => k_is)
    (case i_Town_wire => k_is)
    (case l_Town_wire => k_is)
    (case c_Town_wire => k_is)
    (case k_Town_wire => k_is)
    (case a_counted => k_is)
    (case l_counted => k_is)
    (case c_counted => k_is)
    (case k_counted => k_is)
    (case a_now => k_is)
    (case l_now => k_is)
    (case c_now => k_is)
    (case k_now => k_is)
    (case a_end_of => k_is)
    (case l_end_of => k_is)
    (case c_end_of => k_is)
    (case k_end_of => k_is)
    (case a_given_back => k_is)
    (case l_given_back => k_is)
    (case c_given_back => k_is)
    (case k_given_back => k_is)
    (case a_Post_forget => k_is)
    (case i_Post_forget => k_is)
    (case l_Post_forget => k_is)
    (case c_Post_forget => k_is)
    (case k_Post_forget => k_is)
    (case a_will_do => k_is)
    (case l_will_do => k_is)
    (case c_will_do => k_is)
    (case k_will_do => k_is)
    (case a_has_given => k_is)
    (case l_has_given => k_is)
    (case c_has_given => k_is)
    (case k_has_given => k_is)
    (case a_last_day => k_is)
    (case l_last_day => k_is)
    (case c_last_day => k_is)
    (case k_last_day => k_is)
    (case a_Town_make_all_safe => k_is)
    (case i_Town_make_all_safe => k_is)
    (case l_Town_make_all_safe => k_is)
    (case c_Town_make_all_safe => k_is)
    (case k_Town_make_all_safe => k_is)
    (case a_papers_of => k_is)
    (case l_papers_of => k_is)
    (case c_papers_of => k_is)
    (case k_papers_of => k_is)
    (case a_told_records => k_is)
    (case l_told_records => k_is)
    (case c_told_records => k_is)
    (case k_told_records => k_is)
    (case a_demand => k_is)
    (case l_demand => k_is)
    (case c_demand => k_is)
    (case k_demand => k_is)
    (case a_Home_init => k_is)
    (case i_Home_init => k_is)
    (case l_Home_init => k_is)
    (case c_Home_init => k_is)
    (case k_Home_init => k_is)
    (case a_asked => k_is)
    (case l_asked => k_is)
    (case c_asked => k_is)
    (case k_asked => k_is)
    (case a_Post_init => k_is)
    (case i_Post_init => k_is)
    (case l_Post_init => k_is)
    (case c_Post_init => k_is)
    (case k_Post_init => k_is)
    (case a_lease_for => k_is)
    (case l_lease_for => k_is)
    (case c_lease_for => k_is)
    (case k_lease_for => k_is)
    (case a_give_back => k_is)
    (case l_give_back => k_is)
    (case c_give_back => k_is)
    (case k_give_back => k_is)
    (case a_papers => k_is)
    (case l_papers => k_is)
    (case c_papers => k_is)
    (case k_papers => k_is)
    (case a_leases => k_is)
    (case l_leases => k_is)
    (case c_leases => k_is)
    (case k_leases => k_is)
    (case a_asked_home => k_is)
    (case l_asked_home => k_is)
    (case c_asked_home => k_is)
    (case k_asked_home => k_is)
    (case a_demand_in => k_is)
    (case l_demand_in => k_is)
    (case c_demand_in => k_is)
    (case k_demand_in => k_is)
    (case a_take_in => k_is)
    (case l_take_in => k_is)
    (case c_take_in => k_is)
    (case k_take_in => k_is)
    (case a_does_go => k_is)
    (case l_does_go => k_is)
    (case c_does_go => k_is)
    (case k_does_go => k_is)
    (case a_frames_of => k_is)
    (case l_frames_of => k_is)
    (case c_frames_of => k_is)
    (case k_frames_of => k_is)
    (case a_demand_post => k_is)
    (case l_demand_post => k_is)
    (case c_demand_post => k_is)
    (case k_demand_post => k_is)
    (case a_day => k_is)
    (case l_day => k_is)
    (case c_day => k_is)
    (case k_day => k_is)
    (case a_tick_posts => k_is)
    (case l_tick_posts => k_is)
    (case c_tick_posts => k_is)
    (case k_tick_posts => k_is)
    (case a_Town_init => k_is)
    (case i_Town_init => k_is)
    (case l_Town_init => k_is)
    (case c_Town_init => k_is)
    (case k_Town_init => k_is)
    (case a_Town_come => k_is)
    (case i_Town_come => k_is)
    (case l_Town_come => k_is)
    (case c_Town_come => k_is)
    (case k_Town_come => k_is)
    (case a_station_of => k_is)
    (case l_station_of => k_is)
    (case c_station_of => k_is)
    (case k_station_of => k_is)
    (case a_want => k_is)
    (case l_want => k_is)
    (case c_want => k_is)
    (case k_want => k_is)
    (case a_frame_wire => k_is)
    (case l_frame_wire => k_is)
    (case c_frame_wire => k_is)
    (case k_frame_wire => k_is)
    (case a_good => k_is)
    (case l_good => k_is)
    (case c_good => k_is)
    (case k_good => k_is)
    (case a_asked_post => k_is)
    (case l_asked_post => k_is)
    (case c_asked_post => k_is)
    (case k_asked_post => k_is)
    (case a_row => k_is)
    (case l_row => k_is)
    (case c_row => k_is)
    (case k_row => k_is)
    (case a_Town_come_all => k_is)
    (case i_Town_come_all => k_is)
    (case l_Town_come_all => k_is)
    (case c_Town_come_all => k_is)
    (case k_Town_come_all => k_is)
    (case a_Town_tick_post => k_is)
    (case i_Town_tick_post => k_is)
    (case l_Town_tick_post => k_is)
    (case c_Town_tick_post => k_is)
    (case k_Town_tick_post => k_is)
    (case a_safe => k_is)
    (case l_safe => k_is)
    (case c_safe => k_is)
    (case k_safe => k_is)
    (case a_deliver => k_is)
    (case l_deliver => k_is)
    (case c_deliver => k_is)
    (case k_deliver => k_is)
    (case a_lose => k_is)
    (case l_lose => k_is)
    (case c_lose => k_is)
    (case k_lose => k_is)
    (case a_double => k_is)
    (case l_double => k_is)
    (case c_double => k_is)
    (case k_double => k_is)
    (case a_cut => k_is)
    (case l_cut => k_is)
    (case c_cut => k_is)
    (case k_cut => k_is)
    (case a_Town_calm_day => k_is)
    (case i_Town_calm_day => k_is)
    (case l_Town_calm_day => k_is)
    (case c_Town_calm_day => k_is)
    (case k_Town_calm_day => k_is)
    (case a_Desk_init => k_is)
    (case i_Desk_init => k_is)
    (case l_Desk_init => k_is)
    (case c_Desk_init => k_is)
    (case k_Desk_init => k_is)
    (case a_house => k_is)
    (case l_house => k_is)
    (case c_house => k_is)
    (case k_house => k_is)
    (case a_tick_deeds => k_is)
    (case l_tick_deeds => k_is)
    (case c_tick_deeds => k_is)
    (case k_tick_deeds => k_is)
    (case a_calm => k_is)
    (case l_calm => k_is)
    (case c_calm => k_is)
    (case k_calm => k_is)
    (case aDE => k_is)
    (case lDE => k_is)
    (case vDE => first | rfl | decide | (simp; done))
    (case aNU => k_is)
    (case lNU => k_is)
    (case vNU => first | rfl | decide | (simp; done))
    (case a_answer => k_is)
    (case l_answer => k_is)
    (case c_answer => k_is)
    (case k_answer => k_is)
    (case a_answers => k_is)
    (case l_answers => k_is)
    (case c_answers => k_is)
    (case k_answers => k_is)
  case S =>
    intro K H xs a hO hwi hask hx
    exact Pp.case_S hask hx
