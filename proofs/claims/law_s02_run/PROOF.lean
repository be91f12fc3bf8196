import PyProof.Rows.All
import Wide.All
import OpenK.AllK
import Wide.FinOn
import PyProof.EqAt
import PyProof.EqKinds
import PyProof.TupleCall
import Open.SpecLaws
import KE.OsGo
import PySem.Challenge.RW_brokeloop_s02_run
import HandS.ForSpec
set_option Elab.async false
set_option linter.all false
set_option maxRecDepth 100000
set_option maxHeartbeats 4000000
/-! # run: the own error's block (turned from the worked proof 42_own_error_by_import), the plain law, the walk def by def, the end -/
namespace PySem
namespace RefX
open PySem.W PySem.Calls PyProof.Rows PySem.HandSPX
/-! ### the text of __init__ -/
def iA (p1 p2 : Pos) : Arguments := { posonlyargs := [], args := [{ arg := "self", annotation := none, pos := p1 }, { arg := "number", annotation := none, pos := p2 }], vararg := none, kwonlyargs := [], kw_defaults := [], kwarg := none, defaults := [] }
def iB (q1 q2 q3 q4 : Pos) : List Stmt := [.Assign [.Attribute (.Name "self" q1) "number" q2] (.Name "number" q3) q4]
def iS : Scope := { kind := .function, names := [(PySem.Str.ofString "self", .local), (PySem.Str.ofString "number", .local)], isGenerator := false, isCoroutine := false, more := [] }
/-- what the written part says of Low, at C, and of its __init__, at fI -/
structure RefTxt (K : Frag) (mg : Str → Option Value) (C fI : Addr) : Prop where
  gC : mg "Refused" = some (.ref C)
  cls : ∃ nm q N bs bm sn sub ab col dd k0 k1 k2 k3 k5, K.lookup C = some (excClassObj nm q C N bs bm true sn sub ab col dd k0 k1 k2 k3 k5 "ValueError.__new__") ∧ refsVE bm = true
  sa : findIn K (.ref C) "__setattr__" = some (some (.builtin "object.__setattr__"))
  ga : findIn K (.ref C) "__getattribute__" = some (some (.builtin "BaseException.__getattribute__"))
  gg : findIn K (.ref C) "__getattr__" = some none
  noN : findIn K (.ref C) "number" = some none
  iC : findIn K (.ref C) "__init__" = some (some (.ref fI))
  tC : typeIn K (.ref fI) = some (.type "function")
  kC : keepIn K (.ref C) = true
  exC : subIn K (.ref C) (.type "BaseException") = some true
  tyC : typeIn K (.ref C) = some (.type "type")
  hdC : hasDictIn K C = true
  te : exmOne K (.ref C) (.ref C) = some true
  fn : ∃ (oc : Value) (od : Option Addr) (doc pm : Value) (an : Option Addr) (cdv ct : Value) (osl : Array (Option Value)) (p1 p2 q1 q2 q3 q4 : Pos),
    K.lookup fI = some ⟨oc, od, .func (fnOf "__init__" "Refused.__init__" (iA p1 p2) (iB q1 q2 q3 q4) iS .none .none doc pm an cdv ct), osl⟩ ∧ codeIn K cdv "Refused.__init__" = true
theorem one_size (v : Value) : [v].length ≤ sizeLine := by
  rw [sizeLine_eq]
  exact (by decide : 1 ≤ 16777216)
theorem kept_but {K : Frag} {h h' : Heap} {x : Addr} (X : K.In h) (hx : K.lookup x = none) (k : ∀ b o, b ≠ x → h.get? b = some o → h'.get? b = some o) : K.In h' := fun a o e =>
  k a o (fun z => by rw [z, hx] at e; cases e) (X a o e)
theorem ldC {M : Model} {s : Shared} {name : Str} {scope : Scope} {L a : Addr} {cd : Value} {m : Str → Option Value} {x : Str} {pos : Pos} {v : Value} {Q : Value → Shared → Prop} {A : Around} {E : Value → Shared → Prop} (hn : s.heap.Ns L m) (hv : m x = some v) (h : Q v s)
    (hk : scope.kind = .function := by rfl) (hl : (envOfC name scope L a cd).kindOf x = some .local := by rfl) (hd : (x == ("__debug__" : Str)) = false := by decide) :
    wpAny M A (eval (.Name x pos) (envOfC name scope L a cd)) Q E s := wpAny_Name (wpAny_loadName_local hk hl hn hv h) hd
/-- what __init__ leaves of a fresh exception at x -/
structure InitEnd (h h' : Heap) (x C dx t1 : Addr) (v : Value) : Prop where
  keep : ∀ b o, b ≠ x → h.get? b = some o → h'.get? b = some o
  obj : h'.get? x = some { cls := .ref C, dict := some dx, data := .fields #[.ref t1, .none, .none, .none, .bool false, .none] }
  dbig : h.objs.size ≤ dx
  dne : dx ≠ x
  ns : h'.Ns1 dx (fun y => if y = "number" then some v else none)
/-- a made Low -/
structure OwnMade (h h' : Heap) (e C d : Addr) (v : Value) : Prop where
  keep : ∀ b o, h.get? b = some o → h'.get? b = some o
  new : h.objs.size ≤ e
  obj : ∃ oe vs, h'.get? e = some oe ∧ oe.cls = .ref C ∧ oe.dict = some d ∧ oe.data = .fields vs ∧ vs[1]? = some .none
  dbig : h.objs.size ≤ d
  dne : d ≠ e
  ns : h'.Ns1 d (fun y => if y = "number" then some v else none)
section
variable {prog : Program} {w : World} {A : Around} {E : Value → Shared → Prop} {R : Result → Shared → Prop} {s : Shared} {K : Frag} {mg : Str → Option Value} {C fI : Addr}
theorem ref_init (T : RefTxt K mg C fI) {x t0 : Addr} {v : Value} (X : K.In s.heap) (hlim : s.heap.NoLimit) (hx : s.heap.get? x = some (excO C t0)) (hnx : K.lookup x = none) (hroom : A.depth < recursionLimit)
    (hq : ∀ h' tk dx, InitEnd s.heap h' x C dx t0 v → R (.ok (.ret .none)) { s with heap := h', toks := tk }) :
    codeAny (model prog w) A (.call (.ref fI) ⟨[.ref x, v], []⟩) R s := by
  obtain ⟨oc, od, doc, pm, an, cdv, ct, osl, p1, p2, q1, q2, q3, q4, ho, hcd⟩ := T.fn
  obtain ⟨nm, q, N, bs, bm, sn, sub, ab, col, dd, k0, k1, k2, k3, k5, hC, hbm⟩ := T.cls
  have hcl : clsIn K C = some { name := nm, bases := bs, mro := .ref C :: bm, ns := N, qualname := q, hasDict := true, slotNames := sn, subclasses := sub, abstract := ab, collection := col, hasDel := false } := by unfold clsIn; rw [hC] <;> rfl
  refine Att.call_fn (binds := [("self", .ref x), ("number", v)]) X hlim ho hcd hroom (BindsTo.of_eq (by first | rfl | with_unfolding_all rfl)) (by first | rfl | decide | with_unfolding_all rfl) (fun s₁ IC => ?_) rfl rfl rfl
  obtain ⟨h₁, tk₁, rfl⟩ := IC.toInCall.same
  have k : ∀ b o, s.heap.get? b = some o → h₁.get? b = some o := IC.toInCall.keep
  have hn := IC.toInCall.ns
  have hxL : s.heap.objs.size ≠ x := Nat.ne_of_gt (Heap.lt_size hx)
  have X₁ : K.In h₁ := X.keeps k
  have hx₁ := k _ _ hx
  -- self.by = by
  show wpAny _ _ (execs _ _) _ _ _
  refine wpAny_execs_cons (plainObj_wpAny_Assign_Attribute ?_)
  refine ldC (v := v) hn (by first | rfl | with_unfolding_all rfl | kernel_rfl) (ldC (v := .ref x) hn (by first | rfl | with_unfolding_all rfl | kernel_rfl) ?_)
  refine set_plain X₁ (ox := excO C t0) (od := none) ⟨hx₁, rfl, rfl, trivial⟩ T.sa ?_
  refine exc_osa X₁ hx₁ hcl (show refsVE (.ref C :: bm) = true from hbm) rfl T.noN (fun h₃ tk₃ dx k₃ dn dne hx₃ hn₃ => ?_)
  show wpAny _ _ (execs _ _) _ _ _
  have z : s.heap.objs.size < h₁.objs.size := hn.lt
  exact wpAny_execs_nil (hq h₃ tk₃ dx ⟨fun b o hb e => k₃ b o hb (k b o e), hx₃, Nat.le_of_lt (Nat.lt_of_lt_of_le z dn), dne, hn₃⟩)
theorem ref_made (T : RefTxt K mg C fI) {v : Value} (X : K.In s.heap) (hlim : s.heap.NoLimit) (hroom : A.depth + 1 < recursionLimit)
    (hq : ∀ h' tk e d, OwnMade s.heap h' e C d v → R (.ok (.ret (.ref e))) { s with heap := h', toks := tk }) :
    codeAny (model prog w) A (.call (.ref C) ⟨[v], []⟩) R s := by
  obtain ⟨nm, q, N, bs, bm, sn, sub, ab, col, dd, k0, k1, k2, k3, k5, hC, hbm⟩ := T.cls
  obtain ⟨hp, g, dr, tk, os⟩ := s
  have k : ∀ b o, hp.get? b = some o → ((hp.push (kdv_tup [v])).push (excO C hp.objs.size)).get? b = some o := fun b o e => Heap.get?_push_of_some _ (Heap.get?_push_of_some _ e)
  have hget : ((hp.push (kdv_tup [v])).push (excO C hp.objs.size)).get? (hp.objs.size + 1) = some (excO C hp.objs.size) := by heap_get
  have hnx : K.lookup (hp.objs.size + 1) = none := by
    cases e : K.lookup (hp.objs.size + 1) with
    | none => rfl
    | some o =>
      have z : hp.get? (hp.objs.size + 1) = some o := X _ _ e
      exact absurd (Nat.lt_of_succ_lt (Heap.lt_size z)) (Nat.lt_irrefl _)
  refine call_own F.excBase_ValueError (fun X => refsVE_contains X bm hbm) (X _ _ hC) (looks_findIn X T.iC) (fun self => bind_fn X self T.tC) (one_size v) ?_
  refine ref_init (s := ⟨(hp.push (kdv_tup [v])).push (excO C hp.objs.size), g, dr, tk, os⟩) T (X.keeps k) (hlim.keeps k) hget hnx ?_ fun h' tk' dx ⟨k', hx, dn, dne, hns⟩ => ?_
  · show A.depth + 1 < recursionLimit
    exact hroom
  · have old : ∀ b o, hp.get? b = some o → h'.get? b = some o := fun b o e => k' b o (Nat.ne_of_lt (Nat.lt_succ_of_lt (Heap.lt_size e))) (k b o e)
    have z : hp.objs.size + 1 + 1 ≤ dx := by
      first
        | (simpa only [Heap.size_push] using dn)
        | exact dn
        | (have q := dn; rw [Heap.size_push, Heap.size_push] at q; exact q)
    exact ⟨rfl, hq h' tk' (hp.objs.size + 1) dx ⟨old, Nat.le_succ _, ⟨_, _, hx, rfl, rfl, rfl, rfl⟩, Nat.le_trans (Nat.le_trans (Nat.le_succ _) (Nat.le_succ _)) z, dne, hns⟩⟩
end
end RefX
end PySem
namespace L2
open PySem PySem.Spec PyProof.Rows
theorem relO_ref {v : V} {v' : Value} (r : RelV v v') (f : Str) : RelO (List.lookup f [(("number" : Str), v)]) (if f = "number" then some v' else none) := by
  by_cases hw : f = "number"
  · subst hw
    rw [if_pos rfl]
    have q : List.lookup ("number" : Str) [(("number" : Str), v)] = some v := by simp [List.lookup]
    rw [q]
    exact r
  · rw [if_neg hw]
    have qw : (f == ("number" : Str)) = false := by simpa using hw
    have q2 : List.lookup f [(("number" : Str), v)] = none := by simp [List.lookup, qw]
    rw [q2]
    trivial
section
variable {X : Cx} {C fI : Addr}
/-- Low(e) -/
def tMkRef (C : Addr) (ta : TA) : St → Hp → XK → Prop := fun σ H Q => ta σ H fun vs H1 => ∃ v, vs = [v] ∧ ∀ d, H1 d = none → Q (.ref C) (some d) (upd H1 d (.xd [(("number" : Str), v)]))
theorem pmk_ref {a : Expr} {ta : TA} {p pos : Pos} {k : Nat} (T : PySem.RefX.RefTxt X.K X.mg C fI) (hr : Room k X.A) (ha : PA X [a] ta) (hg : Gl X "Refused" := by rfl)
    (he : starEach (a :: []) X.env = (false, eval a X.env) :: starEach [] X.env := by rfl) (hpl : (backTo pos (starEach [] X.env)).any (·.1) = false := by rfl) :
    PMk X (.Call (.Name "Refused" p) [a] [] pos) (tMkRef C ta) := by
  intro pins s σ H Q I h
  refine wpAny_Call_Name_kw (ld_glob I hg T.gC ?_)
  refine PySem.W.callWith_K (h₀ := X.base) I.ok.mod.kin T.kC (thn (ha.run pos pins s σ H _ I h) fun us s1 hh => ?_) he hpl
  obtain ⟨vs, H1, I1, r1, v, ev, q1⟩ := hh
  subst ev
  refine ⟨I1.kIn, ?_⟩
  cases r1 with
  | cons rv rn =>
    rename_i v' us'
    cases rn
    show wpAny _ _ (call (.ref C) [v']) _ _ _
    have hlim := I1.nolimit
    obtain ⟨hp, g, dr, tk, os⟩ := s1
    refine wpAny_call (PySem.RefX.ref_made T I1.kIn hlim (by have := hr.dp; omega) fun h' tk' e d M => ?_)
    show MkP X pins σ Q (.ref e) ⟨h', g, dr, tk', os⟩
    obtain ⟨oe, fv, hoe, hc, hd, hdat, h1⟩ := M.obj
    have hns := M.ns
    obtain ⟨G', g1, g2⟩ := restrict h' fun b => decide (b ≠ e)
    have gk : ∀ b, b ≠ e → G'.get? b = h'.get? b := fun b hb => g1 b (decide_eq_true hb)
    have ge : G'.get? e = none := g2 e (by simp)
    have old : ∀ b o, hp.get? b = some o → G'.get? b = some o := fun b o q => (gk b (Nat.ne_of_lt (Nat.lt_of_lt_of_le (Heap.lt_size q) M.new))).trans (M.keep b o q)
    have ob : ObjOk X.prog X.w (upd H1 d (.xd [(("number" : Str), v)])) G' d (.xd [(("number" : Str), v)]) :=
      ⟨_, hns.at (fun o q => (gk d M.dne).trans q), fun f => relO_ref rv f⟩
    have J : Inv X pins σ (upd H1 d (.xd [(("number" : Str), v)])) ⟨G', g, dr, tk', os⟩ := I1.laid (t' := tk') old M.dbig ob
    refine ⟨e, oe, fv, ⟨G', g, dr, tk', os⟩, _, .ref C, some d, rfl, J, fun b o q => ?_, ge, hoe, ⟨hc, hd⟩, hdat, h1, ?_, rfl, I1.bare, raises_own T.exC T.tyC, q1 d (I1.hok.fresh M.dbig)⟩
    · by_cases hb : b = e
      · have q' : G'.get? b = some o := q
        rw [hb, ge] at q'; cases q'
      · exact (gk b hb).symm.trans q
    · rw [upd_ne (Ne.symm M.dne)]
      exact I1.hok.fresh M.new
/-- raise Low(e) -/
def tRaiseRef (C : Addr) (W : WX) (ta : TA) : TS := fun _ σ H => tMkRef C ta σ H fun cls d H' => W cls d σ H'
theorem ps_raiseRef {a : Expr} {ta : TA} {W : WX} {p pos pos2 : Pos} {k : Nat} (hc : X.calm = true) (T : PySem.RefX.RefTxt X.K X.mg C fI) (hr : Room k X.A) (tk : Takes X W) (ha : PA X [a] ta) (hg : Gl X "Refused" := by rfl)
    (he : starEach (a :: []) X.env = (false, eval a X.env) :: starEach [] X.env := by rfl) (hpl : (backTo pos (starEach [] X.env)).any (·.1) = false := by rfl) :
    PS X (.Raise (some (.Call (.Name "Refused" p) [a] [] pos)) none pos2) (tRaiseRef C W ta) := ps_raise hc tk (pmk_ref T hr ha hg he hpl)
/-- low.by, low the exception that the suite holds (at a; its class cls, its dict d) -/
def tNumRef (C : Addr) (a : Addr) (cls : Value) (d : Option Addr) (te : TE) : TE := fun σ H Q => te σ H fun x H1 => x = .ref a ∧ cls = .ref C ∧ ∃ (dd : Addr) (v : V), d = some dd ∧ H1 dd = some (.xd [(("number" : Str), v)]) ∧ Q v H1
theorem pe_numRef {a : Addr} {oe : Obj} {cls : Value} {d : Option Addr} {pn : List (Addr × Obj)} {e : Expr} {te : TE} {pos : Pos} (T : PySem.RefX.RefTxt X.K X.mg C fI) (hz : Zc cls d oe) (hf : ∃ vs, oe.data = .fields vs) (he : PE (X.suite a ((a, oe) :: pn)) e te)
    (hb : attributeBase e "number" X.env (eval e X.env) = eval e X.env := by rfl) :
    PE (X.suite a ((a, oe) :: pn)) (.Attribute e "number" pos) (tNumRef C a cls d te) := by
  refine ⟨fun pins s σ H Q I h => ?_⟩
  refine attr_of hb (thn (he.run pins s σ H _ I h) fun u s1 hh => ?_)
  obtain ⟨x, H1, I1, rx, ex, ec, dd, v, ed, ea, q⟩ := hh
  subst ex
  obtain rfl : u = Value.ref a := rx
  subst ec
  subst ed
  obtain ⟨ha, _⟩ := I1.pin (a, oe) (List.mem_append_left _ List.mem_cons_self)
  obtain ⟨vs, hd⟩ := hf
  have hx : ObjOk X.prog X.w H1 s1.heap dd (.xd [(("number" : Str), v)]) := I1.hok dd _ ea
  obtain ⟨mA, hns, hr⟩ := hx
  obtain ⟨od, ho, hl⟩ := lookIn_ns hns
  have l : List.lookup ("number" : Str) [(("number" : Str), v)] = some v := by simp [List.lookup]
  obtain ⟨u, hu, ru⟩ := RelO.some_of (v := v) (o := mA "number") (by rw [← l]; exact hr "number")
  have J : PySem.W.InstAt s1.heap a oe C (some od) := ⟨ha, hz.1, by unfold PySem.W.notCls; rw [hd] <;> rfl, by rw [hz.2]; exact ho⟩
  exact HandSPX.exc_get I1.kIn J T.ga T.gg T.exC (PySem.W.findObj_own T.hdC T.noN rfl (by rw [hl, hu])) (handed_of ru) ⟨v, H1, I1.tok _, ru, q⟩
end
end L2

namespace L2
open PySem PySem.Spec PyProof.Rows
/-- an if whose test is known -/
theorem if_true_of {c : Bool} {A B : Prop} (hc : c = true) (h : A) : if c = true then A else B := by
  rw [if_pos hc]
  exact h
theorem if_false_of {c : Bool} {A B : Prop} (hc : c = false) (h : B) : if c = true then A else B := by
  rw [hc, if_neg Bool.false_ne_true]
  exact h
end L2
/-! # The plain law: no program in sight -/
namespace Brk
open Kza5 (Set_ Loop)
theorem part_cast (x t : Nat) : Int.fdiv ((x : Int) * (t : Int)) 1000 = ((x * t / 1000 : Nat) : Int) := by
  rw [Int.fdiv_eq_ediv_of_nonneg _ (by decide : (0 : Int) ≤ 1000), ← Int.natCast_mul]
  rfl
theorem part_le {x t : Nat} (h : t ≤ 1000) : x * t / 1000 ≤ x := by
  have e : x * t ≤ x * 1000 := Nat.mul_le_mul_left x h
  omega
theorem paper_le {p : Set_} (h : p.keep ≤ 1000) (s : Loop) (a : Nat) : Kza5.paper p s a ≤ Kza5.all s a := part_le h
theorem lost_le {p : Set_} (h : p.lose ≤ 1000) (s : Loop) (a : Nat) : Kza5.lost p s a ≤ Kza5.all s a - Kza5.paper p s a := part_le h
theorem broke_le {p : Set_} (h : p.broke ≤ 1000) (s : Loop) (a : Nat) : (Kza5.next p s a).broke ≤ Kza5.paper p s a := part_le h
/-- the set is good -/
structure Ok (p : Set_) : Prop where
  k : p.keep ≤ 1000
  l : p.lose ≤ 1000
  b : p.broke ≤ 1000
theorem ok_iff {p : Set_} : Kza5.okSet p = true ↔ Ok p := by
  unfold Kza5.okSet
  rw [Bool.and_eq_true, Bool.and_eq_true, decide_eq_true_iff, decide_eq_true_iff, decide_eq_true_iff]
  exact ⟨fun h => ⟨h.1.1, h.1.2, h.2⟩, fun h => ⟨⟨h.k, h.l⟩, h.b⟩⟩
/-! ## what a tick reckons, in Python's words -/
def iAll (w r a : Int) : Int := a + w + r
def iPart (x t : Int) : Int := Int.fdiv (x * t) 1000
section
variable {p : Set_} (o : Ok p) (s : Loop) (a : Nat)
theorem all_int : iAll (s.water : Int) (s.broke : Int) (a : Int) = ((Kza5.all s a : Nat) : Int) := by
  unfold iAll Kza5.all
  omega
theorem paper_int : iPart ((Kza5.all s a : Nat) : Int) (p.keep : Int) = ((Kza5.paper p s a : Nat) : Int) := part_cast _ _
include o in
theorem left_int : ((Kza5.all s a : Nat) : Int) - ((Kza5.paper p s a : Nat) : Int) = ((Kza5.all s a - Kza5.paper p s a : Nat) : Int) := by
  have := paper_le o.k s a
  omega
theorem lost_int : iPart ((Kza5.all s a - Kza5.paper p s a : Nat) : Int) (p.lose : Int) = ((Kza5.lost p s a : Nat) : Int) := part_cast _ _
theorem broke_int : iPart ((Kza5.paper p s a : Nat) : Int) (p.broke : Int) = (((Kza5.next p s a).broke : Nat) : Int) := part_cast _ _
include o in
theorem sold_int : ((Kza5.paper p s a : Nat) : Int) - (((Kza5.next p s a).broke : Nat) : Int) = ((Kza5.sold p s a : Nat) : Int) := by
  have := broke_le o.b s a
  unfold Kza5.sold
  omega
include o in
theorem water_int : ((Kza5.all s a - Kza5.paper p s a : Nat) : Int) - ((Kza5.lost p s a : Nat) : Int) = (((Kza5.next p s a).water : Nat) : Int) := by
  have := lost_le o.l s a
  show _ = ((Kza5.all s a - Kza5.paper p s a - Kza5.lost p s a : Nat) : Int)
  omega
end
/-! ## run, from the other end -/
theorem run_more (p : Set_) (a : Nat) : ∀ (n : Nat) (s : Loop), Kza5.run p a (n + 1) s =
    ((Kza5.run p a n s).1 + Kza5.sold p (Kza5.run p a n s).2.2 a, (Kza5.run p a n s).2.1 + Kza5.lost p (Kza5.run p a n s).2.2 a, Kza5.next p (Kza5.run p a n s).2.2 a)
  | 0, s => by simp [Kza5.run]
  | n + 1, s => by
    have ih := run_more p a n (Kza5.next p s a)
    have e : ∀ m, Kza5.run p a (m + 1) s = (Kza5.sold p s a + (Kza5.run p a m (Kza5.next p s a)).1, Kza5.lost p s a + (Kza5.run p a m (Kza5.next p s a)).2.1, (Kza5.run p a m (Kza5.next p s a)).2.2) := fun _ => rfl
    rw [e (n + 1), e n, ih]
    simp only [Nat.add_assoc]
/-! ## steady, turn by turn -/
/-- behind n ticks the loop is s, and it was never steady ahead of them -/
structure Seek (p : Set_) (a n : Nat) (s : Loop) : Prop where
  lt : n ≤ 1000
  eq : Kza5.steady p a = Kza5.steadyOn p a (1000 - n) n s
theorem seek_start (p : Set_) (a : Nat) : Seek p a 0 ⟨0, 0⟩ := ⟨by omega, rfl⟩
theorem seek_turn {p : Set_} {a n : Nat} {s : Loop} (h : Seek p a n s) (hn : n < 1000) (hs : Kza5.next p s a ≠ s) : Seek p a (n + 1) (Kza5.next p s a) := by
  refine ⟨by omega, h.eq.trans ?_⟩
  obtain ⟨f, hf⟩ : ∃ f, 1000 - n = f + 1 := ⟨999 - n, by omega⟩
  have hf' : 1000 - (n + 1) = f := by omega
  rw [hf, hf', Kza5.steadyOn, if_neg hs]
theorem seek_found {p : Set_} {a n : Nat} {s : Loop} (h : Seek p a n s) (hn : n < 1000) (hs : Kza5.next p s a = s) : Kza5.steady p a = some (n, s) := by
  refine h.eq.trans ?_
  obtain ⟨f, hf⟩ : ∃ f, 1000 - n = f + 1 := ⟨999 - n, by omega⟩
  rw [hf, Kza5.steadyOn, if_pos hs]
theorem seek_never {p : Set_} {a n : Nat} {s : Loop} (h : Seek p a n s) (hn : ¬ n < 1000) : Kza5.steady p a = none := by
  refine h.eq.trans ?_
  have hf : 1000 - n = 0 := by omega
  rw [hf, Kza5.steadyOn]
/-- what is_same asks -/
theorem same_iff {p : Set_} {s : Loop} {a : Nat} : Kza5.next p s a = s ↔ (((Kza5.next p s a).water : Nat) : Int) = (s.water : Int) ∧ (((Kza5.next p s a).broke : Nat) : Int) = (s.broke : Int) := by
  constructor
  · intro h
    rw [h]
    exact ⟨rfl, rfl⟩
  · intro ⟨h1, h2⟩
    have e1 := Int.ofNat.inj h1
    have e2 := Int.ofNat.inj h2
    cases s with
    | mk w b =>
      generalize Kza5.next p ⟨w, b⟩ a = t at e1 e2
      cases t with
      | mk w' b' => simp only at e1 e2; rw [e1, e2]
/-! ## What is due, over whole numbers -/
theorem good_iff {k l b w r a : Nat} : Kza5.good k l b w r a = true ↔ k ≤ 1000 ∧ l ≤ 1000 ∧ b ≤ 1000 ∧ w ≤ 1000000 ∧ r ≤ 1000000 ∧ a ≤ 100000 := by
  unfold Kza5.good Kza5.okSet Kza5.okLoop Kza5.most
  simp only [Bool.and_eq_true, decide_eq_true_iff, and_assoc]
theorem good_not {k l b w r a : Nat} (h : ¬ (k ≤ 1000 ∧ l ≤ 1000 ∧ b ≤ 1000 ∧ w ≤ 1000000 ∧ r ≤ 1000000 ∧ a ≤ 100000)) : Kza5.good k l b w r a = false := by
  cases e : Kza5.good k l b w r a with
  | false => rfl
  | true => exact absurd (good_iff.mp e) h
theorem tick_def (k l b w r a : Int) : PyKza5.tick k l b w r a = (Kza5.answer (.tick k.toNat l.toNat b.toNat w.toNat r.toNat a.toNat)).value :: Kza5Neutral.ints (Kza5.answer (.tick k.toNat l.toNat b.toNat w.toNat r.toNat a.toNat)).nums := rfl
theorem run_def (k l b w r a n : Int) : PyKza5.run k l b w r a n = (Kza5.answer (.run k.toNat l.toNat b.toNat w.toNat r.toNat a.toNat n.toNat)).value :: Kza5Neutral.ints (Kza5.answer (.run k.toNat l.toNat b.toNat w.toNat r.toNat a.toNat n.toNat)).nums := rfl
theorem steady_def (k l b a : Int) : PyKza5.steady k l b a = (Kza5.answer (.steady k.toNat l.toNat b.toNat a.toNat)).value :: Kza5Neutral.ints (Kza5.answer (.steady k.toNat l.toNat b.toNat a.toNat)).nums := rfl
theorem tick_no {k l b w r a : Int} (h : 1000 < k ∨ 1000 < l ∨ 1000 < b ∨ 1000000 < w ∨ 1000000 < r ∨ 100000 < a) : PyKza5.tick k l b w r a = [-22] := by
  rw [tick_def]
  unfold Kza5.answer
  simp only []
  rw [if_pos (good_not (by omega))]
  rfl
theorem tick_yes {k l b w r a : Nat} (h : k ≤ 1000 ∧ l ≤ 1000 ∧ b ≤ 1000 ∧ w ≤ 1000000 ∧ r ≤ 1000000 ∧ a ≤ 100000) :
    PyKza5.tick k l b w r a = [((Kza5.sold ⟨k, l, b⟩ ⟨w, r⟩ a : Nat) : Int), ((Kza5.lost ⟨k, l, b⟩ ⟨w, r⟩ a : Nat) : Int), (((Kza5.next ⟨k, l, b⟩ ⟨w, r⟩ a).water : Nat) : Int), (((Kza5.next ⟨k, l, b⟩ ⟨w, r⟩ a).broke : Nat) : Int)] := by
  rw [tick_def]
  unfold Kza5.answer
  simp only [Int.toNat_natCast]
  rw [if_neg (by rw [good_iff.mpr h]; exact Bool.noConfusion)]
  rfl
theorem run_no {k l b w r a n : Int} (h : 1000 < k ∨ 1000 < l ∨ 1000 < b ∨ 1000000 < w ∨ 1000000 < r ∨ 100000 < a ∨ 1000 < n) : PyKza5.run k l b w r a n = [-22] := by
  rw [run_def]
  unfold Kza5.answer
  simp only []
  have c : Kza5.good k.toNat l.toNat b.toNat w.toNat r.toNat a.toNat = false ∨ Kza5.ticks < n.toNat := by
    by_cases hn : 1000 < n
    · right
      show 1000 < n.toNat
      omega
    · left
      exact good_not (by omega)
  rw [if_pos c]
  rfl
theorem run_yes {k l b w r a n : Nat} (h : k ≤ 1000 ∧ l ≤ 1000 ∧ b ≤ 1000 ∧ w ≤ 1000000 ∧ r ≤ 1000000 ∧ a ≤ 100000) (hn : n ≤ 1000) :
    PyKza5.run k l b w r a n = [(((Kza5.run ⟨k, l, b⟩ a n ⟨w, r⟩).1 : Nat) : Int), (((Kza5.run ⟨k, l, b⟩ a n ⟨w, r⟩).2.1 : Nat) : Int), (((Kza5.run ⟨k, l, b⟩ a n ⟨w, r⟩).2.2.water : Nat) : Int), (((Kza5.run ⟨k, l, b⟩ a n ⟨w, r⟩).2.2.broke : Nat) : Int)] := by
  rw [run_def]
  unfold Kza5.answer
  simp only [Int.toNat_natCast]
  rw [if_neg (by
    rintro (c | c)
    · rw [good_iff.mpr h] at c
      exact Bool.noConfusion c
    · have c' : 1000 < n := c
      omega)]
  rfl
theorem steady_no {k l b a : Int} (h : 1000 < k ∨ 1000 < l ∨ 1000 < b ∨ 100000 < a) : PyKza5.steady k l b a = [-22] := by
  rw [steady_def]
  unfold Kza5.answer
  simp only []
  rw [if_pos (good_not (by omega))]
  rfl
theorem steady_never {k l b a : Nat} (h : k ≤ 1000 ∧ l ≤ 1000 ∧ b ≤ 1000 ∧ a ≤ 100000) (e : Kza5.steady ⟨k, l, b⟩ a = none) : PyKza5.steady k l b a = [-33] := by
  rw [steady_def]
  unfold Kza5.answer
  simp only [Int.toNat_natCast]
  rw [if_neg (by rw [good_iff.mpr ⟨h.1, h.2.1, h.2.2.1, Nat.zero_le _, Nat.zero_le _, h.2.2.2⟩]; exact Bool.noConfusion), e]
  rfl
theorem steady_found {k l b a n : Nat} {s : Loop} (h : k ≤ 1000 ∧ l ≤ 1000 ∧ b ≤ 1000 ∧ a ≤ 100000) (e : Kza5.steady ⟨k, l, b⟩ a = some (n, s)) :
    PyKza5.steady k l b a = [(n : Int), (s.water : Int), (s.broke : Int), ((Kza5.sold ⟨k, l, b⟩ s a : Nat) : Int), ((Kza5.lost ⟨k, l, b⟩ s a : Nat) : Int)] := by
  rw [steady_def]
  unfold Kza5.answer
  simp only [Int.toNat_natCast]
  rw [if_neg (by rw [good_iff.mpr ⟨h.1, h.2.1, h.2.2.1, Nat.zero_le _, Nat.zero_le _, h.2.2.2⟩]; exact Bool.noConfusion), e]
  rfl
end Brk
namespace Bl
open PySem PySem.Spec PyProof.Rows L2
open PySem.W (Codec)
open Brk (Ok)
/-! ## The text by places -/
def top (i : Nat) : Stmt := PySem.Challenge.pw_brokeloop_s02_run.main.body.getD i (.Pass ⟨0, 0, 0, 0⟩)
abbrev sMillInit : Stmt := inClass (top 15) 0
abbrev sMust : Stmt := top 7
abbrev sUp : Stmt := top 8
abbrev sSet : Stmt := top 9
abbrev sLoop : Stmt := top 10
abbrev sFed : Stmt := top 11
abbrev sTicks : Stmt := top 12
abbrev sPart : Stmt := top 16
abbrev sPaper : Stmt := top 17
abbrev sLost : Stmt := top 18
abbrev sTorn : Stmt := top 19
abbrev sTicked : Stmt := top 20
abbrev sRunOn : Stmt := top 22
abbrev sRun : Stmt := top 24
theorem scMillInit : FnScope ["self", "keep", "lose", "broke"] ["self", "keep", "lose", "broke"] (defScope sMillInit) := ⟨rfl, rfl, rfl, by decide +kernel, rfl, by decide +kernel, by decide +kernel⟩
theorem scMust : FnScope ["so", "number"] ["so", "number"] (defScope sMust) := ⟨rfl, rfl, rfl, by decide +kernel, rfl, by decide +kernel, by decide +kernel⟩
theorem scUp : FnScope ["number", "most"] ["number", "most"] (defScope sUp) := ⟨rfl, rfl, rfl, by decide +kernel, rfl, by decide +kernel, by decide +kernel⟩
theorem scSet : FnScope ["keep", "lose", "broke"] ["keep", "lose", "broke"] (defScope sSet) := ⟨rfl, rfl, rfl, by decide +kernel, rfl, by decide +kernel, by decide +kernel⟩
theorem scLoop : FnScope ["water", "torn"] ["water", "torn"] (defScope sLoop) := ⟨rfl, rfl, rfl, by decide +kernel, rfl, by decide +kernel, by decide +kernel⟩
theorem scFed : FnScope ["fed"] ["fed"] (defScope sFed) := ⟨rfl, rfl, rfl, by decide +kernel, rfl, by decide +kernel, by decide +kernel⟩
theorem scTicks : FnScope ["many"] ["many"] (defScope sTicks) := ⟨rfl, rfl, rfl, by decide +kernel, rfl, by decide +kernel, by decide +kernel⟩
theorem scPart : FnScope ["much", "thousandths"] ["much", "thousandths"] (defScope sPart) := ⟨rfl, rfl, rfl, by decide +kernel, rfl, by decide +kernel, by decide +kernel⟩
theorem scPaper : FnScope ["mill", "together"] ["mill", "together"] (defScope sPaper) := ⟨rfl, rfl, rfl, by decide +kernel, rfl, by decide +kernel, by decide +kernel⟩
theorem scLost : FnScope ["mill", "left"] ["mill", "left"] (defScope sLost) := ⟨rfl, rfl, rfl, by decide +kernel, rfl, by decide +kernel, by decide +kernel⟩
theorem scTorn : FnScope ["mill", "paper"] ["mill", "paper"] (defScope sTorn) := ⟨rfl, rfl, rfl, by decide +kernel, rfl, by decide +kernel, by decide +kernel⟩
theorem scTicked : FnScope ["mill", "water", "torn", "fed", "together", "paper", "left", "lost", "broke"] ["mill", "water", "torn", "fed"] (defScope sTicked) := ⟨rfl, rfl, rfl, by decide +kernel, rfl, by decide +kernel, by decide +kernel⟩
theorem scRunOn : FnScope ["mill", "water", "torn", "fed", "many", "sold", "lost", "turn", "own", "away"] ["mill", "water", "torn", "fed", "many"] (defScope sRunOn) := ⟨rfl, rfl, rfl, by decide +kernel, rfl, by decide +kernel, by decide +kernel⟩
theorem scRun : FnScope ["keep", "lose", "broke", "w", "r", "a", "n", "refusal"] ["keep", "lose", "broke", "w", "r", "a", "n"] (defScope sRun) := ⟨rfl, rfl, rfl, by decide +kernel, rfl, by decide +kernel, by decide +kernel⟩
/-! ## What the top has written -/
/-- C: the error's class, fI: its __init__; M: the mill's class, fM: its __init__ -/
structure Txt (K : PySem.W.Frag) (mg : Str → Option Value) (C fI M fM : Addr) : Prop where
  ref : PySem.RefX.RefTxt K mg C fI
  cl : Cls K M
  nK : NoAttr K M "keep"
  nL : NoAttr K M "lose"
  nB : NoAttr K M "broke"
  gM : mg "Mill" = some (.ref M)
  mak : Mk K M fM
  gList : mg "list" = none
  gRange : mg "range" = none
  c_MOST_THOUSANDTHS : ∃ t : Tok, mg "MOST_THOUSANDTHS" = some (.int (1000) t)
  c_MOST_FIBRE : ∃ t : Tok, mg "MOST_FIBRE" = some (.int (1000000) t)
  c_MOST_FED : ∃ t : Tok, mg "MOST_FED" = some (.int (100000) t)
  c_MOST_TICKS : ∃ t : Tok, mg "MOST_TICKS" = some (.int (1000) t)
  c_OUT_OF_RANGE : ∃ t : Tok, mg "OUT_OF_RANGE" = some (.int (-22) t)
  c_THOUSAND : ∃ t : Tok, mg "THOUSAND" = some (.int (1000) t)
/-! ## Words -/
/-- a def as it's called -/
structure Use (P : Program) (w : World) (K : PySem.W.Frag) (mg : Str → Option Value) (base : Heap) (CX : CXT) (k : Nat) (x : Str) (ps : List Str) (sp : Sp) (f : Addr) (fd : FuncData) : Prop where
  F : FnOk P w K mg base CX k f fd ps sp
  g : mg x = some (.ref f)
  kp : PySem.W.keepIn K (.ref f) = true
  b : Binds K fd ps []
/-- a constant of the top -/
theorem pe_gi {X : Cx} {x : Str} {pos : Pos} {z : Int} {t : Tok} (hg : Gl X x) (hm : X.mg x = some (.int z t)) (hd : (x == ("__debug__" : Str)) = false := by decide) : PE X (.Name x pos) (tC (.int z)) := pe_glob (v := .int z) hg hm ⟨_, rfl⟩ hd
theorem lk_here {k : Str} {v : V} {r : List (Str × V)} : List.lookup k ((k, v) :: r) = some v := by
  have e : (k == k) = true := beq_self_eq_true k
  simp only [List.lookup, e]
theorem lk_past {k g : Str} {v : V} {r : List (Str × V)} (h : (k == g) = false) : List.lookup k ((g, v) :: r) = List.lookup k r := by
  simp only [List.lookup, h]
theorem put_past {f g : Str} {v x : V} {r : List (Str × V)} (h : ¬ g = f) : putF f v ((g, x) :: r) = (g, x) :: putF f v r := if_neg h
theorem four {a b c d a' b' c' d' : Int} (h1 : a = a') (h2 : b = b') (h3 : c = c') (h4 : d = d') : [V.int a, V.int b, V.int c, V.int d] = [V.int a', V.int b', V.int c', V.int d'] := by
  rw [h1, h2, h3, h4]
theorem same_new {H H' : Hp} {t : Addr} {o : HO} (s : Same H H') (ht : H' t = none) : Same H (upd H' t o) := fun b u e => by
  rw [upd_ne (ne_of_none (s b u e) ht)]
  exact s b u e
theorem up_le {n : Nat} {m : Int} (e : (decide (0 ≤ (n : Int)) && decide ((n : Int) ≤ m)) = true) : (n : Int) ≤ m := by
  rw [Bool.and_eq_true] at e
  exact of_decide_eq_true e.2
theorem up_gt {n : Nat} {m : Int} (e : (decide (0 ≤ (n : Int)) && decide ((n : Int) ≤ m)) = false) : ¬ (n : Int) ≤ m := fun c => by
  rw [decide_eq_true c, decide_eq_true (Int.natCast_nonneg n)] at e
  cases e
/-- the mill's fields -/
def mF (p : Kza5.Set_) : List (Str × V) := [("keep", .int (p.keep : Int)), ("lose", .int (p.lose : Int)), ("broke", .int (p.broke : Int))]
def MillAt (M : Addr) (H : Hp) (a : Addr) (p : Kza5.Set_) : Prop := ∃ dx, H a = some (.ins M dx (mF p))
theorem MillAt.same {M : Addr} {H H' : Hp} {a : Addr} {p : Kza5.Set_} (h : MillAt M H a p) (s : Same H H') : MillAt M H' a p := h.imp fun _ e => s _ _ e
theorem mF_keep (p : Kza5.Set_) : (mF p).lookup ("keep" : Str) = some (.int (p.keep : Int)) := lk_here
theorem mF_lose (p : Kza5.Set_) : (mF p).lookup ("lose" : Str) = some (.int (p.lose : Int)) := (lk_past (by decide +kernel)).trans lk_here
theorem mF_broke (p : Kza5.Set_) : (mF p).lookup ("broke" : Str) = some (.int (p.broke : Int)) := (lk_past (by decide +kernel)).trans ((lk_past (by decide +kernel)).trans lk_here)
theorem mF_new (k l b : Nat) : putF "broke" (.int (b : Int)) (putF "lose" (.int (l : Int)) (putF "keep" (.int (k : Int)) [])) = mF ⟨k, l, b⟩ := by
  have e1 : putF "lose" (.int (l : Int)) (putF "keep" (.int (k : Int)) []) = ([("keep", .int (k : Int)), ("lose", .int (l : Int))] : List (Str × V)) := (put_past (by decide +kernel)).trans rfl
  rw [e1]
  exact (put_past (by decide +kernel)).trans (congrArg _ ((put_past (by decide +kernel)).trans rfl))
/-! ## The promises -/
/-- the refusal: an error of the class at C; its own dict d, new, holds the number -/
def Out (C : Addr) (E : XK) (H : Hp) (z : Int) : Prop := ∀ d : Addr, H d = none → E (.ref C) (some d) (upd H d (.xd [(("number" : Str), .int z)]))
def spMust (C : Addr) : Sp := fun vs H Q E => ∃ (b : Bool) (z : Int), vs = [.bl b, .int z] ∧ (b = false → Out C E H z) ∧ (b = true → Q .non H)
def spUp : Sp := fun vs H Q _ => ∃ (n m : Int), vs = [.int n, .int m] ∧ Q (.bl (decide (0 ≤ n) && decide (n ≤ m))) H
def spSet (C : Addr) : Sp := fun vs H Q E => ∃ (k l b : Nat), vs = [.int (k : Int), .int (l : Int), .int (b : Int)] ∧ (¬ (k ≤ 1000 ∧ l ≤ 1000 ∧ b ≤ 1000) → Out C E H (-22)) ∧ (k ≤ 1000 ∧ l ≤ 1000 ∧ b ≤ 1000 → Q .non H)
def spFed (C : Addr) : Sp := fun vs H Q E => ∃ (a : Nat), vs = [.int (a : Int)] ∧ (¬ a ≤ 100000 → Out C E H (-22)) ∧ (a ≤ 100000 → Q .non H)
def spMillInit (M : Addr) : Sp := fun vs H Q _ => ∃ (x dx : Addr) (k l b : Nat), vs = [.ref x, .int (k : Int), .int (l : Int), .int (b : Int)] ∧ H x = some (.ins M dx []) ∧
  ∀ H' : Hp, MillAt M H' x ⟨k, l, b⟩ → (∀ c o, H c = some o → c ≠ x → H' c = some o) → Q .non H'
def spPart : Sp := fun vs H Q _ => ∃ (x t : Nat), vs = [.int (x : Int), .int (t : Int)] ∧ t ≤ 1000 ∧ Q (.int ((x * t / 1000 : Nat) : Int)) H
def spPaper (M : Addr) : Sp := fun vs H Q _ => ∃ (a : Addr) (p : Kza5.Set_) (x : Nat), vs = [.ref a, .int (x : Int)] ∧ MillAt M H a p ∧ Ok p ∧ Q (.int ((x * p.keep / 1000 : Nat) : Int)) H
def spLost (M : Addr) : Sp := fun vs H Q _ => ∃ (a : Addr) (p : Kza5.Set_) (x : Nat), vs = [.ref a, .int (x : Int)] ∧ MillAt M H a p ∧ Ok p ∧ Q (.int ((x * p.lose / 1000 : Nat) : Int)) H
def spTorn (M : Addr) : Sp := fun vs H Q _ => ∃ (a : Addr) (p : Kza5.Set_) (x : Nat), vs = [.ref a, .int (x : Int)] ∧ MillAt M H a p ∧ Ok p ∧ Q (.int ((x * p.broke / 1000 : Nat) : Int)) H
/-- a tick's four -/
def tk (p : Kza5.Set_) (s : Kza5.Loop) (f : Nat) : List V := [.int ((Kza5.sold p s f : Nat) : Int), .int ((Kza5.lost p s f : Nat) : Int), .int (((Kza5.next p s f).water : Nat) : Int), .int (((Kza5.next p s f).broke : Nat) : Int)]
def spTicked (M : Addr) : Sp := fun vs H Q _ => ∃ (a : Addr) (p : Kza5.Set_) (s : Kza5.Loop) (f : Nat), vs = [.ref a, .int (s.water : Int), .int (s.broke : Int), .int (f : Int)] ∧ MillAt M H a p ∧ Ok p ∧
  ∀ t, H t = none → Q (.ref t) (upd H t (.tup (tk p s f)))
section
variable {P : Program} {w : World} {K : PySem.W.Frag} {mg : Str → Option Value} {base : Heap} {C fI M fM : Addr}
/-! ## The defs, each once -/
theorem ok_Must {f : Addr} {fd : FuncData} (F : Fun K "must" "must" sMust f fd) (T : Txt K mg C fI M fM) : FnOk P w K mg base (L2.CX P w) 3 f fd ["so", "number"] (spMust C) := by
  refine F.okX scMust (fun vs H Q E h => ?_) (fun cdv A outer s H vs Q E hr h => ⟨_, pss_one (ps_if (pt_not (pt_val (pv 0))) (pss_one (ps_raiseRef rfl T.ref hr (takes_of rfl rfl rfl rfl) (by exact (pa_cons (pv 1) pa_nil)))) pss_nil), ?_⟩)
  · obtain ⟨b, z, rfl, _⟩ := h
    rfl
  · obtain ⟨b, z, rfl, hF, hT⟩ := h
    refine ⟨_, rfl, b, rfl, ?_⟩
    cases b with
    | false => exact if_true_of rfl ⟨_, rfl, _, rfl, fun d hd => hF rfl d hd⟩
    | true => exact if_false_of rfl (hT rfl)
theorem ok_Up {f : Addr} {fd : FuncData} (F : Fun K "is_up_to" "is_up_to" sUp f fd) (T : Txt K mg C fI M fM) : FnOk P w K mg base CX0 1 f fd ["number", "most"] spUp := by
  refine F.ok scUp (fun vs H Q E h => ?_) (fun cdv A outer s H vs Q E hr h => ⟨_, pss_one (ps_ret (pe_and (pe_cmpR op_le pe_int (pv 0) (nomark _)) (pe_one (pe_cmpR op_le (pv 0) (pv 1) (nomark _))))), ?_⟩)
  · obtain ⟨n, m, rfl, _⟩ := h
    rfl
  · obtain ⟨n, m, rfl, k⟩ := h
    refine ⟨_, rfl, _, _, rfl, rfl, _, rfl, ?_⟩
    by_cases c : 0 ≤ n
    · refine if_true_of (decide_eq_true c) ⟨_, rfl, _, rfl, _, _, rfl, rfl, ?_⟩
      rw [decide_eq_true c, Bool.true_and] at k
      exact k
    · refine if_false_of (decide_eq_false c) ?_
      rw [decide_eq_false c, Bool.false_and] at k
      exact k
theorem ok_Set {f fA fB : Addr} {fd fdA fdB : FuncData} (F : Fun K "look_at_set" "look_at_set" sSet f fd) (T : Txt K mg C fI M fM) (UM : Use P w K mg base (L2.CX P w) 3 "must" ["so", "number"] (spMust C) fA fdA)
    (UU : Use P w K mg base CX0 1 "is_up_to" ["number", "most"] spUp fB fdB) : FnOk P w K mg base (L2.CX P w) 4 f fd ["keep", "lose", "broke"] (spSet C) := by
  obtain ⟨t1, hK⟩ := T.c_MOST_THOUSANDTHS
  obtain ⟨t2, hO⟩ := T.c_OUT_OF_RANGE
  refine F.okX scSet (fun vs H Q E h => ?_) (fun cdv A outer s H vs Q E hr h => ?_)
  · obtain ⟨k, l, b, rfl, _⟩ := h
    rfl
  · have hr1 : Room 1 _ := hr.mono (by decide)
    refine ⟨_, pss_cons (ps_expr (pe_callS UM.F hr rfl UM.g UM.kp UM.b (fun σ => passAt (takes_of rfl rfl rfl rfl) σ) (by exact (pa_cons (pe_call UU.F hr1 rfl UU.g UU.kp UU.b .nil pass0 (pa_cons (pv 0) (pa_cons (pe_gi rfl hK) pa_nil))) (pa_cons (pe_gi rfl hO) pa_nil)))))
      (pss_cons (ps_expr (pe_callS UM.F hr rfl UM.g UM.kp UM.b (fun σ => passAt (takes_of rfl rfl rfl rfl) σ) (by exact (pa_cons (pe_call UU.F hr1 rfl UU.g UU.kp UU.b .nil pass0 (pa_cons (pv 1) (pa_cons (pe_gi rfl hK) pa_nil))) (pa_cons (pe_gi rfl hO) pa_nil)))))
      (pss_one (ps_expr (pe_callS UM.F hr rfl UM.g UM.kp UM.b (fun σ => passAt (takes_of rfl rfl rfl rfl) σ) (by exact (pa_cons (pe_call UU.F hr1 rfl UU.g UU.kp UU.b .nil pass0 (pa_cons (pv 2) (pa_cons (pe_gi rfl hK) pa_nil))) (pa_cons (pe_gi rfl hO) pa_nil))))))), ?_⟩
    obtain ⟨k, l, b, rfl, hN, hY⟩ := h
    refine ⟨_, rfl, (k : Int), 1000, rfl, _, -22, rfl, fun e => hN fun c => up_gt e (by omega), fun e1 => ?_⟩
    refine ⟨_, rfl, (l : Int), 1000, rfl, _, -22, rfl, fun e => hN fun c => up_gt e (by omega), fun e2 => ?_⟩
    refine ⟨_, rfl, (b : Int), 1000, rfl, _, -22, rfl, fun e => hN fun c => up_gt e (by omega), fun e3 => ?_⟩
    exact hY ⟨by have := up_le e1; omega, by have := up_le e2; omega, by have := up_le e3; omega⟩
theorem ok_Fed {f fA fB : Addr} {fd fdA fdB : FuncData} (F : Fun K "look_at_fed" "look_at_fed" sFed f fd) (T : Txt K mg C fI M fM) (UM : Use P w K mg base (L2.CX P w) 3 "must" ["so", "number"] (spMust C) fA fdA)
    (UU : Use P w K mg base CX0 1 "is_up_to" ["number", "most"] spUp fB fdB) : FnOk P w K mg base (L2.CX P w) 4 f fd ["fed"] (spFed C) := by
  obtain ⟨t1, hK⟩ := T.c_MOST_FED
  obtain ⟨t2, hO⟩ := T.c_OUT_OF_RANGE
  refine F.okX scFed (fun vs H Q E h => ?_) (fun cdv A outer s H vs Q E hr h => ?_)
  · obtain ⟨a, rfl, _⟩ := h
    rfl
  · have hr1 : Room 1 _ := hr.mono (by decide)
    refine ⟨_, pss_one (ps_expr (pe_callS UM.F hr rfl UM.g UM.kp UM.b (fun σ => passAt (takes_of rfl rfl rfl rfl) σ) (by exact (pa_cons (pe_call UU.F hr1 rfl UU.g UU.kp UU.b .nil pass0 (pa_cons (pv 0) (pa_cons (pe_gi rfl hK) pa_nil))) (pa_cons (pe_gi rfl hO) pa_nil))))), ?_⟩
    obtain ⟨a, rfl, hN, hY⟩ := h
    exact ⟨_, rfl, (a : Int), 100000, rfl, _, -22, rfl, fun e => hN fun c => up_gt e (by omega), fun e1 => hY (by have := up_le e1; omega)⟩
theorem ok_MillInit {f : Addr} {fd : FuncData} (F : Fun K "__init__" "Mill.__init__" sMillInit f fd) (T : Txt K mg C fI M fM) : FnOk P w K mg base CX0 1 f fd ["self", "keep", "lose", "broke"] (spMillInit M) := by
  refine F.ok scMillInit (fun vs H Q E h => ?_) (fun cdv A outer s H vs Q E hr h => ⟨_, pss_cons (ps_fld (pv 0) (pv 1) rfl) (pss_cons (ps_fld (pv 0) (pv 2) rfl) (pss_one (ps_fld (pv 0) (pv 3) rfl))), ?_⟩)
  · obtain ⟨x, dx, k, l, b, rfl, _⟩ := h
    rfl
  · obtain ⟨x, dx, k, l, b, rfl, hx, q⟩ := h
    refine ⟨_, rfl, _, rfl, x, M, dx, [], rfl, hx, T.cl, T.nK, (by show 0 < 1000; decide), ?_⟩
    refine ⟨_, rfl, _, rfl, x, M, dx, _, rfl, upd_same, T.cl, T.nL, (by show 1 < 1000; decide), ?_⟩
    refine ⟨_, rfl, _, rfl, x, M, dx, _, rfl, upd_same, T.cl, T.nB, (by show 2 < 1000; decide), ?_⟩
    exact q _ ⟨dx, Eq.trans upd_same (congrArg (fun z => some (HO.ins M dx z)) (mF_new k l b))⟩ fun c o e hc => by
      rw [upd_ne hc, upd_ne hc, upd_ne hc]
      exact e
theorem ok_Part {f : Addr} {fd : FuncData} (F : Fun K "part" "part" sPart f fd) (T : Txt K mg C fI M fM) : FnOk P w K mg base CX0 1 f fd ["much", "thousandths"] spPart := by
  obtain ⟨t1, hK⟩ := T.c_THOUSAND
  refine F.ok scPart (fun vs H Q E h => ?_) (fun cdv A outer s H vs Q E hr h => ⟨_, pss_one (ps_ret (pe_op op_fdiv (pe_op op_mul (pv 0) (pv 1)) (pe_gi rfl hK))), ?_⟩)
  · obtain ⟨x, t, rfl, _⟩ := h
    rfl
  · obtain ⟨x, t, rfl, ht, k⟩ := h
    refine ⟨_, rfl, _, rfl, _, _, rfl, rfl, .inr ⟨by omega, by omega⟩, _, _, rfl, rfl, ⟨by decide, by decide⟩, ?_⟩
    have e : (x : Int) * (t : Int) / 1000 = ((x * t / 1000 : Nat) : Int) := by
      rw [← Int.natCast_mul]
      rfl
    exact Eq.mp (congrArg (fun z => Q (.int z) H) e.symm) k
theorem ok_Paper {f fA : Addr} {fd fdA : FuncData} (F : Fun K "paper_of" "paper_of" sPaper f fd) (T : Txt K mg C fI M fM) (U : Use P w K mg base CX0 1 "part" ["much", "thousandths"] spPart fA fdA) : FnOk P w K mg base CX0 2 f fd ["mill", "together"] (spPaper M) := by
  refine F.ok scPaper (fun vs H Q E h => ?_) (fun cdv A outer s H vs Q E hr h => ⟨_, pss_one (ps_ret (pe_call U.F hr rfl U.g U.kp U.b .nil pass0 (pa_cons (pv 1) (pa_cons (pe_fld (pv 0) rfl) pa_nil)))), ?_⟩)
  · obtain ⟨a, p, x, rfl, _⟩ := h
    rfl
  · obtain ⟨a, p, x, rfl, ⟨dx, ha⟩, o, k⟩ := h
    exact ⟨_, rfl, _, rfl, a, M, dx, _, _, rfl, ha, T.cl, T.nK, mF_keep p, x, p.keep, rfl, o.k, k⟩
theorem ok_Lost {f fA : Addr} {fd fdA : FuncData} (F : Fun K "lost_of" "lost_of" sLost f fd) (T : Txt K mg C fI M fM) (U : Use P w K mg base CX0 1 "part" ["much", "thousandths"] spPart fA fdA) : FnOk P w K mg base CX0 2 f fd ["mill", "left"] (spLost M) := by
  refine F.ok scLost (fun vs H Q E h => ?_) (fun cdv A outer s H vs Q E hr h => ⟨_, pss_one (ps_ret (pe_call U.F hr rfl U.g U.kp U.b .nil pass0 (pa_cons (pv 1) (pa_cons (pe_fld (pv 0) rfl) pa_nil)))), ?_⟩)
  · obtain ⟨a, p, x, rfl, _⟩ := h
    rfl
  · obtain ⟨a, p, x, rfl, ⟨dx, ha⟩, o, k⟩ := h
    exact ⟨_, rfl, _, rfl, a, M, dx, _, _, rfl, ha, T.cl, T.nL, mF_lose p, x, p.lose, rfl, o.l, k⟩
theorem ok_Torn {f fA : Addr} {fd fdA : FuncData} (F : Fun K "torn_of" "torn_of" sTorn f fd) (T : Txt K mg C fI M fM) (U : Use P w K mg base CX0 1 "part" ["much", "thousandths"] spPart fA fdA) : FnOk P w K mg base CX0 2 f fd ["mill", "paper"] (spTorn M) := by
  refine F.ok scTorn (fun vs H Q E h => ?_) (fun cdv A outer s H vs Q E hr h => ⟨_, pss_one (ps_ret (pe_call U.F hr rfl U.g U.kp U.b .nil pass0 (pa_cons (pv 1) (pa_cons (pe_fld (pv 0) rfl) pa_nil)))), ?_⟩)
  · obtain ⟨a, p, x, rfl, _⟩ := h
    rfl
  · obtain ⟨a, p, x, rfl, ⟨dx, ha⟩, o, k⟩ := h
    exact ⟨_, rfl, _, rfl, a, M, dx, _, _, rfl, ha, T.cl, T.nB, mF_broke p, x, p.broke, rfl, o.b, k⟩
theorem ok_Ticked {f fA fB fC : Addr} {fd fdA fdB fdC : FuncData} (F : Fun K "ticked" "ticked" sTicked f fd) (T : Txt K mg C fI M fM) (UA : Use P w K mg base CX0 2 "paper_of" ["mill", "together"] (spPaper M) fA fdA)
    (UB : Use P w K mg base CX0 2 "lost_of" ["mill", "left"] (spLost M) fB fdB) (UC : Use P w K mg base CX0 2 "torn_of" ["mill", "paper"] (spTorn M) fC fdC) : FnOk P w K mg base CX0 3 f fd ["mill", "water", "torn", "fed"] (spTicked M) := by
  refine F.ok scTicked (fun vs H Q E h => ?_) (fun cdv A outer s H vs Q E hr h => ⟨_, pss_cons (ps_set (i := 4) scTicked.nd rfl (Or.inl rfl) (pe_op op_add (pe_op op_add (pv 3) (pv 1)) (pv 2)))
    (pss_cons (ps_set (i := 5) scTicked.nd rfl (Or.inl rfl) (pe_call UA.F hr rfl UA.g UA.kp UA.b .nil pass0 (pa_cons (pv 0) (pa_cons (pv 4) pa_nil))))
    (pss_cons (ps_set (i := 6) scTicked.nd rfl (Or.inl rfl) (pe_op op_sub (pv 4) (pv 5)))
    (pss_cons (ps_set (i := 7) scTicked.nd rfl (Or.inl rfl) (pe_call UB.F hr rfl UB.g UB.kp UB.b .nil pass0 (pa_cons (pv 0) (pa_cons (pv 6) pa_nil))))
    (pss_cons (ps_set (i := 8) scTicked.nd rfl (Or.inl rfl) (pe_call UC.F hr rfl UC.g UC.kp UC.b .nil pass0 (pa_cons (pv 0) (pa_cons (pv 5) pa_nil))))
    (pss_one (ps_ret (pe_tup (pa_cons (pe_op op_sub (pv 5) (pv 8)) (pa_cons (pv 7) (pa_cons (pe_op op_sub (pv 6) (pv 7)) (pa_cons (pv 8) pa_nil))))))))))), ?_⟩)
  · obtain ⟨a, p, s, f, rfl, _⟩ := h
    rfl
  · obtain ⟨a, p, s, f, rfl, hM, o, k⟩ := h
    have e1 : (f : Int) + (s.water : Int) + (s.broke : Int) = ((Kza5.all s f : Nat) : Int) := Brk.all_int s f
    have e2 : (f : Int) + (s.water : Int) + (s.broke : Int) - ((Kza5.paper p s f : Nat) : Int) = ((Kza5.all s f - Kza5.paper p s f : Nat) : Int) := by
      rw [e1]
      exact Brk.left_int o s f
    have e3 : (f : Int) + (s.water : Int) + (s.broke : Int) - ((Kza5.paper p s f : Nat) : Int) - ((Kza5.lost p s f : Nat) : Int) = (((Kza5.next p s f).water : Nat) : Int) := by
      rw [e2]
      exact Brk.water_int o s f
    refine ⟨_, rfl, _, rfl, _, _, rfl, rfl, _, rfl, _, _, rfl, rfl, ?_⟩
    refine ⟨_, rfl, _, rfl, a, p, Kza5.all s f, congrArg (fun z => [V.ref a, V.int z]) e1, hM, o, ?_⟩
    refine ⟨_, rfl, _, rfl, _, _, rfl, rfl, ?_⟩
    refine ⟨_, rfl, _, rfl, a, p, Kza5.all s f - Kza5.paper p s f, congrArg (fun z => [V.ref a, V.int z]) e2, hM, o, ?_⟩
    refine ⟨_, rfl, _, rfl, a, p, Kza5.paper p s f, rfl, hM, o, ?_⟩
    refine ⟨_, rfl, _, rfl, _, _, rfl, rfl, _, rfl, _, rfl, _, rfl, _, _, rfl, rfl, _, rfl, (by show 4 ≤ sizeLine; decide), fun t ht => ?_⟩
    refine Eq.mp (congrArg (fun xs => Q (.ref t) (upd H t (.tup xs))) ?_) (k t ht)
    exact four (Brk.sold_int o s f).symm rfl e3.symm rfl
def spLoop (C : Addr) : Sp := fun vs H Q E => ∃ (x r : Nat), vs = [.int (x : Int), .int (r : Int)] ∧ (¬ (x ≤ 1000000 ∧ r ≤ 1000000) → Out C E H (-22)) ∧ (x ≤ 1000000 ∧ r ≤ 1000000 → Q .non H)
theorem ok_Loop {f fA fB : Addr} {fd fdA fdB : FuncData} (F : Fun K "look_at_loop" "look_at_loop" sLoop f fd) (T : Txt K mg C fI M fM) (UM : Use P w K mg base (L2.CX P w) 3 "must" ["so", "number"] (spMust C) fA fdA)
    (UU : Use P w K mg base CX0 1 "is_up_to" ["number", "most"] spUp fB fdB) : FnOk P w K mg base (L2.CX P w) 4 f fd ["water", "torn"] (spLoop C) := by
  obtain ⟨t1, hK⟩ := T.c_MOST_FIBRE
  obtain ⟨t2, hO⟩ := T.c_OUT_OF_RANGE
  refine F.okX scLoop (fun vs H Q E h => ?_) (fun cdv A outer s H vs Q E hr h => ?_)
  · obtain ⟨x, r, rfl, _⟩ := h
    rfl
  · have hr1 : Room 1 _ := hr.mono (by decide)
    refine ⟨_, pss_cons (ps_expr (pe_callS UM.F hr rfl UM.g UM.kp UM.b (fun σ => passAt (takes_of rfl rfl rfl rfl) σ) (by exact (pa_cons (pe_call UU.F hr1 rfl UU.g UU.kp UU.b .nil pass0 (pa_cons (pv 0) (pa_cons (pe_gi rfl hK) pa_nil))) (pa_cons (pe_gi rfl hO) pa_nil)))))
      (pss_one (ps_expr (pe_callS UM.F hr rfl UM.g UM.kp UM.b (fun σ => passAt (takes_of rfl rfl rfl rfl) σ) (by exact (pa_cons (pe_call UU.F hr1 rfl UU.g UU.kp UU.b .nil pass0 (pa_cons (pv 1) (pa_cons (pe_gi rfl hK) pa_nil))) (pa_cons (pe_gi rfl hO) pa_nil)))))), ?_⟩
    obtain ⟨x, r, rfl, hN, hY⟩ := h
    refine ⟨_, rfl, (x : Int), 1000000, rfl, _, -22, rfl, fun e => hN fun c => up_gt e (by omega), fun e1 => ?_⟩
    refine ⟨_, rfl, (r : Int), 1000000, rfl, _, -22, rfl, fun e => hN fun c => up_gt e (by omega), fun e2 => ?_⟩
    exact hY ⟨by have := up_le e1; omega, by have := up_le e2; omega⟩
def spTicks (C : Addr) : Sp := fun vs H Q E => ∃ (n : Nat), vs = [.int (n : Int)] ∧ (¬ n ≤ 1000 → Out C E H (-22)) ∧ (n ≤ 1000 → Q .non H)
theorem ok_Ticks {f fA fB : Addr} {fd fdA fdB : FuncData} (F : Fun K "look_at_ticks" "look_at_ticks" sTicks f fd) (T : Txt K mg C fI M fM) (UM : Use P w K mg base (L2.CX P w) 3 "must" ["so", "number"] (spMust C) fA fdA)
    (UU : Use P w K mg base CX0 1 "is_up_to" ["number", "most"] spUp fB fdB) : FnOk P w K mg base (L2.CX P w) 4 f fd ["many"] (spTicks C) := by
  obtain ⟨t1, hK⟩ := T.c_MOST_TICKS
  obtain ⟨t2, hO⟩ := T.c_OUT_OF_RANGE
  refine F.okX scTicks (fun vs H Q E h => ?_) (fun cdv A outer s H vs Q E hr h => ?_)
  · obtain ⟨a, rfl, _⟩ := h
    rfl
  · have hr1 : Room 1 _ := hr.mono (by decide)
    refine ⟨_, pss_one (ps_expr (pe_callS UM.F hr rfl UM.g UM.kp UM.b (fun σ => passAt (takes_of rfl rfl rfl rfl) σ) (by exact (pa_cons (pe_call UU.F hr1 rfl UU.g UU.kp UU.b .nil pass0 (pa_cons (pv 0) (pa_cons (pe_gi rfl hK) pa_nil))) (pa_cons (pe_gi rfl hO) pa_nil))))), ?_⟩
    obtain ⟨a, rfl, hN, hY⟩ := h
    exact ⟨_, rfl, (a : Int), 1000, rfl, _, -22, rfl, fun e => hN fun c => up_gt e (by omega), fun e1 => hY (by have := up_le e1; omega)⟩
/-- what run tells -/
def rn (p : Kza5.Set_) (f n : Nat) (s : Kza5.Loop) : List V := [.int (((Kza5.run p f n s).1 : Nat) : Int), .int (((Kza5.run p f n s).2.1 : Nat) : Int), .int (((Kza5.run p f n s).2.2.water : Nat) : Int), .int (((Kza5.run p f n s).2.2.broke : Nat) : Int)]
def spRunOn (M : Addr) : Sp := fun vs H Q _ => ∃ (a : Addr) (p : Kza5.Set_) (s : Kza5.Loop) (f n : Nat), vs = [.ref a, .int (s.water : Int), .int (s.broke : Int), .int (f : Int), .int (n : Int)] ∧ MillAt M H a p ∧ Ok p ∧ n ≤ 1000 ∧
  ∀ (H' : Hp) (t : Addr), H' t = some (.tup (rn p f n s)) → Q (.ref t) H'
/-- the slots between two turns -/
def rs (a : Addr) (f n : Int) (x : Nat × Nat × Kza5.Loop) (u v z : Option V) : L2.St := [some (.ref a), some (.int (x.2.2.water : Int)), some (.int (x.2.2.broke : Int)), some (.int f), some (.int n), some (.int (x.1 : Int)), some (.int (x.2.1 : Int)), u, v, z]
theorem ok_RunOn {f fA : Addr} {fd fdA : FuncData} (F : Fun K "run_on" "run_on" sRunOn f fd) (T : Txt K mg C fI M fM) (U : Use P w K mg base CX0 3 "ticked" ["mill", "water", "torn", "fed"] (spTicked M) fA fdA) :
    FnOk P w K mg base CX0 4 f fd ["mill", "water", "torn", "fed", "many"] (spRunOn M) := by
  refine F.ok scRunOn (fun vs H Q E h => ?_) (fun cdv A outer s H vs Q E hr h => ⟨_, pss_cons (ps_set (i := 5) scRunOn.nd rfl (Or.inl rfl) pe_int)
    (pss_cons (ps_set (i := 6) scRunOn.nd rfl (Or.inl rfl) pe_int)
    (pss_cons (ps_for PassesOwn.never rfl (pi_range1 rfl T.gRange (pa_cons (pv 4) pa_nil)) (pg_name (i := 7) scRunOn.nd rfl (Or.inl rfl))
      (pss_cons (ps_asg (pe_call U.F hr rfl U.g U.kp U.b .nil pass0 (pa_cons (pv 0) (pa_cons (pv 1) (pa_cons (pv 2) (pa_cons (pv 3) pa_nil))))) (pg_tup rfl (pgs_cons (pg_name (i := 8) scRunOn.nd rfl (Or.inl rfl)) (pgs_cons (pg_name (i := 9) scRunOn.nd rfl (Or.inl rfl)) (pgs_cons (pg_name (i := 1) scRunOn.nd rfl (Or.inl rfl)) (pgs_cons (pg_name (i := 2) scRunOn.nd rfl (Or.inl rfl)) pgs_nil))))))
      (pss_cons (ps_set (i := 5) scRunOn.nd rfl (Or.inl rfl) (pe_op op_add (pv 5) (pv 8)))
      (pss_one (ps_set (i := 6) scRunOn.nd rfl (Or.inl rfl) (pe_op op_add (pv 6) (pv 9)))))))
    (pss_one (ps_ret (pe_tup (pa_cons (pv 5) (pa_cons (pv 6) (pa_cons (pv 1) (pa_cons (pv 2) pa_nil)))))))))
    , ?_⟩)
  · obtain ⟨a, p, s, f, n, rfl, _⟩ := h
    rfl
  · obtain ⟨a, p, s, f, n, rfl, hM, o, hn, k⟩ := h
    refine ⟨_, rfl, (n : Int), rfl, by omega, by omega, for_range (lo := 0) (n := ((n : Nat) : Int).toNat) (fun i σ H' => ∃ u v z, σ = rs a f n (Kza5.run p f i s) u v z ∧ Same H H') ⟨none, none, none, rfl, Same.refl H⟩ ?_ ?_⟩
    · rintro i σ H1 hi ⟨u, v, z, rfl, hs⟩
      refine ⟨_, rfl, _, rfl, _, rfl, _, rfl, a, p, (Kza5.run p f i s).2.2, f, rfl, hM.same hs, o, fun t ht => ?_⟩
      refine ⟨t, _, rfl, SqT.of upd_same, rfl, _, _, rfl, _, _, rfl, _, _, rfl, _, _, rfl, rfl, ?_⟩
      refine ⟨_, rfl, _, rfl, _, _, rfl, rfl, ?_⟩
      refine ⟨_, rfl, _, rfl, _, _, rfl, rfl, ?_⟩
      refine ⟨some (.int (0 + (i : Int))), some (.int ((Kza5.sold p (Kza5.run p f i s).2.2 f : Nat) : Int)), some (.int ((Kza5.lost p (Kza5.run p f i s).2.2 f : Nat) : Int)), ?_, same_new hs ht⟩
      rw [Brk.run_more]
      rfl
    · rintro σ H1 ⟨u, v, z, rfl, hs⟩
      rw [Int.toNat_natCast]
      refine ⟨_, rfl, _, rfl, _, rfl, _, rfl, (by show 4 ≤ sizeLine; decide), fun t ht => k _ t upd_same⟩
def spRun : Sp := fun vs _ Q _ => ∃ (k l b x r a n : Nat), vs = [.int (k : Int), .int (l : Int), .int (b : Int), .int (x : Int), .int (r : Int), .int (a : Int), .int (n : Int)] ∧
  ∀ (H' : Hp) (p : Addr), H' p = some (.lst ((PyKza5.run k l b x r a n).map V.int)) → Q (.ref p) H'
theorem ok_Run {f fS fL fF fN fT : Addr} {fd fdM fdS fdL fdF fdN fdT : FuncData} (F : Fun K "run" "run" sRun f fd) (T : Txt K mg C fI M fM) (GM : FnOk P w K mg base CX0 1 fM fdM ["self", "keep", "lose", "broke"] (spMillInit M)) (bM : Binds K fdM ["self", "keep", "lose", "broke"] [])
    (US : Use P w K mg base (L2.CX P w) 4 "look_at_set" ["keep", "lose", "broke"] (spSet C) fS fdS) (UL : Use P w K mg base (L2.CX P w) 4 "look_at_loop" ["water", "torn"] (spLoop C) fL fdL)
    (UF : Use P w K mg base (L2.CX P w) 4 "look_at_fed" ["fed"] (spFed C) fF fdF) (UN : Use P w K mg base (L2.CX P w) 4 "look_at_ticks" ["many"] (spTicks C) fN fdN)
    (UT : Use P w K mg base CX0 4 "run_on" ["mill", "water", "torn", "fed", "many"] (spRunOn M) fT fdT) : FnOk P w K mg base CX0 6 f fd ["keep", "lose", "broke", "w", "r", "a", "n"] spRun := by
  refine F.ok scRun (fun vs H Q E h => ?_) (fun cdv A outer s H vs Q E hr h => ?_)
  · obtain ⟨k, l, b, x, r, a, n, rfl, _⟩ := h
    rfl
  · have hr4 : Room 4 _ := hr.mono (by decide)
    have hr2 : Room 2 _ := hr.mono (by decide)
    refine ⟨_, pss_cons (ps_try_as (i := 7) (tb := fun W => tSeq (tDrop (tCallS (spSet C) (WE W) (tCons (tVar 0) (tCons (tVar 1) (tCons (tVar 2) tNil))))) (tSeq (tDrop (tCallS (spLoop C) (WE W) (tCons (tVar 3) (tCons (tVar 4) tNil)))) (tSeq (tDrop (tCallS (spFed C) (WE W) (tCons (tVar 5) tNil))) (tDrop (tCallS (spTicks C) (WE W) (tCons (tVar 6) tNil))))))
        (ts := fun a cls d => tRet (tLst (tCons (tNumRef C a cls d (tVar 7)) tNil))) (Wout := fun _ _ _ _ => False) rfl rfl scRun.nd rfl rfl ⟨rfl, by decide, Or.inl T.ref.gC⟩ takes0
        (fun W pn xe tk _ => pss_cons (ps_expr (by exact (pe_callS US.F hr4 rfl US.g US.kp US.b (fun σ => passAt tk σ) (by exact (pa_cons (pv 0) (pa_cons (pv 1) (pa_cons (pv 2) pa_nil)))))))
          (pss_cons (ps_expr (by exact (pe_callS UL.F hr4 rfl UL.g UL.kp UL.b (fun σ => passAt tk σ) (by exact (pa_cons (pv 3) (pa_cons (pv 4) pa_nil))))))
          (pss_cons (ps_expr (by exact (pe_callS UF.F hr4 rfl UF.g UF.kp UF.b (fun σ => passAt tk σ) (by exact (pa_cons (pv 5) pa_nil)))))
          (pss_one (ps_expr (by exact (pe_callS UN.F hr4 rfl UN.g UN.kp UN.b (fun σ => passAt tk σ) (by exact (pa_cons (pv 6) pa_nil)))))))))
        (fun a oe cls d pn hz hf => pss_one (ps_ret (by exact (pe_lst (pa_cons (pe_numRef T.ref hz hf (pv 7)) pa_nil))))))
      (pss_one (ps_ret (pe_callTy call_list_of (by rfl) T.gList (by decide +kernel) (pa_cons (pe_call UT.F hr4 rfl UT.g UT.kp UT.b .nil pass0 (pa_cons (pe_make T.mak GM hr2 rfl T.gM bM .nil pass0 (pa_cons (pv 0) (pa_cons (pv 1) (pa_cons (pv 2) pa_nil)))) (pa_cons (pv 3) (pa_cons (pv 4) (pa_cons (pv 5) (pa_cons (pv 6) pa_nil)))))) pa_nil)))), ?_⟩
    obtain ⟨k, l, b, x, r, a, n, rfl, q⟩ := h
    have no : ¬ (k ≤ 1000 ∧ l ≤ 1000 ∧ b ≤ 1000 ∧ x ≤ 1000000 ∧ r ≤ 1000000 ∧ a ≤ 100000 ∧ n ≤ 1000) → PyKza5.run k l b x r a n = [-22] := fun c => Brk.run_no (by omega)
    refine ⟨_, rfl, _, rfl, _, rfl, k, l, b, rfl, fun c d hd => ⟨true, T.ref.te, fun _ a0 _ => ?_, fun z => Bool.noConfusion z⟩, fun c1 => ?_⟩
    · refine ⟨_, rfl, rfl, rfl, d, _, rfl, upd_same, (by show 1 ≤ sizeLine; decide), fun p hp => q _ p ?_⟩
      rw [no (by omega)]
      exact upd_same
    refine ⟨_, rfl, _, rfl, x, r, rfl, fun c d hd => ⟨true, T.ref.te, fun _ a0 _ => ?_, fun z => Bool.noConfusion z⟩, fun c2 => ?_⟩
    · refine ⟨_, rfl, rfl, rfl, d, _, rfl, upd_same, (by show 1 ≤ sizeLine; decide), fun p hp => q _ p ?_⟩
      rw [no (by omega)]
      exact upd_same
    refine ⟨_, rfl, a, rfl, fun c d hd => ⟨true, T.ref.te, fun _ a0 _ => ?_, fun z => Bool.noConfusion z⟩, fun c3 => ?_⟩
    · refine ⟨_, rfl, rfl, rfl, d, _, rfl, upd_same, (by show 1 ≤ sizeLine; decide), fun p hp => q _ p ?_⟩
      rw [no (by omega)]
      exact upd_same
    refine ⟨_, rfl, n, rfl, fun c d hd => ⟨true, T.ref.te, fun _ a0 _ => ?_, fun z => Bool.noConfusion z⟩, fun c4 => ?_⟩
    · refine ⟨_, rfl, rfl, rfl, d, _, rfl, upd_same, (by show 1 ≤ sizeLine; decide), fun p hp => q _ p ?_⟩
      rw [no (by omega)]
      exact upd_same
    -- list(run_on(Mill(keep, lose, broke), w, r, a, n))
    refine ⟨_, rfl, _, rfl, _, rfl, fun m dm nm nd ne => ⟨m, dm, k, l, b, rfl, upd_same, fun H1 J kp => ⟨rfl, ?_⟩⟩⟩
    refine ⟨_, rfl, _, rfl, _, rfl, _, rfl, m, ⟨k, l, b⟩, ⟨x, r⟩, a, n, rfl, J, ⟨c1.1, c1.2.1, c1.2.2⟩, c4, fun H2 t ht => ?_⟩
    refine ⟨t, _, rfl, .inr (SqT.of ht), fun p hp => q _ p ?_⟩
    rw [Brk.run_yes ⟨c1.1, c1.2.1, c1.2.2, c2.1, c2.2, c3⟩ c4]
    exact upd_same
/-- what is handed in -/
theorem request_Run {K : PySem.W.Frag} {H : Hp} {xs : List V} {a : Codec.denoteAll PySem.Challenge.rw_brokeloop_s02_run.args} (hwi : Codec.withinAll PySem.Challenge.rw_brokeloop_s02_run.args a = true) (hx : DwAll K H xs (Codec.encAll PySem.Challenge.rw_brokeloop_s02_run.args a)) :
    spRun xs H (fun v H' => Dw K H' v (PySem.Challenge.rw_brokeloop_s02_run.ret.enc (Codec.app PySem.Challenge.rw_brokeloop_s02_run.args PySem.Challenge.rw_brokeloop_s02_run.f a))) fun _ _ _ => False := by
  obtain ⟨k, l, b, x, r, a, n, u⟩ := a
  have q : (Codec.inInt 0 4294967295 k && (Codec.inInt 0 4294967295 l && (Codec.inInt 0 4294967295 b && (Codec.inInt 0 4294967295 x && (Codec.inInt 0 4294967295 r && (Codec.inInt 0 4294967295 a && (Codec.inInt 0 4294967295 n && true))))))) = true := hwi
  simp only [Bool.and_eq_true] at q
  obtain ⟨k, rfl⟩ := Int.eq_ofNat_of_zero_le (Codec.inInt_iff.mp q.1).1
  obtain ⟨l, rfl⟩ := Int.eq_ofNat_of_zero_le (Codec.inInt_iff.mp q.2.1).1
  obtain ⟨b, rfl⟩ := Int.eq_ofNat_of_zero_le (Codec.inInt_iff.mp q.2.2.1).1
  obtain ⟨x, rfl⟩ := Int.eq_ofNat_of_zero_le (Codec.inInt_iff.mp q.2.2.2.1).1
  obtain ⟨r, rfl⟩ := Int.eq_ofNat_of_zero_le (Codec.inInt_iff.mp q.2.2.2.2.1).1
  obtain ⟨a, rfl⟩ := Int.eq_ofNat_of_zero_le (Codec.inInt_iff.mp q.2.2.2.2.2.1).1
  obtain ⟨n, rfl⟩ := Int.eq_ofNat_of_zero_le (Codec.inInt_iff.mp q.2.2.2.2.2.2.1).1
  have e := L2.ints_dw [(k : Int), l, b, x, r, a, n] xs hx
  subst e
  exact ⟨k, l, b, x, r, a, n, rfl, fun H' p hp => .lst (L2.SqL.of hp) (L2.dw_ints _)⟩
end
/-! ## The end -/
/-- an error of the class at S is what «except S» names -/
theorem exm_self {K : PySem.W.Frag} {S : Addr} (h1 : PySem.W.subIn K (.ref S) (.type "BaseException") = some true) (h2 : PySem.W.isClsIn K S = true) (h3 : PySem.W.typeIn K (.ref S) = some (.type "type")) (h4 : PySem.W.subIn K (.ref S) (.ref S) = some true) :
    PySem.W.exmOne K (.ref S) (.ref S) = some true := by
  have e1 : (PySem.W.subIn K (.ref S) (.type "BaseException") == some true) = true := by rw [h1] <;> rfl
  have e2 : ((PySem.W.clsIn K S).isSome && PySem.W.typeIn K (.ref S) == some (.type "type")) = true := by
    have h2' : (PySem.W.clsIn K S).isSome = true := h2
    rw [h2', h3] <;> rfl
  show (if (PySem.W.subIn K (.ref S) (.type "BaseException") == some true) = true then (if ((PySem.W.clsIn K S).isSome && PySem.W.typeIn K (.ref S) == some (.type "type")) = true then PySem.W.subIn K (.ref S) (.ref S) else none) else none) = some true
  rw [if_pos e1, if_pos e2]
  exact h4
theorem all_mk {P : Program} {w : World} {K : PySem.W.Frag} {h : Heap} {mg : Str → Option Value} {fa C M fRI fMI fMust fUp fSet fLoop fFed fTicks fPart fPaper fLost fTorn fTicked fRunOn fRun : Addr} (X : K.In h) (G : h.Ns mainGlobals mg) (hfa : mg "run" = some (.ref fa))
    {nm q : Str} {N : Addr} {bs : List Value} {sn : List Str} {sub : List Value} {ab : Bool} {col : Option Bool} {dd : Option Addr} {m0 m1 m2 m3 m5 : Option Value} {odRI anRI : Option Addr} {slRI : Array (Option Value)} {ocRI dcRI pmRI cdRI ctRI : Value} {odMI anMI : Option Addr} {slMI : Array (Option Value)} {ocMI kVMI dcMI pmMI cdMI ctMI : Value} {odMust anMust : Option Addr} {slMust : Array (Option Value)} {ocMust kVMust dcMust pmMust cdMust ctMust : Value} {odUp anUp : Option Addr} {slUp : Array (Option Value)} {ocUp kVUp dcUp pmUp cdUp ctUp : Value} {odSet anSet : Option Addr} {slSet : Array (Option Value)} {ocSet kVSet dcSet pmSet cdSet ctSet : Value} {odLoop anLoop : Option Addr} {slLoop : Array (Option Value)} {ocLoop kVLoop dcLoop pmLoop cdLoop ctLoop : Value} {odFed anFed : Option Addr} {slFed : Array (Option Value)} {ocFed kVFed dcFed pmFed cdFed ctFed : Value} {odTicks anTicks : Option Addr} {slTicks : Array (Option Value)} {ocTicks kVTicks dcTicks pmTicks cdTicks ctTicks : Value} {odPart anPart : Option Addr} {slPart : Array (Option Value)} {ocPart kVPart dcPart pmPart cdPart ctPart : Value} {odPaper anPaper : Option Addr} {slPaper : Array (Option Value)} {ocPaper kVPaper dcPaper pmPaper cdPaper ctPaper : Value} {odLost anLost : Option Addr} {slLost : Array (Option Value)} {ocLost kVLost dcLost pmLost cdLost ctLost : Value} {odTorn anTorn : Option Addr} {slTorn : Array (Option Value)} {ocTorn kVTorn dcTorn pmTorn cdTorn ctTorn : Value} {odTicked anTicked : Option Addr} {slTicked : Array (Option Value)} {ocTicked kVTicked dcTicked pmTicked cdTicked ctTicked : Value} {odRunOn anRunOn : Option Addr} {slRunOn : Array (Option Value)} {ocRunOn kVRunOn dcRunOn pmRunOn cdRunOn ctRunOn : Value} {odRun anRun : Option Addr} {slRun : Array (Option Value)} {ocRun kVRun dcRun pmRun cdRun ctRun : Value} {t_MOST_THOUSANDTHS : Tok} {t_MOST_FIBRE : Tok} {t_MOST_FED : Tok} {t_MOST_TICKS : Tok} {t_OUT_OF_RANGE : Tok} {t_THOUSAND : Tok}
    (aC : PySem.W.nsIn K mainGlobals "Refused" = some (some (.ref C)))
    (xL : K.lookup C = some (excClassObj nm q C N bs [.type "ValueError", .type "Exception", .type "BaseException", .type "object"] true sn sub ab col dd m0 m1 m2 m3 m5 "ValueError.__new__"))
    (sa : PySem.W.findIn K (.ref C) "__setattr__" = some (some (.builtin "object.__setattr__")))
    (ga : PySem.W.findIn K (.ref C) "__getattribute__" = some (some (.builtin "BaseException.__getattribute__")))
    (gg : PySem.W.findIn K (.ref C) "__getattr__" = some none)
    (nb : PySem.W.findIn K (.ref C) "number" = some none)
    (aRI : PySem.W.findIn K (.ref C) "__init__" = some (some (.ref fRI)))
    (tRI : PySem.W.typeIn K (.ref fRI) = some (.type "function"))
    (lRI : K.lookup fRI = some ⟨ocRI, odRI, .func (PySem.W.fnOf "__init__" "Refused.__init__" (PySem.RefX.iA ⟨9, 17, 9, 21⟩ ⟨9, 23, 9, 29⟩) (PySem.RefX.iB ⟨10, 8, 10, 12⟩ ⟨10, 8, 10, 19⟩ ⟨10, 22, 10, 28⟩ ⟨10, 8, 10, 28⟩) PySem.RefX.iS .none .none dcRI pmRI anRI cdRI ctRI), slRI⟩)
    (cRI : PySem.W.codeIn K cdRI "Refused.__init__" = true)
    (kC : PySem.W.keepIn K (.ref C) = true)
    (eC : PySem.W.subIn K (.ref C) (.type "BaseException") = some true)
    (tC : PySem.W.typeIn K (.ref C) = some (.type "type"))
    (hC : PySem.W.hasDictIn K C = true)
    (iC : PySem.W.isClsIn K C = true)
    (sC : PySem.W.subIn K (.ref C) (.ref C) = some true)
    (aM : PySem.W.nsIn K mainGlobals "Mill" = some (some (.ref M)))
    (aMI : PySem.W.findIn K (.ref M) "__init__" = some (some (.ref fMI)))
    (iMI : PySem.W.isFn K (.ref fMI) = true)
    (lMI : K.lookup fMI = some ⟨ocMI, odMI, .func (PySem.W.fnOf "__init__" "Mill.__init__" (defArgs sMillInit) (defBody sMillInit) (defScope sMillInit) .none kVMI dcMI pmMI anMI cdMI ctMI), slMI⟩)
    (cMI : PySem.W.codeIn K cdMI "Mill.__init__" = true)
    (kMI : PySem.W.keepIn K (.ref fMI) = true)
    (pgM : PySem.W.plainGet K M Str.empty = true)
    (hdM : PySem.W.hasDictIn K M = true)
    (poM : PySem.W.plainOver K M = true)
    (saM : PySem.W.findIn K (.ref M) "__setattr__" = some (some (.builtin "object.__setattr__")))
    (mkM : PySem.W.makesIn K M = true)
    (kcM : PySem.W.keepIn K (.ref M) = true)
    (nMK : PySem.W.findIn K (.ref M) "keep" = some none)
    (nML : PySem.W.findIn K (.ref M) "lose" = some none)
    (nMB : PySem.W.findIn K (.ref M) "broke" = some none)
    (zL : PySem.W.nsIn K mainGlobals "list" = some none)
    (zR : PySem.W.nsIn K mainGlobals "range" = some none)
    (z_MOST_THOUSANDTHS : PySem.W.nsIn K mainGlobals "MOST_THOUSANDTHS" = some (some (.int (1000) t_MOST_THOUSANDTHS)))
    (z_MOST_FIBRE : PySem.W.nsIn K mainGlobals "MOST_FIBRE" = some (some (.int (1000000) t_MOST_FIBRE)))
    (z_MOST_FED : PySem.W.nsIn K mainGlobals "MOST_FED" = some (some (.int (100000) t_MOST_FED)))
    (z_MOST_TICKS : PySem.W.nsIn K mainGlobals "MOST_TICKS" = some (some (.int (1000) t_MOST_TICKS)))
    (z_OUT_OF_RANGE : PySem.W.nsIn K mainGlobals "OUT_OF_RANGE" = some (some (.int (-22) t_OUT_OF_RANGE)))
    (z_THOUSAND : PySem.W.nsIn K mainGlobals "THOUSAND" = some (some (.int (1000) t_THOUSAND)))
    (aMust : PySem.W.nsIn K mainGlobals "must" = some (some (.ref fMust)))
    (lMust : K.lookup fMust = some ⟨ocMust, odMust, .func (PySem.W.fnOf "must" "must" (defArgs sMust) (defBody sMust) (defScope sMust) .none kVMust dcMust pmMust anMust cdMust ctMust), slMust⟩)
    (cMust : PySem.W.codeIn K cdMust "must" = true)
    (kMust : PySem.W.keepIn K (.ref fMust) = true)
    (aUp : PySem.W.nsIn K mainGlobals "is_up_to" = some (some (.ref fUp)))
    (lUp : K.lookup fUp = some ⟨ocUp, odUp, .func (PySem.W.fnOf "is_up_to" "is_up_to" (defArgs sUp) (defBody sUp) (defScope sUp) .none kVUp dcUp pmUp anUp cdUp ctUp), slUp⟩)
    (cUp : PySem.W.codeIn K cdUp "is_up_to" = true)
    (kUp : PySem.W.keepIn K (.ref fUp) = true)
    (aSet : PySem.W.nsIn K mainGlobals "look_at_set" = some (some (.ref fSet)))
    (lSet : K.lookup fSet = some ⟨ocSet, odSet, .func (PySem.W.fnOf "look_at_set" "look_at_set" (defArgs sSet) (defBody sSet) (defScope sSet) .none kVSet dcSet pmSet anSet cdSet ctSet), slSet⟩)
    (cSet : PySem.W.codeIn K cdSet "look_at_set" = true)
    (kSet : PySem.W.keepIn K (.ref fSet) = true)
    (aLoop : PySem.W.nsIn K mainGlobals "look_at_loop" = some (some (.ref fLoop)))
    (lLoop : K.lookup fLoop = some ⟨ocLoop, odLoop, .func (PySem.W.fnOf "look_at_loop" "look_at_loop" (defArgs sLoop) (defBody sLoop) (defScope sLoop) .none kVLoop dcLoop pmLoop anLoop cdLoop ctLoop), slLoop⟩)
    (cLoop : PySem.W.codeIn K cdLoop "look_at_loop" = true)
    (kLoop : PySem.W.keepIn K (.ref fLoop) = true)
    (aFed : PySem.W.nsIn K mainGlobals "look_at_fed" = some (some (.ref fFed)))
    (lFed : K.lookup fFed = some ⟨ocFed, odFed, .func (PySem.W.fnOf "look_at_fed" "look_at_fed" (defArgs sFed) (defBody sFed) (defScope sFed) .none kVFed dcFed pmFed anFed cdFed ctFed), slFed⟩)
    (cFed : PySem.W.codeIn K cdFed "look_at_fed" = true)
    (kFed : PySem.W.keepIn K (.ref fFed) = true)
    (aTicks : PySem.W.nsIn K mainGlobals "look_at_ticks" = some (some (.ref fTicks)))
    (lTicks : K.lookup fTicks = some ⟨ocTicks, odTicks, .func (PySem.W.fnOf "look_at_ticks" "look_at_ticks" (defArgs sTicks) (defBody sTicks) (defScope sTicks) .none kVTicks dcTicks pmTicks anTicks cdTicks ctTicks), slTicks⟩)
    (cTicks : PySem.W.codeIn K cdTicks "look_at_ticks" = true)
    (kTicks : PySem.W.keepIn K (.ref fTicks) = true)
    (aPart : PySem.W.nsIn K mainGlobals "part" = some (some (.ref fPart)))
    (lPart : K.lookup fPart = some ⟨ocPart, odPart, .func (PySem.W.fnOf "part" "part" (defArgs sPart) (defBody sPart) (defScope sPart) .none kVPart dcPart pmPart anPart cdPart ctPart), slPart⟩)
    (cPart : PySem.W.codeIn K cdPart "part" = true)
    (kPart : PySem.W.keepIn K (.ref fPart) = true)
    (aPaper : PySem.W.nsIn K mainGlobals "paper_of" = some (some (.ref fPaper)))
    (lPaper : K.lookup fPaper = some ⟨ocPaper, odPaper, .func (PySem.W.fnOf "paper_of" "paper_of" (defArgs sPaper) (defBody sPaper) (defScope sPaper) .none kVPaper dcPaper pmPaper anPaper cdPaper ctPaper), slPaper⟩)
    (cPaper : PySem.W.codeIn K cdPaper "paper_of" = true)
    (kPaper : PySem.W.keepIn K (.ref fPaper) = true)
    (aLost : PySem.W.nsIn K mainGlobals "lost_of" = some (some (.ref fLost)))
    (lLost : K.lookup fLost = some ⟨ocLost, odLost, .func (PySem.W.fnOf "lost_of" "lost_of" (defArgs sLost) (defBody sLost) (defScope sLost) .none kVLost dcLost pmLost anLost cdLost ctLost), slLost⟩)
    (cLost : PySem.W.codeIn K cdLost "lost_of" = true)
    (kLost : PySem.W.keepIn K (.ref fLost) = true)
    (aTorn : PySem.W.nsIn K mainGlobals "torn_of" = some (some (.ref fTorn)))
    (lTorn : K.lookup fTorn = some ⟨ocTorn, odTorn, .func (PySem.W.fnOf "torn_of" "torn_of" (defArgs sTorn) (defBody sTorn) (defScope sTorn) .none kVTorn dcTorn pmTorn anTorn cdTorn ctTorn), slTorn⟩)
    (cTorn : PySem.W.codeIn K cdTorn "torn_of" = true)
    (kTorn : PySem.W.keepIn K (.ref fTorn) = true)
    (aTicked : PySem.W.nsIn K mainGlobals "ticked" = some (some (.ref fTicked)))
    (lTicked : K.lookup fTicked = some ⟨ocTicked, odTicked, .func (PySem.W.fnOf "ticked" "ticked" (defArgs sTicked) (defBody sTicked) (defScope sTicked) .none kVTicked dcTicked pmTicked anTicked cdTicked ctTicked), slTicked⟩)
    (cTicked : PySem.W.codeIn K cdTicked "ticked" = true)
    (kTicked : PySem.W.keepIn K (.ref fTicked) = true)
    (aRunOn : PySem.W.nsIn K mainGlobals "run_on" = some (some (.ref fRunOn)))
    (lRunOn : K.lookup fRunOn = some ⟨ocRunOn, odRunOn, .func (PySem.W.fnOf "run_on" "run_on" (defArgs sRunOn) (defBody sRunOn) (defScope sRunOn) .none kVRunOn dcRunOn pmRunOn anRunOn cdRunOn ctRunOn), slRunOn⟩)
    (cRunOn : PySem.W.codeIn K cdRunOn "run_on" = true)
    (kRunOn : PySem.W.keepIn K (.ref fRunOn) = true)
    (aRun : PySem.W.nsIn K mainGlobals "run" = some (some (.ref fRun)))
    (lRun : K.lookup fRun = some ⟨ocRun, odRun, .func (PySem.W.fnOf "run" "run" (defArgs sRun) (defBody sRun) (defScope sRun) .none kVRun dcRun pmRun anRun cdRun ctRun), slRun⟩)
    (cRun : PySem.W.codeIn K cdRun "run" = true)
    (kRun : PySem.W.keepIn K (.ref fRun) = true)
    : ∃ fd : FuncData, (∀ (s : Shared) (us : List Value), us.length = (["keep", "lose", "broke", "w", "r", "a", "n"] : List Str).length → BindsTo s fd ⟨us, []⟩ ((["keep", "lose", "broke", "w", "r", "a", "n"] : List Str).zip us)) ∧ ∀ base : Heap, K.In base → base.Ns mainGlobals mg → FnOk P w K mg base CX0 6 fa fd ["keep", "lose", "broke", "w", "r", "a", "n"] spRun := by
  have e := hfa.symm.trans (PySem.W.mg_of X G aRun)
  cases e
  have ref : PySem.RefX.RefTxt K mg C fRI :=
    { gC := PySem.W.mg_of X G aC, cls := ⟨nm, q, N, bs, _, sn, sub, ab, col, dd, m0, m1, m2, m3, m5, xL, by decide +kernel⟩, sa := sa, ga := ga, gg := gg, noN := nb, iC := aRI, tC := tRI, kC := kC, exC := eC, tyC := tC, hdC := hC, te := exm_self eC iC tC sC,
      fn := ⟨_, _, _, _, _, _, _, _, _, _, _, _, _, _, lRI, cRI⟩ }
  have T : Txt K mg C fRI M fMI := ⟨ref, ⟨pgM, hdM, poM, saM⟩, nMK, nML, nMB, PySem.W.mg_of X G aM, ⟨mkM, aMI, iMI, kcM⟩, PySem.W.mg_none_of X G zL, PySem.W.mg_none_of X G zR, ⟨_, PySem.W.mg_of X G z_MOST_THOUSANDTHS⟩, ⟨_, PySem.W.mg_of X G z_MOST_FIBRE⟩, ⟨_, PySem.W.mg_of X G z_MOST_FED⟩, ⟨_, PySem.W.mg_of X G z_MOST_TICKS⟩, ⟨_, PySem.W.mg_of X G z_OUT_OF_RANGE⟩, ⟨_, PySem.W.mg_of X G z_THOUSAND⟩⟩
  have FMI := fun_mk (st := sMillInit) lMI cMI kMI
  have bMI := FMI.binds (ps := ["self", "keep", "lose", "broke"]) fun _ _ _ _ _ _ us hl => match us, hl with | [_, _, _, _], _ => rfl
  have FMust := fun_mk (st := sMust) lMust cMust kMust
  have bMust := FMust.binds (ps := ["so", "number"]) fun _ _ _ _ _ _ us hl => match us, hl with | [_, _], _ => rfl
  have gMust := PySem.W.mg_of X G aMust
  have FUp := fun_mk (st := sUp) lUp cUp kUp
  have bUp := FUp.binds (ps := ["number", "most"]) fun _ _ _ _ _ _ us hl => match us, hl with | [_, _], _ => rfl
  have gUp := PySem.W.mg_of X G aUp
  have FSet := fun_mk (st := sSet) lSet cSet kSet
  have bSet := FSet.binds (ps := ["keep", "lose", "broke"]) fun _ _ _ _ _ _ us hl => match us, hl with | [_, _, _], _ => rfl
  have gSet := PySem.W.mg_of X G aSet
  have FLoop := fun_mk (st := sLoop) lLoop cLoop kLoop
  have bLoop := FLoop.binds (ps := ["water", "torn"]) fun _ _ _ _ _ _ us hl => match us, hl with | [_, _], _ => rfl
  have gLoop := PySem.W.mg_of X G aLoop
  have FFed := fun_mk (st := sFed) lFed cFed kFed
  have bFed := FFed.binds (ps := ["fed"]) fun _ _ _ _ _ _ us hl => match us, hl with | [_], _ => rfl
  have gFed := PySem.W.mg_of X G aFed
  have FTicks := fun_mk (st := sTicks) lTicks cTicks kTicks
  have bTicks := FTicks.binds (ps := ["many"]) fun _ _ _ _ _ _ us hl => match us, hl with | [_], _ => rfl
  have gTicks := PySem.W.mg_of X G aTicks
  have FPart := fun_mk (st := sPart) lPart cPart kPart
  have bPart := FPart.binds (ps := ["much", "thousandths"]) fun _ _ _ _ _ _ us hl => match us, hl with | [_, _], _ => rfl
  have gPart := PySem.W.mg_of X G aPart
  have FPaper := fun_mk (st := sPaper) lPaper cPaper kPaper
  have bPaper := FPaper.binds (ps := ["mill", "together"]) fun _ _ _ _ _ _ us hl => match us, hl with | [_, _], _ => rfl
  have gPaper := PySem.W.mg_of X G aPaper
  have FLost := fun_mk (st := sLost) lLost cLost kLost
  have bLost := FLost.binds (ps := ["mill", "left"]) fun _ _ _ _ _ _ us hl => match us, hl with | [_, _], _ => rfl
  have gLost := PySem.W.mg_of X G aLost
  have FTorn := fun_mk (st := sTorn) lTorn cTorn kTorn
  have bTorn := FTorn.binds (ps := ["mill", "paper"]) fun _ _ _ _ _ _ us hl => match us, hl with | [_, _], _ => rfl
  have gTorn := PySem.W.mg_of X G aTorn
  have FTicked := fun_mk (st := sTicked) lTicked cTicked kTicked
  have bTicked := FTicked.binds (ps := ["mill", "water", "torn", "fed"]) fun _ _ _ _ _ _ us hl => match us, hl with | [_, _, _, _], _ => rfl
  have gTicked := PySem.W.mg_of X G aTicked
  have FRunOn := fun_mk (st := sRunOn) lRunOn cRunOn kRunOn
  have bRunOn := FRunOn.binds (ps := ["mill", "water", "torn", "fed", "many"]) fun _ _ _ _ _ _ us hl => match us, hl with | [_, _, _, _, _], _ => rfl
  have gRunOn := PySem.W.mg_of X G aRunOn
  have FRun := fun_mk (st := sRun) lRun cRun kRun
  refine ⟨PySem.W.fnOf "run" "run" (defArgs sRun) (defBody sRun) (defScope sRun) .none kVRun dcRun pmRun anRun cdRun ctRun, fun s us hu => match us, hu with | [_, _, _, _, _, _, _], _ => .of_eq rfl, fun base _ _ => ?_⟩
  have GMI : FnOk P w K mg base CX0 1 fMI _ ["self", "keep", "lose", "broke"] (spMillInit M) := ok_MillInit FMI T
  have GMust : FnOk P w K mg base (L2.CX P w) 3 fMust _ ["so", "number"] (spMust C) := ok_Must FMust T 
  have GUp : FnOk P w K mg base CX0 1 fUp _ ["number", "most"] (spUp) := ok_Up FUp T 
  have GSet : FnOk P w K mg base (L2.CX P w) 4 fSet _ ["keep", "lose", "broke"] (spSet C) := ok_Set FSet T ⟨GMust, gMust, kMust, bMust⟩ ⟨GUp, gUp, kUp, bUp⟩
  have GLoop : FnOk P w K mg base (L2.CX P w) 4 fLoop _ ["water", "torn"] (spLoop C) := ok_Loop FLoop T ⟨GMust, gMust, kMust, bMust⟩ ⟨GUp, gUp, kUp, bUp⟩
  have GFed : FnOk P w K mg base (L2.CX P w) 4 fFed _ ["fed"] (spFed C) := ok_Fed FFed T ⟨GMust, gMust, kMust, bMust⟩ ⟨GUp, gUp, kUp, bUp⟩
  have GTicks : FnOk P w K mg base (L2.CX P w) 4 fTicks _ ["many"] (spTicks C) := ok_Ticks FTicks T ⟨GMust, gMust, kMust, bMust⟩ ⟨GUp, gUp, kUp, bUp⟩
  have GPart : FnOk P w K mg base CX0 1 fPart _ ["much", "thousandths"] (spPart) := ok_Part FPart T 
  have GPaper : FnOk P w K mg base CX0 2 fPaper _ ["mill", "together"] (spPaper M) := ok_Paper FPaper T ⟨GPart, gPart, kPart, bPart⟩
  have GLost : FnOk P w K mg base CX0 2 fLost _ ["mill", "left"] (spLost M) := ok_Lost FLost T ⟨GPart, gPart, kPart, bPart⟩
  have GTorn : FnOk P w K mg base CX0 2 fTorn _ ["mill", "paper"] (spTorn M) := ok_Torn FTorn T ⟨GPart, gPart, kPart, bPart⟩
  have GTicked : FnOk P w K mg base CX0 3 fTicked _ ["mill", "water", "torn", "fed"] (spTicked M) := ok_Ticked FTicked T ⟨GPaper, gPaper, kPaper, bPaper⟩ ⟨GLost, gLost, kLost, bLost⟩ ⟨GTorn, gTorn, kTorn, bTorn⟩
  have GRunOn : FnOk P w K mg base CX0 4 fRunOn _ ["mill", "water", "torn", "fed", "many"] (spRunOn M) := ok_RunOn FRunOn T ⟨GTicked, gTicked, kTicked, bTicked⟩
  exact ok_Run FRun T GMI bMI ⟨GSet, gSet, kSet, bSet⟩ ⟨GLoop, gLoop, kLoop, bLoop⟩ ⟨GFed, gFed, kFed, bFed⟩ ⟨GTicks, gTicks, kTicks, bTicks⟩ ⟨GRunOn, gRunOn, kRunOn, bRunOn⟩
end Bl
open PySem PySem.W PyProof.Rows
set_option maxRecDepth 100000 in
set_option maxHeartbeats 8000000 in
theorem PySem.Challenge.cw_brokeloop_s02_run_holds : PySem.Challenge.rw_brokeloop_s02_run.Holds := by
  w_on; k_headS; (case hw => exact ⟨[.int 0, .int 0, .int 0, .int 0, .int 0, .int 0, .int 0], by decide +kernel, by decide +kernel⟩)
  k_fillS
  refine L2.walk_specK (r := PySem.Challenge.rw_brokeloop_s02_run) (k := 6) (CX := L2.CX0) (ps := ["keep", "lose", "broke", "w", "r", "a", "n"]) (sp := fun _ => Bl.spRun) (by decide +kernel) rfl rfl ⟨rfl, by decide, by decide⟩ (fun w h Y => PySem.W.kIn_of Y) ?F ?S (fun _ _ _ _ z => z)
  case F =>
    intro w mg fa h Y KX G hmg
    refine' Bl.all_mk KX G hmg ?aC ?xL ?sa ?ga ?gg ?nb ?aRI ?tRI ?lRI ?cRI ?kC ?eC ?tC ?hC ?iC ?sC ?aM ?aMI ?iMI ?lMI ?cMI ?kMI ?pgM ?hdM ?poM ?saM ?mkM ?kcM ?nMK ?nML ?nMB ?zL ?zR ?z_MOST_THOUSANDTHS ?z_MOST_FIBRE ?z_MOST_FED ?z_MOST_TICKS ?z_OUT_OF_RANGE ?z_THOUSAND ?aMust ?lMust ?cMust ?kMust ?aUp ?lUp ?cUp ?kUp ?aSet ?lSet ?cSet ?kSet ?aLoop ?lLoop ?cLoop ?kLoop ?aFed ?lFed ?cFed ?kFed ?aTicks ?lTicks ?cTicks ?kTicks ?aPart ?lPart ?cPart ?kPart ?aPaper ?lPaper ?cPaper ?kPaper ?aLost ?lLost ?cLost ?kLost ?aTorn ?lTorn ?cTorn ?kTorn ?aTicked ?lTicked ?cTicked ?kTicked ?aRunOn ?lRunOn ?cRunOn ?kRunOn ?aRun ?lRun ?cRun ?kRun
    (case aC => k_is)
    (case xL => k_is)
    (case sa => k_is)
    (case ga => k_is)
    (case gg => k_is)
    (case nb => k_is)
    (case aRI => k_is)
    (case tRI => k_is)
    (case lRI => k_is)
    (case cRI => k_is)
    (case kC => k_is)
    (case eC => k_is)
    (case tC => k_is)
    (case hC => k_is)
    (case iC => k_is)
    (case sC => first | rfl | k_is)
    (case aM => k_is)
    (case aMI => k_is)
    (case iMI => k_is)
    (case lMI => k_is)
    (case cMI => k_is)
    (case kMI => k_is)
    (case pgM => k_is)
    (case hdM => k_is)
    (case poM => k_is)
    (case saM => k_is)
    (case mkM => k_is)
    (case kcM => k_is)
    (case nMK => k_is)
    (case nML => k_is)
    (case nMB => k_is)
    (case zL => k_is)
    (case zR => k_is)
    (case z_MOST_THOUSANDTHS => k_is)
    (case z_MOST_FIBRE => k_is)
    (case z_MOST_FED => k_is)
    (case z_MOST_TICKS => k_is)
    (case z_OUT_OF_RANGE => k_is)
    (case z_THOUSAND => k_is)
    (case aMust => k_is)
    (case lMust => k_is)
    (case cMust => k_is)
    (case kMust => k_is)
    (case aUp => k_is)
    (case lUp => k_is)
    (case cUp => k_is)
    (case kUp => k_is)
    (case aSet => k_is)
    (case lSet => k_is)
    (case cSet => k_is)
    (case kSet => k_is)
    (case aLoop => k_is)
    (case lLoop => k_is)
    (case cLoop => k_is)
    (case kLoop => k_is)
    (case aFed => k_is)
    (case lFed => k_is)
    (case cFed => k_is)
    (case kFed => k_is)
    (case aTicks => k_is)
    (case lTicks => k_is)
    (case cTicks => k_is)
    (case kTicks => k_is)
    (case aPart => k_is)
    (case lPart => k_is)
    (case cPart => k_is)
    (case kPart => k_is)
    (case aPaper => k_is)
    (case lPaper => k_is)
    (case cPaper => k_is)
    (case kPaper => k_is)
    (case aLost => k_is)
    (case lLost => k_is)
    (case cLost => k_is)
    (case kLost => k_is)
    (case aTorn => k_is)
    (case lTorn => k_is)
    (case cTorn => k_is)
    (case kTorn => k_is)
    (case aTicked => k_is)
    (case lTicked => k_is)
    (case cTicked => k_is)
    (case kTicked => k_is)
    (case aRunOn => k_is)
    (case lRunOn => k_is)
    (case cRunOn => k_is)
    (case kRunOn => k_is)
    (case aRun => k_is)
    (case lRun => k_is)
    (case cRun => k_is)
    (case kRun => k_is)
  case S =>
    intro K H xs a hO hwi hask hx
    exact Bl.request_Run hwi hx
#print axioms PySem.Challenge.cw_brokeloop_s02_run_holds
