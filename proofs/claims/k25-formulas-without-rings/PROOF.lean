import PyProof.Rows.All
import Wide.All
import OpenK.AllK
import Wide.FinOn
import KE.KStateDown
import HandS.ForMost
import HandS.TupAny
import HandS.IsInst
import HandS.Small
import HandS.Defaults
import HandS.More
import HandS.Codes
import HandS.Property
import HandS.Flow
import HandS.Head0
import HandS.Head1
import HandS.Head2
import HandS.HeadEnd
import HandS.HeadHook1
import HandS.HeadHook2
import HandS.HeadHook3
import HandS.HeadHook4
import HandS.WordsDict
import HandS.Walk
import PySem.Challenge.RW_tongues_k25_formulas_without_rings
set_option Elab.async false
set_option linter.all false
set_option maxRecDepth 100000
set_option maxHeartbeats 4000000
namespace Q
open PySem PySem.Spec PyProof.Rows L2
/-! ### defs by their names -/
/-- the function object at an address -/
def fdOf (K : PySem.W.Frag) (f : Addr) : FuncData := match K.lookup f with
  | some ⟨_, _, .func fd, _⟩ => fd
  | _ => default
theorem fdOf_eq {K : PySem.W.Frag} {x qual : Str} {pa : Arguments} {bd : List Stmt} {sc : Scope} {dvs : List V} {kws : List (Str × V)} {f : Addr} {fd : FuncData} (F : FunD K x qual pa bd sc dvs kws f fd) : fdOf K f = fd := by
  obtain ⟨oc, od, dV, kV, doc, pm, an, cdv, ct, osl, e, l, _⟩ := F.ex
  unfold fdOf
  rw [l]
/-- a def of the top without defaults -/
structure D1 (K : PySem.W.Frag) (mg : Str → Option Value) (x : Str) (st : Stmt) (ps : List Str) : Prop where
  F : FunD K x x (defArgs st) (defBody st) (defScope st) [] [] (He.ga K x) (fdOf K (He.ga K x))
  g : mg x = some (.ref (He.ga K x))
  b : Binds K (fdOf K (He.ga K x)) ps []
/-- a method without defaults -/
structure M1 (K : PySem.W.Frag) (C m qual : Str) (st : Stmt) (ps : List Str) : Prop where
  F : FunD K m qual (defArgs st) (defBody st) (defScope st) [] [] (He.ma K (He.ga K C) m) (fdOf K (He.ma K (He.ga K C) m))
  b : Binds K (fdOf K (He.ma K (He.ga K C) m)) ps []
  c : Cls K (He.ga K C)
  me : Meth K (He.ga K C) m (He.ma K (He.ga K C) m)
/-- a class with its own __init__ -/
structure K1 (K : PySem.W.Frag) (mg : Str → Option Value) (C qual : Str) (st : Stmt) (ps : List Str) : Prop where
  F : FunD K "__init__" qual (defArgs st) (defBody st) (defScope st) [] [] (He.ma K (He.ga K C) "__init__") (fdOf K (He.ma K (He.ga K C) "__init__"))
  b : Binds K (fdOf K (He.ma K (He.ga K C) "__init__")) ps []
  c : Cls K (He.ga K C)
  mkr : Mk K (He.ga K C) (He.ma K (He.ga K C) "__init__")
  g : mg C = some (.ref (He.ga K C))
/-- a def of the top whose last parameter has the default () -/
structure Dd (K : PySem.W.Frag) (mg : Str → Option Value) (x : Str) (st : Stmt) (ps : List Str) : Prop where
  F : FunD K x x (defArgs st) (defBody st) (defScope st) [.ref (He.dflAt (x, none) 0 K)] [] (He.ga K x) (fdOf K (He.ga K x))
  g : mg x = some (.ref (He.ga K x))
  b : Binds K (fdOf K (He.ga K x)) ps []
  b1 : ∃ ds, Vals [.ref (He.dflAt (x, none) 0 K)] ds ∧ Binds K (fdOf K (He.ga K x)) ps ds
  e : ∀ H, SqT K H (He.dflAt (x, none) 0 K) []
/-- an empty tuple of the written part -/
def tup0B (K : PySem.W.Frag) (a : Addr) : Bool := match K.lookup a with
  | some ⟨.type c, _, .seq its _, _⟩ => decide (c = "tuple") && decide (its.toList = [])
  | _ => false
theorem tup0B_ok {K : PySem.W.Frag} {a : Addr} (h : tup0B K a = true) (H : Hp) : SqT K H a [] := by
  unfold tup0B at h
  cases q : K.lookup a with
  | none =>
    rw [q] at h
    cases h
  | some o =>
    obtain ⟨oc, od, dt, osl⟩ := o
    rw [q] at h
    cases oc with
    | type c =>
      cases dt with
      | seq its n =>
        obtain ⟨h1, h2⟩ := He.ba (show (decide (c = "tuple") && decide (its.toList = [])) = true from h)
        have e : its.toList = [] := of_decide_eq_true h2
        have z : its.size = 0 := by rw [← Array.length_toList, e]; rfl
        exact .inr ⟨_, its, n, q, congrArg Value.type (of_decide_eq_true h1), rfl, by rw [z]; exact Nat.zero_le _, by rw [e]; exact .nil⟩
      | _ => cases h
    | _ => cases dt <;> cases h
theorem D1.mkOf {K : PySem.W.Frag} {mg : Str → Option Value} {x : Str} {st : Stmt} {ps : List Str} {fd : FuncData} (g : mg x = some (.ref (He.ga K x)))
    (F : FunD K x x (defArgs st) (defBody st) (defScope st) [] [] (He.ga K x) fd)
    (h : ∀ (kV doc pm : Value) (an : Option Addr) (cdv ct : Value) (us : List Value), us.length = ps.length → bindArgs (PySem.W.fnOf x x (defArgs st) (defBody st) (defScope st) .none kV doc pm an cdv ct) ⟨us, []⟩ = pure (ps.zip us)) : D1 K mg x st ps := by
  have e := fdOf_eq F
  subst e
  exact ⟨F, g, F.bindsN h⟩
theorem M1.mkOf {K : PySem.W.Frag} {C m qual : Str} {st : Stmt} {ps : List Str} {fd : FuncData} (c : Cls K (He.ga K C)) (me : Meth K (He.ga K C) m (He.ma K (He.ga K C) m))
    (F : FunD K m qual (defArgs st) (defBody st) (defScope st) [] [] (He.ma K (He.ga K C) m) fd)
    (h : ∀ (kV doc pm : Value) (an : Option Addr) (cdv ct : Value) (us : List Value), us.length = ps.length → bindArgs (PySem.W.fnOf m qual (defArgs st) (defBody st) (defScope st) .none kV doc pm an cdv ct) ⟨us, []⟩ = pure (ps.zip us)) : M1 K C m qual st ps := by
  have e := fdOf_eq F
  subst e
  exact ⟨F, F.bindsN h, c, me⟩
theorem K1.mkOf {K : PySem.W.Frag} {mg : Str → Option Value} {C qual : Str} {st : Stmt} {ps : List Str} {fd : FuncData} (c : Cls K (He.ga K C)) (mk : Mk K (He.ga K C) (He.ma K (He.ga K C) "__init__")) (g : mg C = some (.ref (He.ga K C)))
    (F : FunD K "__init__" qual (defArgs st) (defBody st) (defScope st) [] [] (He.ma K (He.ga K C) "__init__") fd)
    (h : ∀ (kV doc pm : Value) (an : Option Addr) (cdv ct : Value) (us : List Value), us.length = ps.length → bindArgs (PySem.W.fnOf "__init__" qual (defArgs st) (defBody st) (defScope st) .none kV doc pm an cdv ct) ⟨us, []⟩ = pure (ps.zip us)) : K1 K mg C qual st ps := by
  have e := fdOf_eq F
  subst e
  exact ⟨F, F.bindsN h, c, mk, g⟩
theorem Dd.mkOf {K : PySem.W.Frag} {mg : Str → Option Value} {x : Str} {st : Stmt} {ps : List Str} {fd : FuncData} (n : Nat) (hl : ps.length = n + 1) (g : mg x = some (.ref (He.ga K x)))
    (F : FunD K x x (defArgs st) (defBody st) (defScope st) [.ref (He.dflAt (x, none) 0 K)] [] (He.ga K x) fd)
    (h : ∀ (T : Addr) (kV doc pm : Value) (an : Option Addr) (cdv ct : Value) (us its : List Value), us.length = n + 1 → its.length = 1 →
      ∃ k, bindArgs (PySem.W.fnOf x x (defArgs st) (defBody st) (defScope st) (.ref T) kV doc pm an cdv ct) ⟨us, []⟩ = seqItems? (.ref T) >>= k ∧ k (some its.toArray) = pure (ps.zip (us ++ its.drop 1)))
    (h1 : ∀ (T : Addr) (kV doc pm : Value) (an : Option Addr) (cdv ct : Value) (us its : List Value), us.length = n → its.length = 1 →
      ∃ k, bindArgs (PySem.W.fnOf x x (defArgs st) (defBody st) (defScope st) (.ref T) kV doc pm an cdv ct) ⟨us, []⟩ = seqItems? (.ref T) >>= k ∧ k (some its.toArray) = pure (ps.zip (us ++ its.drop 0)))
    (z : tup0B K (He.dflAt (x, none) 0 K) = true) : Dd K mg x st ps := by
  have e := fdOf_eq F
  subst e
  obtain ⟨ds, r, b⟩ := F.binds1 (n + 1) 1 (by simp) (by simp [hl]) h
  obtain ⟨ds1, r1, b1⟩ := F.binds1 n 0 (by simp) (by simp [hl]) h1
  cases r
  exact ⟨F, g, b, ⟨ds1, r1, b1⟩, tup0B_ok z⟩
abbrev Ok (P : Program) (w : World) (K : PySem.W.Frag) (mg : Str → Option Value) (base : Heap) (k : Nat) (x : Str) (ps : List Str) (sp : Sp) : Prop :=
  FnOk P w K mg base CX0 k (He.ga K x) (fdOf K (He.ga K x)) ps sp
abbrev OkM (P : Program) (w : World) (K : PySem.W.Frag) (mg : Str → Option Value) (base : Heap) (k : Nat) (C m : Str) (ps : List Str) (sp : Sp) : Prop :=
  FnOk P w K mg base CX0 k (He.ma K (He.ga K C) m) (fdOf K (He.ma K (He.ga K C) m)) ps sp
section
variable {X : Cx} {x C m qual : Str} {st : Stmt} {ps : List Str} {sp : Sp} {k : Nat} {p apos pos : Pos} {o e : Expr} {es : List Expr} {t : TA} {ta : TE}
/-- a call of a def of the top -/
theorem pe_cl (d : D1 X.K X.mg x st ps) (ok : Ok X.prog X.w X.K X.mg X.base k x ps sp) (hr : Room k X.A) (ha : PA X (e :: es) t) (hg : Gl X x := by rfl)
    (hdb : (x == ("__debug__" : Str)) = false := by decide) (he : starEach (e :: es) X.env = (false, eval e X.env) :: starEach es X.env := by rfl)
    (hpl : (backTo pos (starEach es X.env)).any (·.1) = false := by rfl) :
    PE X (.Call (.Name x p) (e :: es) [] pos) (tCall sp [] E0 t) :=
  pe_call ok hr hg d.g d.F.kp d.b .nil pass0 ha hdb he hpl
/-- a call of a def with the default (), all arguments written | the default left out -/
theorem pe_cld (d : Dd X.K X.mg x st ps) (ok : Ok X.prog X.w X.K X.mg X.base k x ps sp) (hr : Room k X.A) (ha : PA X (e :: es) t) (hg : Gl X x := by rfl)
    (hdb : (x == ("__debug__" : Str)) = false := by decide) (he : starEach (e :: es) X.env = (false, eval e X.env) :: starEach es X.env := by rfl)
    (hpl : (backTo pos (starEach es X.env)).any (·.1) = false := by rfl) :
    PE X (.Call (.Name x p) (e :: es) [] pos) (tCall sp [] E0 t) :=
  pe_call ok hr hg d.g d.F.kp d.b .nil pass0 ha hdb he hpl
theorem pe_cl1 (d : Dd X.K X.mg x st ps) (ok : Ok X.prog X.w X.K X.mg X.base k x ps sp) (hr : Room k X.A) (ha : PA X (e :: es) t) (hg : Gl X x := by rfl)
    (hdb : (x == ("__debug__" : Str)) = false := by decide) (he : starEach (e :: es) X.env = (false, eval e X.env) :: starEach es X.env := by rfl)
    (hpl : (backTo pos (starEach es X.env)).any (·.1) = false := by rfl) :
    PE X (.Call (.Name x p) (e :: es) [] pos) (tCall sp [.ref (He.dflAt (x, none) 0 X.K)] E0 t) := by
  obtain ⟨ds, r, b⟩ := d.b1
  exact pe_call ok hr hg d.g d.F.kp b r pass0 ha hdb he hpl
theorem pe_me {pl : Sem Bool} (M : M1 X.K C m qual st ps) (ok : OkM X.prog X.w X.K X.mg X.base k C m ps sp) (hr : Room k X.A) (ho : PE X o ta) (ha : PA X (e :: es) t)
    (hst : starEach (e :: es) X.env = (false, eval e X.env) :: starEach es X.env := by rfl) (hpl : (backTo pos (starEach es X.env)).any (·.1) = false := by rfl)
    (ht : eval (.Call (.Attribute o m apos) (e :: es) [] pos) X.env = (do
      let ov ← eval o X.env
      standAt apos.atName
      let (f, first) ← holding [ov] (getMethod ov m pl)
      callWith pos f first (backTo pos (starEach (e :: es) X.env)) (backToKw pos (keywordEach [] X.env))) := by rfl) :
    PE X (.Call (.Attribute o m apos) (e :: es) [] pos) (tMeth (He.ga X.K C) m sp [] E0 ta t) :=
  pe_meth ho M.c M.me ok hr M.b .nil pass0 ha hst hpl ht
theorem pe_me0 {pl : Sem Bool} (M : M1 X.K C m qual st ps) (ok : OkM X.prog X.w X.K X.mg X.base k C m ps sp) (hr : Room k X.A) (ho : PE X o ta)
    (ht : eval (.Call (.Attribute o m apos) [] [] pos) X.env = (do
      let ov ← eval o X.env
      standAt apos.atName
      let (f, first) ← holding [ov] (getMethod ov m pl)
      callWith pos f first (backTo pos (starEach [] X.env)) (backToKw pos (keywordEach [] X.env))) := by rfl) :
    PE X (.Call (.Attribute o m apos) [] [] pos) (tMeth (He.ga X.K C) m sp [] E0 ta tNil) :=
  pe_meth0 ho M.c M.me ok hr M.b .nil pass0 ht
theorem pe_mk (M : K1 X.K X.mg C qual st ps) (ok : OkM X.prog X.w X.K X.mg X.base k C "__init__" ps sp) (hr : Room (k + 1) X.A) (ha : PA X (e :: es) t) (hg : Gl X C := by rfl) (hdb : (C == ("__debug__" : Str)) = false := by decide)
    (he : starEach (e :: es) X.env = (false, eval e X.env) :: starEach es X.env := by rfl) (hpl : (backTo pos (starEach es X.env)).any (·.1) = false := by rfl) :
    PE X (.Call (.Name C p) (e :: es) [] pos) (tMake (He.ga X.K C) sp [] E0 t) :=
  pe_make M.mkr ok hr hg M.g M.b .nil pass0 ha hdb he hpl
theorem pe_mk0 (M : K1 X.K X.mg C qual st ps) (ok : OkM X.prog X.w X.K X.mg X.base k C "__init__" ps sp) (hr : Room (k + 1) X.A) (hg : Gl X C := by rfl) (hdb : (C == ("__debug__" : Str)) = false := by decide) :
    PE X (.Call (.Name C p) [] [] pos) (tMake (He.ga X.K C) sp [] E0 tNil) :=
  pe_make0 M.mkr ok hr hg M.g M.b .nil pass0 hdb
end
/-! ### tests -/
section
variable {c A B : Prop} [Decidable c]
theorem ifP (h : c) (a : A) : if decide c = true then A else B := by rw [if_pos (decide_eq_true h)]; exact a
theorem ifN (h : ¬ c) (b : B) : if decide c = true then A else B := by rw [if_neg (by simpa using h)]; exact b
theorem ifD (h1 : c → A) (h2 : ¬ c → B) : if decide c = true then A else B := by
  by_cases h : c
  · exact ifP h (h1 h)
  · exact ifN h (h2 h)
theorem ifnP (h : c) (b : B) : if (!decide c) = true then A else B := by rw [if_neg (by simpa using h)]; exact b
theorem ifnN (h : ¬ c) (a : A) : if (!decide c) = true then A else B := by rw [if_pos (by simpa using h)]; exact a
theorem ifnD (h1 : ¬ c → A) (h2 : c → B) : if (!decide c) = true then A else B := by
  by_cases h : c
  · exact ifnP h (h2 h)
  · exact ifnN h (h1 h)
theorem ifB {b : Bool} (h1 : b = true → A) (h2 : b = false → B) : if b = true then A else B := by
  cases b
  · rw [if_neg Bool.false_ne_true]; exact h2 rfl
  · rw [if_pos rfl]; exact h1 rfl
end
def top (i : Nat) : Stmt := PySem.Challenge.pw_tongues_k25_formulas_without_rings.main.body.getD i (.Pass ⟨0, 0, 0, 0⟩)
abbrev s_is_name : Stmt := top 11
theorem sc_is_name : FnScope ["text", "letter"] ["text"] (defScope s_is_name) := ⟨rfl, rfl, rfl, by decide +kernel, rfl, by decide +kernel, by decide +kernel⟩
abbrev s_is_in_range : Stmt := top 12
theorem sc_is_in_range : FnScope ["value"] ["value"] (defScope s_is_in_range) := ⟨rfl, rfl, rfl, by decide +kernel, rfl, by decide +kernel, by decide +kernel⟩
abbrev s_check_formula : Stmt := top 13
theorem sc_check_formula : FnScope ["formula", "way"] ["formula", "way"] (defScope s_check_formula) := ⟨rfl, rfl, rfl, by decide +kernel, rfl, by decide +kernel, by decide +kernel⟩
abbrev s_check_parts : Stmt := top 14
theorem sc_check_parts : FnScope ["formula", "way", "place"] ["formula", "way"] (defScope s_check_parts) := ⟨rfl, rfl, rfl, by decide +kernel, rfl, by decide +kernel, by decide +kernel⟩
abbrev s_limited : Stmt := top 15
theorem sc_limited : FnScope ["number"] ["number"] (defScope s_limited) := ⟨rfl, rfl, rfl, by decide +kernel, rfl, by decide +kernel, by decide +kernel⟩
abbrev s_together : Stmt := top 16
theorem sc_together : FnScope ["word", "one", "other"] ["word", "one", "other"] (defScope s_together) := ⟨rfl, rfl, rfl, by decide +kernel, rfl, by decide +kernel, by decide +kernel⟩
abbrev s_worth : Stmt := top 17
theorem sc_worth : FnScope ["formula", "asking", "word", "first", "second"] ["formula", "asking"] (defScope s_worth) := ⟨rfl, rfl, rfl, by decide +kernel, rfl, by decide +kernel, by decide +kernel⟩
abbrev s__law_pool : Stmt := top 28
theorem sc__law_pool : FnScope ["_law_script", "_law_cell"] ["_law_script"] (defScope s__law_pool) := ⟨rfl, rfl, rfl, by decide +kernel, rfl, by decide +kernel, by decide +kernel⟩
abbrev s__law_take : Stmt := top 29
theorem sc__law_take : FnScope ["_law_pool_here", "_law_many", "_law_digit", "_law_cell", "_law_mixed"] ["_law_pool_here", "_law_many"] (defScope s__law_take) := ⟨rfl, rfl, rfl, by decide +kernel, rfl, by decide +kernel, by decide +kernel⟩
abbrev s__law_same : Stmt := top 30
theorem sc__law_same : FnScope ["_law_actual", "_law_due", "_law_k"] ["_law_actual", "_law_due"] (defScope s__law_same) := ⟨rfl, rfl, rfl, by decide +kernel, rfl, by decide +kernel, by decide +kernel⟩
abbrev s__law_names : Stmt := top 31
theorem sc__law_names : FnScope ["_law_pool_here", "_law_many", "_law_words", "_law_names_here", "_law_k", "_law_size", "_law_name", "_law_letter", "_law_place"] ["_law_pool_here", "_law_many"] (defScope s__law_names) := ⟨rfl, rfl, rfl, by decide +kernel, rfl, by decide +kernel, by decide +kernel⟩
abbrev s__law_value : Stmt := top 32
theorem sc__law_value : FnScope ["_law_pool_here", "_law_kind"] ["_law_pool_here"] (defScope s__law_value) := ⟨rfl, rfl, rfl, by decide +kernel, rfl, by decide +kernel, by decide +kernel⟩
abbrev s__law_formula : Stmt := top 33
theorem sc__law_formula : FnScope ["_law_pool_here", "_law_names_here", "_law_depth", "_law_kind", "_law_head", "_law_parts", "_law_k"] ["_law_pool_here", "_law_names_here", "_law_depth"] (defScope s__law_formula) := ⟨rfl, rfl, rfl, by decide +kernel, rfl, by decide +kernel, by decide +kernel⟩
abbrev s__law_sum : Stmt := top 34
theorem sc__law_sum : FnScope ["_law_word", "_law_one", "_law_other", "_law_total"] ["_law_word", "_law_one", "_law_other"] (defScope s__law_sum) := ⟨rfl, rfl, rfl, by decide +kernel, rfl, by decide +kernel, by decide +kernel⟩
abbrev s__law_next : Stmt := top 35
theorem sc__law_next : FnScope ["_law_formula_here", "_law_told", "_law_used", "_law_first", "_law_word", "_law_second"] ["_law_formula_here", "_law_told", "_law_used"] (defScope s__law_next) := ⟨rfl, rfl, rfl, by decide +kernel, rfl, by decide +kernel, by decide +kernel⟩
abbrev s__law_worth : Stmt := top 36
theorem sc__law_worth : FnScope ["_law_state", "_law_name", "_law_rule"] ["_law_state", "_law_name"] (defScope s__law_worth) := ⟨rfl, rfl, rfl, by decide +kernel, rfl, by decide +kernel, by decide +kernel⟩
abbrev s__law_go_on : Stmt := top 37
theorem sc__law_go_on : FnScope ["_law_state", "_law_name", "_law_reads", "_law_turn", "_law_told", "_law_answers", "_law_worth_here", "_law_pair"] ["_law_state", "_law_name"] (defScope s__law_go_on) := ⟨rfl, rfl, rfl, by decide +kernel, rfl, by decide +kernel, by decide +kernel⟩
abbrev s__law_rings : Stmt := top 38
theorem sc__law_rings : FnScope ["_law_asked", "_law_found", "_law_name", "_law_at", "_law_turn"] ["_law_asked"] (defScope s__law_rings) := ⟨rfl, rfl, rfl, by decide +kernel, rfl, by decide +kernel, by decide +kernel⟩
abbrev s__law_from_nothing : Stmt := top 39
theorem sc__law_from_nothing : FnScope ["_law_rules", "_law_formulas", "_law_state", "_law_reads", "_law_last", "_law_answers", "_law_name", "_law_turn", "_law_asked", "_law_before", "_law_other"] ["_law_rules"] (defScope s__law_from_nothing) := ⟨rfl, rfl, rfl, by decide +kernel, rfl, by decide +kernel, by decide +kernel⟩
abbrev s_law : Stmt := top 40
theorem sc_law : FnScope ["_law_script", "_law_pool_here", "_law_names_here", "_law_cells", "_law_rules", "_law_k", "_law_name", "_law_rule", "_law_state", "_law_turn"] ["_law_script"] (defScope s_law) := ⟨rfl, rfl, rfl, by decide +kernel, rfl, by decide +kernel, by decide +kernel⟩
abbrev s_Asking_told : Stmt := inClass (top 23) 1
theorem sc_Asking_told : FnScope ["self", "name", "answer"] ["self", "name"] (defScope s_Asking_told) := ⟨rfl, rfl, rfl, by decide +kernel, rfl, by decide +kernel, by decide +kernel⟩
abbrev s_Asking_is_same : Stmt := inClass (top 23) 2
theorem sc_Asking_is_same : FnScope ["self", "memo", "name", "answer"] ["self", "memo"] (defScope s_Asking_is_same) := ⟨rfl, rfl, rfl, by decide +kernel, rfl, by decide +kernel, by decide +kernel⟩
abbrev s_Cells__set : Stmt := inClass (top 26) 2
theorem sc_Cells__set : FnScope ["self", "name", "rule"] ["self", "name", "rule"] (defScope s_Cells__set) := ⟨rfl, rfl, rfl, by decide +kernel, rfl, by decide +kernel, by decide +kernel⟩
abbrev s_Cells__change : Stmt := inClass (top 26) 3
theorem sc_Cells__change : FnScope ["self", "name"] ["self", "name"] (defScope s_Cells__change) := ⟨rfl, rfl, rfl, by decide +kernel, rfl, by decide +kernel, by decide +kernel⟩
abbrev s_Cells_put : Stmt := inClass (top 26) 4
theorem sc_Cells_put : FnScope ["self", "name", "value"] ["self", "name", "value"] (defScope s_Cells_put) := ⟨rfl, rfl, rfl, by decide +kernel, rfl, by decide +kernel, by decide +kernel⟩
abbrev s_Cells_define : Stmt := inClass (top 26) 5
theorem sc_Cells_define : FnScope ["self", "name", "formula"] ["self", "name", "formula"] (defScope s_Cells_define) := ⟨rfl, rfl, rfl, by decide +kernel, rfl, by decide +kernel, by decide +kernel⟩
abbrev s_Cells_ask : Stmt := inClass (top 26) 7
theorem sc_Cells_ask : FnScope ["self", "name"] ["self", "name"] (defScope s_Cells_ask) := ⟨rfl, rfl, rfl, by decide +kernel, rfl, by decide +kernel, by decide +kernel⟩
abbrev s_Cells_answer : Stmt := inClass (top 26) 8
theorem sc_Cells_answer : FnScope ["self", "name", "rule"] ["self", "name"] (defScope s_Cells_answer) := ⟨rfl, rfl, rfl, by decide +kernel, rfl, by decide +kernel, by decide +kernel⟩
abbrev s_Cells__answered : Stmt := inClass (top 26) 9
theorem sc_Cells__answered : FnScope ["self", "name", "formula", "asking", "answer", "ring"] ["self", "name", "formula"] (defScope s_Cells__answered) := ⟨rfl, rfl, rfl, by decide +kernel, rfl, by decide +kernel, by decide +kernel⟩
abbrev s_Cells__evaluated : Stmt := inClass (top 26) 10
theorem sc_Cells__evaluated : FnScope ["self", "asking", "formula", "memo"] ["self", "asking", "formula"] (defScope s_Cells__evaluated) := ⟨rfl, rfl, rfl, by decide +kernel, rfl, by decide +kernel, by decide +kernel⟩
abbrev s_Cells__close : Stmt := inClass (top 26) 11
theorem sc_Cells__close : FnScope ["self", "asking", "answer"] ["self", "asking", "answer"] (defScope s_Cells__close) := ⟨rfl, rfl, rfl, by decide +kernel, rfl, by decide +kernel, by decide +kernel⟩
abbrev s_Cells_reads : Stmt := inClass (top 26) 13
theorem sc_Cells_reads : FnScope ["self", "name", "memo"] ["self", "name"] (defScope s_Cells_reads) := ⟨rfl, rfl, rfl, by decide +kernel, rfl, by decide +kernel, by decide +kernel⟩
abbrev s_Asking___init__ : Stmt := inClass (top 23) 0
theorem sc_Asking___init__ : FnScope ["self", "cells", "name"] ["self", "cells", "name"] (defScope s_Asking___init__) := ⟨rfl, rfl, rfl, by decide +kernel, rfl, by decide +kernel, by decide +kernel⟩
abbrev s_Memo___init__ : Stmt := inClass (top 24) 0
theorem sc_Memo___init__ : FnScope ["self", "reads", "last", "answer"] ["self", "reads", "last", "answer"] (defScope s_Memo___init__) := ⟨rfl, rfl, rfl, by decide +kernel, rfl, by decide +kernel, by decide +kernel⟩
abbrev s_Revision___init__ : Stmt := inClass (top 25) 0
theorem sc_Revision___init__ : FnScope ["self"] ["self"] (defScope s_Revision___init__) := ⟨rfl, rfl, rfl, by decide +kernel, rfl, by decide +kernel, by decide +kernel⟩
abbrev s_Cells___init__ : Stmt := inClass (top 26) 0
theorem sc_Cells___init__ : FnScope ["self"] ["self"] (defScope s_Cells___init__) := ⟨rfl, rfl, rfl, by decide +kernel, rfl, by decide +kernel, by decide +kernel⟩
structure Facts (w : World) (K : PySem.W.Frag) (mg : Str → Option Value) : Prop where
  d_is_name : D1 K mg "is_name" s_is_name ["text"]
  d_is_in_range : D1 K mg "is_in_range" s_is_in_range ["value"]
  d_check_formula : Dd K mg "check_formula" s_check_formula ["formula", "way"]
  d_check_parts : D1 K mg "check_parts" s_check_parts ["formula", "way"]
  d_limited : D1 K mg "limited" s_limited ["number"]
  d_together : D1 K mg "together" s_together ["word", "one", "other"]
  d_worth : D1 K mg "worth" s_worth ["formula", "asking"]
  d__law_pool : D1 K mg "_law_pool" s__law_pool ["_law_script"]
  d__law_take : D1 K mg "_law_take" s__law_take ["_law_pool_here", "_law_many"]
  d__law_same : D1 K mg "_law_same" s__law_same ["_law_actual", "_law_due"]
  d__law_names : D1 K mg "_law_names" s__law_names ["_law_pool_here", "_law_many"]
  d__law_value : D1 K mg "_law_value" s__law_value ["_law_pool_here"]
  d__law_formula : D1 K mg "_law_formula" s__law_formula ["_law_pool_here", "_law_names_here", "_law_depth"]
  d__law_sum : D1 K mg "_law_sum" s__law_sum ["_law_word", "_law_one", "_law_other"]
  d__law_next : D1 K mg "_law_next" s__law_next ["_law_formula_here", "_law_told", "_law_used"]
  d__law_worth : D1 K mg "_law_worth" s__law_worth ["_law_state", "_law_name"]
  d__law_go_on : D1 K mg "_law_go_on" s__law_go_on ["_law_state", "_law_name"]
  d__law_rings : D1 K mg "_law_rings" s__law_rings ["_law_asked"]
  d__law_from_nothing : D1 K mg "_law_from_nothing" s__law_from_nothing ["_law_rules"]
  d_law : D1 K mg "law" s_law ["_law_script"]
  m_Asking_told : M1 K "Asking" "told" "Asking.told" s_Asking_told ["self", "name"]
  m_Asking_is_same : M1 K "Asking" "is_same" "Asking.is_same" s_Asking_is_same ["self", "memo"]
  m_Cells__set : M1 K "Cells" "_set" "Cells._set" s_Cells__set ["self", "name", "rule"]
  m_Cells__change : M1 K "Cells" "_change" "Cells._change" s_Cells__change ["self", "name"]
  m_Cells_put : M1 K "Cells" "put" "Cells.put" s_Cells_put ["self", "name", "value"]
  m_Cells_define : M1 K "Cells" "define" "Cells.define" s_Cells_define ["self", "name", "formula"]
  m_Cells_ask : M1 K "Cells" "ask" "Cells.ask" s_Cells_ask ["self", "name"]
  m_Cells_answer : M1 K "Cells" "answer" "Cells.answer" s_Cells_answer ["self", "name"]
  m_Cells__answered : M1 K "Cells" "_answered" "Cells._answered" s_Cells__answered ["self", "name", "formula"]
  m_Cells__evaluated : M1 K "Cells" "_evaluated" "Cells._evaluated" s_Cells__evaluated ["self", "asking", "formula"]
  m_Cells__close : M1 K "Cells" "_close" "Cells._close" s_Cells__close ["self", "asking", "answer"]
  m_Cells_reads : M1 K "Cells" "reads" "Cells.reads" s_Cells_reads ["self", "name"]
  k_Asking : K1 K mg "Asking" "Asking.__init__" s_Asking___init__ ["self", "cells", "name"]
  n_Asking_cells : NoAttr K (He.ga K "Asking") "cells"
  n_Asking_name : NoAttr K (He.ga K "Asking") "name"
  n_Asking_reads : NoAttr K (He.ga K "Asking") "reads"
  n_Asking_last : NoAttr K (He.ga K "Asking") "last"
  k_Memo : K1 K mg "Memo" "Memo.__init__" s_Memo___init__ ["self", "reads", "last", "answer"]
  n_Memo_reads : NoAttr K (He.ga K "Memo") "reads"
  n_Memo_last : NoAttr K (He.ga K "Memo") "last"
  n_Memo_answer : NoAttr K (He.ga K "Memo") "answer"
  k_Revision : K1 K mg "Revision" "Revision.__init__" s_Revision___init__ ["self"]
  n_Revision_answers : NoAttr K (He.ga K "Revision") "answers"
  n_Revision_run : NoAttr K (He.ga K "Revision") "run"
  n_Revision_kept : NoAttr K (He.ga K "Revision") "kept"
  n_Revision_cyclic : NoAttr K (He.ga K "Revision") "cyclic"
  k_Cells : K1 K mg "Cells" "Cells.__init__" s_Cells___init__ ["self"]
  n_Cells__rules : NoAttr K (He.ga K "Cells") "_rules"
  n_Cells__memos : NoAttr K (He.ga K "Cells") "_memos"
  n_Cells__open : NoAttr K (He.ga K "Cells") "_open"
  n_Cells__revision : NoAttr K (He.ga K "Cells") "_revision"
  b_isinstance : mg "isinstance" = none
  b_tuple : mg "tuple" = none
  b_range : mg "range" = none
  b_max : mg "max" = none
  b_min : mg "min" = none
  b_str : mg "str" = none
  b_all : mg "all" = none
  b_len : mg "len" = none
  b_int : mg "int" = none
  b_list : mg "list" = none
  b_bool : mg "bool" = none
  g_MOST : ∃ t, mg "MOST" = some (.int 1000000 t)
  g_MOST_DEPTH : ∃ t, mg "MOST_DEPTH" = some (.int 6 t)
  g_LENGTHS : mg "LENGTHS" = some (.ref (He.ga K "LENGTHS"))
  t_LENGTHS : ∃ es n, KDict K w (He.ga K "LENGTHS") es n
  v_LENGTHS : He.valsB K (He.ga K "LENGTHS") [("plus", .int 3), ("least", .int 3), ("or", .int 3), ("if", .int 4), ("cyclic", .int 2)] = true
  g_LETTERS : ∃ t, mg "LETTERS" = some (.str "abcdefghijklmnopqrstuvwxyz" t)
  g_MOST_CELLS : ∃ t, mg "MOST_CELLS" = some (.int 24 t)
theorem Facts.e_MOST {X : Cx} {pos : Pos} (T : Facts X.w X.K X.mg) (hg : Gl X "MOST") : PE X (.Name "MOST" pos) (tC (.int 1000000)) := by
  obtain ⟨t, e⟩ := T.g_MOST
  exact pe_glob hg e ⟨t, rfl⟩
theorem Facts.e_MOST_DEPTH {X : Cx} {pos : Pos} (T : Facts X.w X.K X.mg) (hg : Gl X "MOST_DEPTH") : PE X (.Name "MOST_DEPTH" pos) (tC (.int 6)) := by
  obtain ⟨t, e⟩ := T.g_MOST_DEPTH
  exact pe_glob hg e ⟨t, rfl⟩
theorem Facts.e_LENGTHS {X : Cx} {pos : Pos} (T : Facts X.w X.K X.mg) (hg : Gl X "LENGTHS") : PE X (.Name "LENGTHS" pos) (tC (.ref (He.ga X.K "LENGTHS"))) := pe_glob hg T.g_LENGTHS rfl
theorem Facts.e_LETTERS {X : Cx} {pos : Pos} (T : Facts X.w X.K X.mg) (hg : Gl X "LETTERS") : PE X (.Name "LETTERS" pos) (tC (.str "abcdefghijklmnopqrstuvwxyz")) := by
  obtain ⟨t, e⟩ := T.g_LETTERS
  exact pe_glob hg e ⟨t, rfl⟩
theorem Facts.e_MOST_CELLS {X : Cx} {pos : Pos} (T : Facts X.w X.K X.mg) (hg : Gl X "MOST_CELLS") : PE X (.Name "MOST_CELLS" pos) (tC (.int 24)) := by
  obtain ⟨t, e⟩ := T.g_MOST_CELLS
  exact pe_glob hg e ⟨t, rfl⟩
end Q

namespace Q
open PySem PySem.Spec PyProof.Rows L2
/-! ### heaps: what is kept -/
/-- what never changes -/
def Still : HO → Prop
  | .tup _ => True
  | .frz _ _ => True
  | _ => False
theorem Still.mut {o : HO} (h : Still o) : ¬ Mut (some o) := by cases o <;> first | exact fun z => z | exact h.elim
/-- all that was tracked is as it was, but at the addresses of M; tuples and what is locked in any case -/
structure Keep (M : List Addr) (H H' : Hp) : Prop where
  k : ∀ a o, a ∉ M → H a = some o → H' a = some o
  t : ∀ a o, Still o → H a = some o → H' a = some o
  n : ∀ a, H' a = none → H a = none
section
variable {M M' : List Addr} {H H1 H2 : Hp} {p : Addr} {o : HO} {K : PySem.W.Frag} {xs : List V}
theorem Keep.refl : Keep M H H := ⟨fun _ _ _ h => h, fun _ _ _ h => h, fun _ h => h⟩
theorem Keep.trans (a : Keep M H H1) (b : Keep M H1 H2) : Keep M H H2 := ⟨fun c o n h => b.k c o n (a.k c o n h), fun c o s h => b.t c o s (a.t c o s h), fun c h => a.n c (b.n c h)⟩
theorem Keep.mono (a : Keep M H H1) (h : ∀ x ∈ M, x ∈ M') : Keep M' H H1 := ⟨fun c o n e => a.k c o (fun z => n (h c z)) e, a.t, a.n⟩
theorem Keep.of0 (a : Keep [] H H1) : Keep M H H1 := a.mono fun _ z => nomatch z
theorem upd_none {q : Addr} (h : L2.upd H p o q = none) : H q = none := by
  by_cases z : q = p
  · rw [z, upd_same] at h; cases h
  · rw [upd_ne z] at h; exact h
/-- an object of M is written -/
theorem Keep.upd (a : Keep M H H1) (h : p ∈ M) (mu : Mut (H1 p)) : Keep M H (L2.upd H1 p o) := ⟨fun c u n e => by
  rw [upd_ne (fun z => n (by rw [z]; exact h))]
  exact a.k c u n e, fun c u s e => by
  have e1 := a.t c u s e
  have n : c ≠ p := fun z => by
    rw [z] at e1
    rw [e1] at mu
    exact s.mut mu
  rw [upd_ne n]
  exact e1, fun c e => a.n c (upd_none e)⟩
/-- an object that is new since H is laid, or written -/
theorem Keep.new (a : Keep M H H1) (h : H p = none) : Keep M H (L2.upd H1 p o) := ⟨fun c u n e => by
  rw [upd_ne (ne_of_none e h)]
  exact a.k c u n e, fun c u s e => by
  rw [upd_ne (ne_of_none e h)]
  exact a.t c u s e, fun c e => a.n c (upd_none e)⟩
/-- what is new need not be named -/
theorem Keep.drop (a : Keep (p :: M) H H1) (h : H p = none) : Keep M H H1 := ⟨fun c u n e => a.k c u (fun z => by
  rcases List.mem_cons.mp z with z | z
  · rw [z, h] at e; cases e
  · exact n z) e, a.t, a.n⟩
theorem Keep.tup (a : Keep M H H1) (h : SqT K H p xs) : SqT K H1 p xs := by
  rcases h with (h | ⟨o, h⟩) | h
  · exact .inl (.inl (a.t _ _ trivial h))
  · exact .inl (.inr ⟨o, a.t _ _ trivial h⟩)
  · exact .inr h
theorem Keep.lst (a : Keep M H H1) (h : SqL K H p xs) (n : p ∉ M) : SqL K H1 p xs := by
  rcases h with (h | ⟨o, h⟩) | h
  · exact .inl (.inl (a.k _ _ n h))
  · exact .inl (.inr ⟨o, a.t _ _ trivial h⟩)
  · exact .inr h
end
/-! ### the pool of numbers -/
structure PoolAt (H : Hp) (p c : Addr) : Prop where
  at_ : ∃ (i d m : Int), H p = some (.lst [.ref c, .int i, .int d, .int m]) ∧ 0 ≤ i ∧ 0 ≤ d ∧ (0 ≤ m ∧ m < 2147483647)
  cs : ∃ cs : List Int, H c = some (.lst (cs.map V.int)) ∧ ∀ x ∈ cs, 0 ≤ x
  ne : c ≠ p
theorem PoolAt.mut {H : Hp} {p c : Addr} (h : PoolAt H p c) : Mut (H p) := by
  obtain ⟨i, d, m, h, _⟩ := h.at_
  rw [h]
  trivial
theorem PoolAt.thereP {H : Hp} {p c : Addr} (h : PoolAt H p c) : H p ≠ none := by
  obtain ⟨i, d, m, h, _⟩ := h.at_
  rw [h]
  exact fun z => by cases z
theorem PoolAt.thereC {H : Hp} {p c : Addr} (h : PoolAt H p c) : H c ≠ none := by
  obtain ⟨cs, h, _⟩ := h.cs
  rw [h]
  exact fun z => by cases z
/-- the pool stands where nothing of it is written -/
theorem PoolAt.keep {H H1 : Hp} {p c : Addr} {M : List Addr} (h : PoolAt H p c) (k : Keep M H H1) (hp : p ∉ M) (hc : c ∉ M) : PoolAt H1 p c := by
  obtain ⟨⟨i, d, m, h1, r⟩, ⟨cs, h2, r2⟩, ne⟩ := h
  exact ⟨⟨i, d, m, k.k _ _ hp h1, r⟩, ⟨cs, k.k _ _ hc h2, r2⟩, ne⟩
theorem PoolAt.keep0 {H H1 : Hp} {p c : Addr} (h : PoolAt H p c) (k : Keep [] H H1) : PoolAt H1 p c := h.keep k (by simp) (by simp)
theorem PoolAt.upd {H : Hp} {p c q : Addr} {o : HO} (h : PoolAt H p c) (hp : q ≠ p) (hc : q ≠ c) : PoolAt (L2.upd H q o) p c := by
  obtain ⟨⟨i, d, m, h1, r⟩, ⟨cs, h2, r2⟩, ne⟩ := h
  exact ⟨⟨i, d, m, by rw [upd_ne hp.symm]; exact h1, r⟩, ⟨cs, by rw [upd_ne hc.symm]; exact h2, r2⟩, ne⟩
/-- .. an object that is new since H -/
theorem PoolAt.fresh {H H1 : Hp} {p c q : Addr} {o : HO} (h0 : PoolAt H p c) (h : PoolAt H1 p c) (hq : H q = none) : PoolAt (L2.upd H1 q o) p c :=
  h.upd (fun z => h0.thereP (by rw [← z]; exact hq)) (fun z => h0.thereC (by rw [← z]; exact hq))
def spTake : Sp := fun vs H Q _ => ∃ (p c : Addr) (n : Int), vs = [.ref p, .int n] ∧ PoolAt H p c ∧ (0 < n ∧ n < 1073741824) ∧ ∀ (r : Int) (H' : Hp), 0 ≤ r → r < n → PoolAt H' p c → Keep [p] H H' → Q (.int r) H'
/-- where something is left of a great number -/
def spTake0 : Sp := fun vs H Q _ => ∃ (p c : Addr) (i d m n : Int), vs = [.ref p, .int n] ∧ H p = some (.lst [.ref c, .int i, .int d, .int m]) ∧ 0 < d ∧ (0 < n ∧ n < 1073741824) ∧ Q (.int (d % n)) (upd H p (.lst [.ref c, .int i, .int (d / n), .int m]))
section
variable {P : Program} {w : World} {K : PySem.W.Frag} {mg : Str → Option Value} {base : Heap}
theorem ok_take0 (T : Facts w K mg) : Ok P w K mg base 1 "_law_take" ["_law_pool_here", "_law_many"] spTake0 := by
  refine T.d__law_take.F.ok sc__law_take (fun vs H Q E h => ?_) (fun cdv A outer s H vs Q E hr h => ?_)
  · obtain ⟨p, c, i, d, m, n, rfl, _⟩ := h
    rfl
  · obtain ⟨p, c, i, d, m, n, rfl, hp, hd, hn, k⟩ := h
    refine ⟨_, PSs.nox (pss_cons (ps_if (pt_cmpR op_gt (pe_ix ix_list (pv 0) pe_int (fun _ _ => rfl)) pe_int (nomark _)) (pss_cons (ps_set (i := 2) sc__law_take.nd rfl (Or.inl rfl) (pe_op op_mod (pe_callTy call_int1 (by rfl) T.b_int (by decide +kernel) (pa_cons (pe_ix ix_list (pv 0) pe_int (fun _ _ => rfl)) pa_nil)) (pv 1))) 
      (pss_cons (ps_asg (pe_op op_fdiv (pe_ix ix_list (pv 0) pe_int (fun _ _ => rfl)) (pv 1)) (pg_sub (pv 0) pe_int set_list)) 
      (pss_one (ps_ret (pv 2))))) pss_nil) 
      pss_never), ?_⟩
    refine ⟨_, rfl, _, _, _, _, rfl, rfl, SqL.of hp, rfl, _, _, rfl, rfl, _, rfl, ifP hd ?_⟩
    refine ⟨_, rfl, _, _, _, _, rfl, rfl, SqL.of hp, rfl, .inl ⟨_, rfl, _, rfl, _, _, rfl, rfl, hn.1, ?_⟩⟩
    refine ⟨_, rfl, _, _, _, _, rfl, rfl, SqL.of hp, rfl, _, rfl, _, _, rfl, rfl, hn, _, rfl, _, _, _, _, rfl, rfl, hp, rfl, ?_⟩
    exact ⟨_, rfl, k⟩
theorem ok_take (T : Facts w K mg) : Ok P w K mg base 2 "_law_take" ["_law_pool_here", "_law_many"] spTake := by
  refine T.d__law_take.F.ok sc__law_take (fun vs H Q E h => ?_) (fun cdv A outer s H vs Q E hr h => ?_)
  · obtain ⟨p, c, n, rfl, _⟩ := h
    rfl
  · obtain ⟨p, c, n, rfl, ⟨⟨i, d, m, hp, hi, hd, hm⟩, ⟨cs, hc, hcs⟩, hcp⟩, hn, k⟩ := h
    refine ⟨_, PSs.nox (pss_cons (ps_if (pt_cmpR op_gt (pe_ix ix_list (pv 0) pe_int (fun _ _ => rfl)) pe_int (nomark _)) (pss_cons (ps_set (i := 2) sc__law_take.nd rfl (Or.inl rfl) (pe_op op_mod (pe_callTy call_int1 (by rfl) T.b_int (by decide +kernel) (pa_cons (pe_ix ix_list (pv 0) pe_int (fun _ _ => rfl)) pa_nil)) (pv 1))) 
      (pss_cons (ps_asg (pe_op op_fdiv (pe_ix ix_list (pv 0) pe_int (fun _ _ => rfl)) (pv 1)) (pg_sub (pv 0) pe_int set_list)) 
      (pss_one (ps_ret (pv 2))))) pss_nil) 
      (pss_cons (ps_set (i := 3) sc__law_take.nd rfl (Or.inl rfl) pe_int) 
      (C8.pss_cut ((ps_if (pt_cmpR op_lt (pe_ix ix_list (pv 0) pe_int (fun _ _ => rfl)) (pe_callB call_len_seq (by rfl) T.b_len PySem.boot_len (pa_cons (pe_ix ix_list (pv 0) pe_int (fun _ _ => rfl)) pa_nil)) (nomark _)) (pss_one (ps_set (i := 3) sc__law_take.nd rfl (Or.inl rfl) (pe_ix ix_list (pe_ix ix_list (pv 0) pe_int (fun _ _ => rfl)) (pe_ix ix_list (pv 0) pe_int (fun _ _ => rfl)) (fun _ _ => rfl)))) pss_nil)) 
      (pss_cons (ps_asg (pe_op op_add (pe_ix ix_list (pv 0) pe_int (fun _ _ => rfl)) pe_int) (pg_sub (pv 0) pe_int set_list)) 
      (pss_cons (ps_if (pt_cmpR op_ge (pv 3) (pe_op op_pow pe_int pe_int) (nomark _)) (pss_cons (ps_asg (pe_op op_fdiv (pv 3) pe_int) (pg_sub (pv 0) pe_int set_list)) 
      (pss_one (ps_ret (pe_cl T.d__law_take (ok_take0 T) (hr.mono (by decide)) (pa_cons (pv 0) (pa_cons (pv 1) pa_nil)))))) pss_nil) 
      (pss_cons (ps_asg (pe_op op_mod (pe_callTy call_int1 (by rfl) T.b_int (by decide +kernel) (pa_cons (pe_op op_add (pe_op op_add (pe_op op_mul (pe_ix ix_list (pv 0) pe_int (fun _ _ => rfl)) pe_int) (pe_op op_mul (pv 3) pe_int)) (pe_op op_mul (pe_ix ix_list (pv 0) pe_int (fun _ _ => rfl)) pe_int)) pa_nil)) pe_int) (pg_sub (pv 0) pe_int set_list)) 
      (pss_cons (ps_set (i := 4) sc__law_take.nd rfl (Or.inl rfl) (pe_op op_mod (pe_callTy call_int1 (by rfl) T.b_int (by decide +kernel) (pa_cons (pe_op op_add (pe_op op_add (pe_op op_mul (pe_ix ix_list (pv 0) pe_int (fun _ _ => rfl)) (pe_ix ix_list (pv 0) pe_int (fun _ _ => rfl))) (pe_op op_mul (pe_ix ix_list (pv 0) pe_int (fun _ _ => rfl)) pe_int)) pe_int) pa_nil)) pe_int)) 
      (pss_one (ps_ret (pe_op op_mod (pe_callTy call_int1 (by rfl) T.b_int (by decide +kernel) (pa_cons (pe_op op_fdiv (pv 4) pe_int) pa_nil)) (pv 1))))))))))), ?_⟩
    have hpc : ∀ o, (upd H p o) c = some (.lst (cs.map V.int)) := fun o => by rw [upd_ne hcp]; exact hc
    have mu : Mut (H p) := by rw [hp]; trivial
    have mu' : ∀ (H : Hp) (l : List V), Mut ((upd H p (.lst l)) p) := fun H l => by rw [upd_same]; trivial
    refine ⟨_, rfl, _, _, _, _, rfl, rfl, SqL.of hp, rfl, _, _, rfl, rfl, _, rfl, ifD (fun hd => ?_) (fun hd' => ?_)⟩
    · refine ⟨_, rfl, _, _, _, _, rfl, rfl, SqL.of hp, rfl, .inl ⟨_, rfl, _, rfl, _, _, rfl, rfl, hn.1, ?_⟩⟩
      refine ⟨_, rfl, _, _, _, _, rfl, rfl, SqL.of hp, rfl, _, rfl, _, _, rfl, rfl, hn, _, rfl, _, _, _, _, rfl, rfl, hp, rfl, ?_⟩
      exact ⟨_, rfl, k _ _ (Int.emod_nonneg _ (by omega)) (Int.emod_lt_of_pos _ hn.1) ⟨⟨i, d / n, m, upd_same, hi, Int.ediv_nonneg (by omega) (by omega), hm⟩, ⟨cs, hpc _, hcs⟩, hcp⟩ (Keep.refl.upd (by simp) mu)⟩
    · have hd0 : d = 0 := by omega
      subst hd0
      refine ⟨fun σ H' => H' = H ∧ ∃ x : Int, 0 ≤ x ∧ σ = [some (.ref p), some (.int n), none, some (.int x), none], ?_, ?_⟩
      · refine ⟨_, rfl, _, _, _, _, rfl, rfl, SqL.of hp, rfl, _, rfl, _, _, _, _, rfl, rfl, SqL.of hp, rfl, _, _, rfl, .inl (SqL.of hc), _, _, rfl, rfl, _, rfl, ifD (fun hl => ?_) (fun hl => ?_)⟩
        · have hi2 : i.toNat < (cs.map V.int).length := by omega
          have hi3 : i.toNat < cs.length := by simpa using hi2
          refine ⟨_, rfl, _, _, _, _, rfl, rfl, SqL.of hp, rfl, _, rfl, _, _, _, _, rfl, rfl, SqL.of hp, rfl, _, _, _, V.int cs[i.toNat], rfl, rfl, SqL.of hc, at_of (j := i.toNat) (by omega) (by rw [List.getElem?_map, List.getElem?_eq_getElem hi3]; rfl), ?_⟩
          exact ⟨rfl, _, hcs _ (List.getElem_mem hi3), rfl⟩
        · exact ⟨rfl, 0, Int.le_refl _, rfl⟩
      · rintro σ' H' ⟨rfl, x, hx, rfl⟩
        refine ⟨_, rfl, _, _, _, _, rfl, rfl, SqL.of hp, rfl, _, _, rfl, rfl, _, rfl, _, _, _, _, rfl, rfl, hp, rfl, ?_⟩
        refine ⟨_, rfl, _, _, rfl, rfl, ⟨by decide, by decide, by decide⟩, _, _, rfl, rfl, _, rfl, ifD (fun hb => ?_) (fun hb => ?_)⟩
        · have hx2 : (10 : Int) ^ (18 : Nat) ≤ x := hb
          refine ⟨_, rfl, _, _, rfl, rfl, ⟨by decide, by decide⟩, _, rfl, _, _, _, _, rfl, rfl, upd_same, rfl, ?_⟩
          refine ⟨_, rfl, _, rfl, p, c, i + 1, x / 2, m, n, rfl, upd_same, by omega, hn, ?_⟩
          refine k _ _ (Int.emod_nonneg _ (by omega)) (Int.emod_lt_of_pos _ hn.1) ⟨⟨i + 1, x / 2 / n, m, upd_same, by omega, Int.ediv_nonneg (by omega) (by omega), hm⟩, ⟨cs, ?_, hcs⟩, hcp⟩ (((Keep.refl.upd (by simp) mu).upd (by simp) (mu' _ _)).upd (by simp) (mu' _ _))
          rw [upd_ne hcp, upd_ne hcp, upd_ne hcp]
          exact hc
        · have h3 : ∀ m' : Int, PoolAt (upd (upd H' p (.lst [.ref c, .int (i + 1), .int 0, .int m])) p (.lst [.ref c, .int (i + 1), .int 0, .int (m' % 2147483647)])) p c := fun m' =>
            ⟨⟨i + 1, 0, m' % 2147483647, upd_same, by omega, by omega, ⟨Int.emod_nonneg _ (by decide), Int.emod_lt_of_pos _ (by decide)⟩⟩, ⟨cs, by rw [upd_ne hcp, upd_ne hcp]; exact hc, hcs⟩, hcp⟩
          refine ⟨_, rfl, _, _, _, _, rfl, rfl, SqL.of upd_same, rfl, _, _, rfl, rfl, .inl ⟨by omega, by omega⟩, _, rfl, _, _, rfl, rfl, .inr ⟨by decide, by decide⟩, _, _, rfl, rfl, _, rfl, _, _, _, _, rfl, rfl, SqL.of upd_same, rfl, _, _, rfl, rfl, .inr ⟨by decide, by decide⟩, _, _, rfl, rfl,
            .inl ⟨_, rfl, _, _, rfl, rfl, (by show (0 : Int) < 2147483647; decide), _, rfl, _, _, _, _, rfl, rfl, upd_same, rfl, ?_⟩⟩
          have h4 := h3 (m * 48271 + x * 69621 + (i + 1) * 613)
          have hm3 : 0 ≤ (m * 48271 + x * 69621 + (i + 1) * 613) % 2147483647 ∧ (m * 48271 + x * 69621 + (i + 1) * 613) % 2147483647 < 2147483647 := ⟨Int.emod_nonneg _ (by decide), Int.emod_lt_of_pos _ (by decide)⟩
          refine ⟨_, rfl, _, _, _, _, rfl, rfl, SqL.of upd_same, rfl, _, rfl, _, _, _, _, rfl, rfl, SqL.of upd_same, rfl, _, _, rfl, rfl, .inl ⟨by omega, by omega⟩, _, rfl, _, _, _, _, rfl, rfl, SqL.of upd_same, rfl, _, _, rfl, rfl, .inl ⟨by omega, by omega⟩, _, _, rfl, rfl, _, _, rfl, rfl,
            .inl ⟨_, rfl, _, _, rfl, rfl, (by show (0 : Int) < 1000000007; decide), ?_⟩⟩
          refine ⟨_, rfl, _, _, rfl, rfl, ⟨by decide, by decide⟩, .inl ⟨_, rfl, _, rfl, _, _, rfl, rfl, hn.1, ?_⟩⟩
          exact k _ _ (Int.emod_nonneg _ (by omega)) (Int.emod_lt_of_pos _ hn.1) h4 ((Keep.refl.upd (by simp) mu).upd (by simp) (mu' _ _))
end
end Q

namespace Q
open PySem PySem.Spec PyProof.Rows L2
theorem int_at {ns : List Int} {i : Nat} {x : V} (h : (ns.map V.int)[i]? = some x) : ∃ z, ns[i]? = some z ∧ x = .int z := by
  rw [List.getElem?_map] at h
  cases e : ns[i]? with
  | none => rw [e] at h; cases h
  | some z => rw [e] at h; exact ⟨z, rfl, (Option.some.inj h).symm⟩
theorem small63 {n : Nat} (h : n ≤ 63) : n < sizeLine := small1000 (by omega)
def spPool (K : PySem.W.Frag) : Sp := fun vs H Q _ => ∃ (a : Addr) (ns : List Int), vs = [.ref a] ∧ SqL K H a (ns.map V.int) ∧ ns.length ≤ 63 ∧ ∀ (p c : Addr) (H' : Hp), H p = none → H c = none → PoolAt H' p c → Keep [] H H' → Q (.ref p) H'
/-- None or an int within the range -/
def InR : V → Prop
  | .non => True
  | .int i => -1000000 ≤ i ∧ i ≤ 1000000
  | _ => False
def spValue : Sp := fun vs H Q _ => ∃ (p c : Addr), vs = [.ref p] ∧ PoolAt H p c ∧ ∀ (v : V) (H' : Hp), InR v → PoolAt H' p c → Keep [p] H H' → Q v H'
section
variable {P : Program} {w : World} {K : PySem.W.Frag} {mg : Str → Option Value} {base : Heap}
theorem ok_pool (T : Facts w K mg) : Ok P w K mg base 1 "_law_pool" ["_law_script"] (spPool K) := by
  refine T.d__law_pool.F.ok sc__law_pool (fun vs H Q E h => ?_) (fun cdv A outer s H vs Q E hr h => ?_)
  · obtain ⟨a, ns, rfl, _⟩ := h
    rfl
  · obtain ⟨a, ns, rfl, hS, hl, k⟩ := h
    refine ⟨_, PSs.nox (pss_one (ps_ret (pe_lst (pa_cons (pe_lc (own := [("_law_cell", 1)]) (g := gName 1) (by rfl) sc__law_pool.nd (pi_list (pv 0)) (blkOk_by (N := ["_law_script", "_law_cell"]) (sc := defScope s__law_pool) (own := [("_law_cell", 1)]) (by decide +kernel)) (fun _ _ _ _ _ => pg_name (i := 1) sc__law_pool.nd rfl (Or.inl rfl)) (fun _ _ _ _ _ => pts_nil) (fun _ _ _ _ _ => (pe_ifExp (pt_cmpR op_ge (pv 1) pe_int (nomark _)) (pe_op op_mul pe_int (pv 1)) (pe_op op_sub (pe_op op_mul (pe_un un_neg pe_int) (pv 1)) pe_int)))) (pa_cons pe_int (pa_cons pe_int (pa_cons pe_int pa_nil))))))), ?_⟩
    refine ⟨_, rfl, a, rfl, ⟨_, hS⟩, fun D hD => lc_list (K := K) (a := a) (xs := ns.map V.int) (fun i H' => ∃ cs : List Int, H' D = some (.lst (cs.map V.int)) ∧ cs.length = i ∧ (∀ x ∈ cs, 0 ≤ x) ∧ Keep [] H H')
      ⟨[], upd_same, rfl, by simp, Keep.refl.new hD⟩ (fun i H' _ ⟨_, _, _, _, kp⟩ => kp.lst hS (by simp)) ?_ ?_⟩
    · rintro i x H' hi ⟨cs, h1, h2, h3, kp⟩
      have hil : i < (ns.map V.int).length := (List.getElem?_eq_some_iff.mp hi).1
      rw [List.length_map] at hil
      obtain ⟨z, _, rfl⟩ := int_at hi
      refine ⟨rfl, ?_⟩
      have fin : ∀ y : Int, 0 ≤ y → ∃ acc, H' D = some (.lst acc) ∧ acc.length < sizeLine ∧ ∃ cs : List Int, (upd H' D (.lst (acc ++ [.int y]))) D = some (.lst (cs.map V.int)) ∧ cs.length = i + 1 ∧ (∀ x ∈ cs, 0 ≤ x) ∧ Keep [] H (upd H' D (.lst (acc ++ [.int y]))) := fun y hy =>
        ⟨_, h1, by rw [List.length_map]; exact small63 (by omega), cs ++ [y], by rw [upd_same, List.map_append]; rfl, by simp [h2], fun x hx => by
          rcases List.mem_append.mp hx with q | q
          · exact h3 x q
          · rw [List.mem_singleton.mp q]; exact hy, kp.new hD⟩
      refine ⟨_, rfl, _, _, rfl, rfl, _, rfl, ifD (fun h => ?_) (fun h => ?_)⟩
      · exact ⟨_, rfl, _, _, rfl, rfl, .inl ⟨by decide, by decide⟩, fin _ (by omega)⟩
      · exact ⟨_, rfl, _, rfl, _, _, rfl, rfl, .inl ⟨by decide, by decide⟩, _, _, rfl, rfl, fin _ (by omega)⟩
    · rintro H' ⟨cs, h1, h2, h3, kp⟩
      refine ⟨by show 4 ≤ sizeLine; decide, fun p hp => ?_⟩
      have hDp : D ≠ p := ne_of_none h1 hp
      exact k p D _ (kp.n p hp) hD ⟨⟨0, 0, 17, upd_same, by decide, by decide, ⟨by decide, by decide⟩⟩, ⟨cs, by rw [upd_ne hDp]; exact h1, h3⟩, hDp⟩ (kp.new (kp.n p hp))
theorem ok_value (T : Facts w K mg) : Ok P w K mg base 3 "_law_value" ["_law_pool_here"] spValue := by
  refine T.d__law_value.F.ok sc__law_value (fun vs H Q E h => ?_) (fun cdv A outer s H vs Q E hr h => ?_)
  · obtain ⟨p, c, rfl, _⟩ := h
    rfl
  · obtain ⟨p, c0, rfl, hp, k⟩ := h
    refine ⟨_, PSs.nox (pss_cons (ps_set (i := 1) sc__law_value.nd rfl (Or.inl rfl) (pe_cl T.d__law_take (ok_take T) (hr.mono (by decide)) (pa_cons (pv 0) (pa_cons pe_int pa_nil)))) 
      (pss_cons (ps_if (pt_cmpR op_eq (pv 1) pe_int (nomark _)) (pss_one (ps_ret pe_non)) pss_nil) 
      (pss_cons (ps_if (pt_cmpR op_eq (pv 1) pe_int (nomark _)) (pss_one (ps_ret (pe_op op_mul (pe_cl T.d__law_take (ok_take T) (hr.mono (by decide)) (pa_cons (pv 0) (pa_cons pe_int pa_nil))) (pe_ix ix_tup (pe_tup (pa_cons pe_int (pa_cons (pe_un un_neg pe_int) pa_nil))) (pe_cl T.d__law_take (ok_take T) (hr.mono (by decide)) (pa_cons (pv 0) (pa_cons pe_int pa_nil))) (fun _ _ => rfl))))) pss_nil) 
      (pss_one (ps_ret (pe_op op_sub (pe_cl T.d__law_take (ok_take T) (hr.mono (by decide)) (pa_cons (pv 0) (pa_cons pe_int pa_nil))) pe_int)))))), ?_⟩
    refine ⟨_, rfl, p, c0, _, rfl, hp, ⟨by decide, by decide⟩, fun r1 H1 h0 h1 hp1 k1 => ?_⟩
    refine ⟨_, rfl, rfl, _, rfl, ifD (fun c => ?_) (fun c => ?_)⟩
    · exact k _ _ trivial hp1 k1
    · refine ⟨_, rfl, rfl, _, rfl, ifD (fun c => ?_) (fun c => ?_)⟩
      · refine ⟨_, rfl, p, c0, _, rfl, hp1, ⟨by decide, by decide⟩, fun r2 H2 h2 h3 hp2 k2 => ?_⟩
        refine ⟨_, rfl, by show 2 ≤ sizeLine; decide, fun t ht => ?_⟩
        have k3 : Keep [] H2 (upd H2 t (.tup [.int 1, .int (-1)])) := Keep.refl.new ht
        refine ⟨_, rfl, p, c0, _, rfl, hp2.keep0 k3, ⟨by decide, by decide⟩, fun r3 H3 h4 h5 hp3 k4 => ?_⟩
        have ht3 : SqT K H3 t [.int 1, .int (-1)] := k4.tup (SqT.of upd_same)
        have kk : Keep [p] H H3 := ((k1.trans k2).trans k3.of0).trans k4
        have fin : ∀ y : Int, y = r2 ∨ y = -r2 → Q (.int y) H3 := fun y hy => k _ _ ⟨by omega, by omega⟩ hp3 kk
        have h6 : r3 = 0 ∨ r3 = 1 := by omega
        rcases h6 with rfl | rfl
        · exact ⟨_, _, _, _, rfl, rfl, ht3, rfl, _, _, rfl, rfl, .inr ⟨by decide, by decide⟩, fin _ (by omega)⟩
        · exact ⟨_, _, _, _, rfl, rfl, ht3, rfl, _, _, rfl, rfl, .inr ⟨by decide, by decide⟩, fin _ (by omega)⟩
      · refine ⟨_, rfl, p, c0, _, rfl, hp1, ⟨by decide, by decide⟩, fun r2 H2 h2 h3 hp2 k2 => ⟨_, _, rfl, rfl, k _ _ ⟨by omega, by omega⟩ hp2 (k1.trans k2)⟩⟩
end
end Q

namespace Q
open PySem PySem.Spec PyProof.Rows L2
/-! ### walks over a text's signs -/
theorem lc_str {x : Str} {g : TG} {tt : TT} {te : TE} {vs : List Nat} {σ : L2.St} {H1 : Hp} {D : Addr} {Qd : Hp → Prop} (Pv : Nat → Hp → Prop) (h0 : Pv 0 (upd H1 D (.lst [])))
    (hs : ∀ i c H, x.cps[i]? = some c → Pv i H → g (.str ⟨#[c]⟩) (wipe σ vs) H fun σ2 H2 => wipe σ2 vs = wipe σ vs ∧ tt σ2 H2 fun b H3 =>
      if b = true then te σ2 H3 fun y H4 => ∃ acc, H4 D = some (.lst acc) ∧ acc.length < sizeLine ∧ Pv (i + 1) (upd H4 D (.lst (acc ++ [y]))) else Pv (i + 1) H3) (hd : ∀ H, Pv x.cps.size H → Qd H) :
    ∃ W : Nat → Nat → Hp → Prop, (∃ m, W 0 m (upd H1 D (.lst []))) ∧ ∀ i m H, W i m H →
      ((Its x).stop i H ∧ Qd H) ∨ ((Its x).go i H ∧ ∃ Nx : Hp → Prop, (∀ H', Nx H' → ∃ m', m' < m ∧ W (i + 1) m' H') ∧ ∀ y H', (Its x).yld i H y H' → g y (wipe σ vs) H' fun σ2 H2 => wipe σ2 vs = wipe σ vs ∧ tt σ2 H2 fun b H3 =>
        if b = true then te σ2 H3 fun y H4 => ∃ acc, H4 D = some (.lst acc) ∧ acc.length < sizeLine ∧ Nx (upd H4 D (.lst (acc ++ [y]))) else Nx H3) := by
  refine ⟨fun i m H => m = x.cps.size - i ∧ i ≤ x.cps.size ∧ Pv i H, ⟨x.cps.size, by simp, Nat.zero_le _, h0⟩, ?_⟩
  rintro i m H ⟨rfl, hi, p⟩
  by_cases hlt : i < x.cps.size
  · refine .inr ⟨hlt, Pv (i + 1), fun H' p' => ⟨x.cps.size - (i + 1), by omega, rfl, hlt, p'⟩, fun y H' z => ?_⟩
    obtain ⟨rfl, c, hc, rfl⟩ := z
    exact hs i c _ hc p
  · have e : i = x.cps.size := by omega
    subst e
    exact .inl ⟨Nat.le_refl _, hd H p⟩
theorem for_str {x : Str} {g : TG} {tb : TS} {D : Ends} {σ : L2.St} {H : Hp} (Pv : Nat → L2.St → Hp → Prop) (h0 : Pv 0 σ H)
    (hs : ∀ i c σ H, x.cps[i]? = some c → Pv i σ H → g (.str ⟨#[c]⟩) σ H fun σ2 H2 => tb { D with nx := Pv (i + 1), ct := Pv (i + 1), bk := D.nx } σ2 H2) (hd : ∀ σ H, Pv x.cps.size σ H → D.nx σ H) :
    ∃ W : Nat → Nat → L2.St → Hp → Prop, (∃ m, W 0 m σ H) ∧ ∀ i m σ H, W i m σ H →
      ((Its x).stop i H ∧ D.nx σ H) ∨ ((Its x).go i H ∧ ∃ N : L2.St → Hp → Prop, (∀ σ' H', N σ' H' → ∃ m', m' < m ∧ W (i + 1) m' σ' H') ∧ ∀ y H', (Its x).yld i H y H' → g y σ H' fun σ2 H2 => tb { D with nx := N, ct := N, bk := D.nx } σ2 H2) := by
  refine ⟨fun i m σ H => m = x.cps.size - i ∧ i ≤ x.cps.size ∧ Pv i σ H, ⟨x.cps.size, by simp, Nat.zero_le _, h0⟩, ?_⟩
  rintro i m σ H ⟨rfl, hi, p⟩
  by_cases hlt : i < x.cps.size
  · refine .inr ⟨hlt, Pv (i + 1), fun σ' H' p' => ⟨x.cps.size - (i + 1), by omega, rfl, hlt, p'⟩, fun y H' z => ?_⟩
    obtain ⟨rfl, c, hc, rfl⟩ := z
    exact hs i c σ _ hc p
  · have e : i = x.cps.size := by omega
    subst e
    exact .inl ⟨Nat.le_refl _, hd σ H p⟩
/-! ### names of cells -/
def LET : Str := Str.ofString "abcdefghijklmnopqrstuvwxyz"
def letB (c : Nat) : Bool := decide (c ∈ LET.cps.toList)
def nmB (x : Str) : Bool := decide (1 ≤ x.length) && (decide (x.length ≤ 12) && x.cps.toList.all letB)
def spName : Sp := fun vs H Q _ => ∃ (x : Str), vs = [.str x] ∧ x.length < sizeLine ∧ ∀ H', Keep [] H H' → Q (.bl (nmB x)) H'
def inB : V → Bool
  | .non => true
  | .int i => decide (-1000000 ≤ i) && decide (i ≤ 1000000)
  | _ => false
def spRange : Sp := fun vs H Q _ => ∃ v : V, vs = [v] ∧ (v = .non ∨ ∃ i, v = .int i) ∧ Q (.bl (inB v)) H
section
variable {P : Program} {w : World} {K : PySem.W.Frag} {mg : Str → Option Value} {base : Heap}
theorem ok_is_name (T : Facts w K mg) : Ok P w K mg base 1 "is_name" ["text"] spName := by
  refine T.d_is_name.F.ok sc_is_name (fun vs H Q E h => ?_) (fun cdv A outer s H vs Q E hr h => ?_)
  · obtain ⟨x, rfl, _⟩ := h
    rfl
  · obtain ⟨x, rfl, hl, k⟩ := h
    refine ⟨_, PSs.nox (pss_one (ps_ret (pe_and (pe_chain op_le op_le pe_int (pe_callB call_len_str (by rfl) T.b_len PySem.boot_len (pa_cons (pv 0) pa_nil)) pe_int) (pe_one (pe_callB (cr_all rfl) (by rfl) T.b_all (by decide +kernel) (pa_cons (pe_lc (own := [("letter", 1)]) (g := gName 1) (by rfl) sc_is_name.nd (pi_str (pv 0)) (blkOk_by (N := ["text", "letter"]) (sc := defScope s_is_name) (own := [("letter", 1)]) (by decide +kernel)) (fun _ _ _ _ _ => pg_name (i := 1) sc_is_name.nd rfl (Or.inl rfl)) (fun _ _ _ _ _ => pts_nil) (fun _ _ _ _ _ => (pe_cmpR op_in_sign (pv 1) (T.e_LETTERS (by rfl)) (by rfl)))) pa_nil)))))), ?_⟩
    have e1 : decide ((x.length : Int) ≤ 12) = decide (x.length ≤ 12) := by
      by_cases h : x.length ≤ 12
      · rw [decide_eq_true h, decide_eq_true (by omega)]
      · rw [decide_eq_false h, decide_eq_false (by omega)]
    refine ⟨_, rfl, _, rfl, Nat.le_of_lt hl, _, _, rfl, rfl, _, rfl, ifD (fun c1 => ?_) (fun c1 => ?_)⟩
    rotate_left
    · refine ⟨_, rfl, ?_⟩
      have e : nmB x = false := by
        unfold nmB
        rw [decide_eq_false (show ¬ 1 ≤ x.length by omega)]
        rfl
      have q := k H Keep.refl
      rw [e] at q
      exact q
    refine ⟨_, _, rfl, rfl, _, rfl, ifD (fun c2 => ?_) (fun c2 => ?_)⟩
    rotate_left
    · have e : nmB x = false := by
        unfold nmB
        rw [decide_eq_false (show ¬ x.length ≤ 12 by omega), Bool.false_and, Bool.and_false]
      have q := k H Keep.refl
      rw [e] at q
      exact q
    refine ⟨_, rfl, _, rfl, fun D hD => lc_str (x := x) (fun i H' => H' D = some (.lst (((x.cps.toList.take i).map letB).map V.bl)) ∧ Keep [] H H') ⟨upd_same, Keep.refl.new hD⟩ ?_ ?_⟩
    · rintro i c H' hc ⟨h1, kp⟩
      have hi : i < x.cps.size := (Array.getElem?_eq_some_iff.mp hc).1
      refine ⟨rfl, ?_⟩
      refine ⟨_, rfl, _, _, rfl, rfl, _, h1, ?_, ?_, kp.new hD⟩
      · rw [List.length_map, List.length_map, List.length_take]
        have : x.length = x.cps.size := rfl
        omega
      · rw [upd_same]
        have e : x.cps.toList.take (i + 1) = x.cps.toList.take i ++ [c] := by
          rw [List.take_add_one, Array.getElem?_toList, hc]
          rfl
        rw [e, List.map_append, List.map_append]
        rfl
    · rintro H' ⟨h1, kp⟩
      refine ⟨_, _, rfl, SqL.of h1, ?_⟩
      have q := k H' kp
      have e : nmB x = ((x.cps.toList.take x.cps.size).map letB).all id := by
        unfold nmB
        rw [decide_eq_true (show 1 ≤ x.length by omega), decide_eq_true (show x.length ≤ 12 by omega), Bool.true_and, Bool.true_and, List.all_map]
        rw [List.take_of_length_le (by rw [Array.length_toList]; exact Nat.le_refl _)]
        rfl
      rw [e] at q
      exact q
theorem ok_is_in_range (T : Facts w K mg) : Ok P w K mg base 1 "is_in_range" ["value"] spRange := by
  refine T.d_is_in_range.F.ok sc_is_in_range (fun vs H Q E h => ?_) (fun cdv A outer s H vs Q E hr h => ?_)
  · obtain ⟨v, rfl, _⟩ := h
    rfl
  · obtain ⟨v, rfl, hv, k⟩ := h
    refine ⟨_, PSs.nox (pss_one (ps_ret (pe_or (pe_cmpR op_isN (pv 0) pe_non (nomark _)) (pe_one (pe_chain op_le op_le (pe_un un_neg (T.e_MOST (by rfl))) (pv 0) (T.e_MOST (by rfl))))))), ?_⟩
    rcases hv with rfl | ⟨i, rfl⟩
    · exact ⟨_, rfl, rfl, _, rfl, ifP rfl k⟩
    · refine ⟨_, rfl, rfl, _, rfl, ifN (fun z => by cases z) ?_⟩
      refine ⟨_, rfl, _, rfl, _, _, rfl, rfl, _, rfl, ifD (fun c => ?_) (fun c => ?_)⟩
      · refine ⟨_, _, rfl, rfl, ?_⟩
        have e : inB (.int i) = decide (i ≤ 1000000) := by
          show (decide (-1000000 ≤ i) && decide (i ≤ 1000000)) = _
          rw [decide_eq_true (show -1000000 ≤ i from c), Bool.true_and]
        rw [e] at k
        exact k
      · have e : inB (.int i) = false := by
          show (decide (-1000000 ≤ i) && decide (i ≤ 1000000)) = _
          rw [decide_eq_false (show ¬ -1000000 ≤ i from c), Bool.false_and]
        rw [e] at k
        exact k
end
end Q

namespace Q
open PySem PySem.Spec PyProof.Rows L2
/-! ### drawn names, each another one -/
structure IsNm (x : Str) : Prop where
  l1 : 1 ≤ x.length
  l2 : x.length ≤ 12
  al : ∀ c ∈ x.cps.toList, letB c = true
theorem IsNm.b {x : Str} (h : IsNm x) : nmB x = true := by
  unfold nmB
  rw [decide_eq_true h.l1, decide_eq_true h.l2, Bool.true_and, Bool.true_and]
  exact List.all_eq_true.mpr h.al
theorem inV_strs (x : Str) (ns : List Str) : inV (.str x) (ns.map V.str) = decide (x ∈ ns) := by
  unfold inV
  rw [List.any_map, Bool.eq_iff_iff, List.any_eq_true, decide_eq_true_iff]
  constructor
  · rintro ⟨y, hy, e⟩
    have e' : (y == x) = true := e
    rw [← beq_iff_eq.mp e']
    exact hy
  · intro h
    exact ⟨x, h, beq_self_eq_true x⟩
theorem flat_strs (ns : List Str) : (ns.map V.str).all flatV = true := by
  rw [List.all_map]
  exact List.all_eq_true.mpr fun _ _ => rfl
theorem nodup_len {α : Type} [DecidableEq α] : ∀ {l m : List α}, l.Nodup → (∀ x ∈ l, x ∈ m) → l.length ≤ m.length
  | [], _, _, _ => Nat.zero_le _
  | a :: l, m, h, s => by
    obtain ⟨h1, h2⟩ := List.nodup_cons.mp h
    have ha : a ∈ m := s a (List.mem_cons_self ..)
    have ih := nodup_len (l := l) (m := m.erase a) h2 fun x hx => (List.mem_erase_of_ne (fun e => h1 (by rw [← e]; exact hx))).mpr (s x (List.mem_cons_of_mem _ hx))
    rw [List.length_erase_of_mem ha] at ih
    have : 0 < m.length := List.length_pos_of_mem ha
    rw [List.length_cons]
    omega
theorem join1 : ∀ cs : List Nat, TL.joinL [] (cs.map fun c => [c]) = cs
  | [] => rfl
  | [c] => rfl
  | c :: d :: r => by
    show [c] ++ ([] ++ TL.joinL [] ((d :: r).map fun c => [c])) = c :: d :: r
    rw [join1 (d :: r)]
    rfl
theorem tl_sign (c : Nat) : TL.tl (⟨#[c]⟩ : Str) = [c] := rfl
theorem join_signs (cs : List Nat) : (Txt.join (Str.ofString "") (cs.map fun c => (⟨#[c]⟩ : Str))).cps.toList = cs := by
  rw [TL.join_eq]
  show TL.tl _ = _
  rw [TL.tl_join, List.map_map]
  have e : (TL.tl ∘ fun c => (⟨#[c]⟩ : Str)) = fun c => [c] := funext fun c => rfl
  have e0 : TL.tl (Str.ofString "") = [] := by decide +kernel
  rw [e, e0, join1]
theorem LET_len : LET.cps.toList.length = 26 := by decide +kernel
theorem LET_nd : LET.cps.toList.Nodup := by decide +kernel
theorem letB_of {c : Nat} (h : c ∈ LET.cps.toList) : letB c = true := decide_eq_true h
/-- what must be put before a name: a sign and what fits of it -/
theorem IsNm.put {x : Str} {c : Nat} (h : IsNm x) (hc : letB c = true) : IsNm ((⟨#[c]⟩ : Str) ++ cutS x none (some 11)) := by
  have e : ((⟨#[c]⟩ : Str) ++ cutS x none (some 11)).cps.toList = c :: (x.cps.toList.take (HT.sIx x.length x.length (some 11))) := by
    show TL.tl _ = _
    rw [TL.tl_append]
    rfl
  have l : ((⟨#[c]⟩ : Str) ++ cutS x none (some 11)).length = 1 + min (HT.sIx x.length x.length (some 11)) x.length := by
    rw [TL.len_tl]
    show (((⟨#[c]⟩ : Str) ++ cutS x none (some 11)).cps.toList).length = _
    rw [e, List.length_cons, List.length_take, Nat.add_comm]
    rfl
  have s : HT.sIx x.length x.length (some ((11 : Nat) : Int)) = min 11 x.length := HT.sIx_nat _ _ _
  have s' : HT.sIx x.length x.length (some 11) = min 11 x.length := s
  have := h.l2
  refine ⟨by rw [l]; omega, by rw [l, s']; omega, fun d hd => ?_⟩
  rw [e] at hd
  rcases List.mem_cons.mp hd with q | q
  · rw [q]; exact hc
  · exact h.al d (List.mem_of_mem_take q)
theorem put_head (y : Str) (c : Nat) : ((⟨#[c]⟩ : Str) ++ y).cps.toList.head? = some c := by
  show (TL.tl _).head? = _
  rw [TL.tl_append]
  rfl
def WORDS : List Str := ["plus", "least", "or", "if", "cyclic"]
theorem words_nm : ∀ x ∈ WORDS, IsNm x := by
  intro x hx
  have h : WORDS.all (fun x => nmB x) = true := by decide +kernel
  have q := List.all_eq_true.mp h x hx
  unfold nmB at q
  simp only [Bool.and_eq_true, decide_eq_true_eq] at q
  exact ⟨q.1, q.2.1, List.all_eq_true.mp q.2.2⟩
theorem atI_int {α : Type} {xs : List α} {i : Int} {v : α} (h0 : 0 ≤ i) (h : xs[i.toNat]? = some v) : atI xs i = some v := by
  have e : i = ((i.toNat : Nat) : Int) := by omega
  rw [e]
  exact atI_nat h
def spNames : Sp := fun vs H Q _ => ∃ (p c : Addr) (n : Nat), vs = [.ref p, .int (n : Int)] ∧ PoolAt H p c ∧ n ≤ 20 ∧
  ∀ (l : Addr) (ns : List Str) (H' : Hp), H l = none → H' l = some (.lst (ns.map V.str)) → ns.length = n → ns.Nodup → (∀ x ∈ ns, IsNm x) → PoolAt H' p c → Keep [p] H H' → Q (.ref l) H'
def sg (c : Nat) : Str := ⟨#[c]⟩
theorem sg_len (cs : List Nat) : ((cs.map sg).map (·.length)).sum = cs.length := by
  induction cs with
  | nil => rfl
  | cons a r ih =>
    rw [List.map_cons, List.map_cons, List.sum_cons, ih, List.length_cons]
    show 1 + r.length = r.length + 1
    omega
theorem nm_signs {cs : List Nat} (h1 : 1 ≤ cs.length) (h2 : cs.length ≤ 12) (h3 : ∀ c ∈ cs, letB c = true) : IsNm (Txt.join (Str.ofString "") (cs.map sg)) := by
  have e : (Txt.join (Str.ofString "") (cs.map sg)).cps.toList = cs := join_signs cs
  have l : (Txt.join (Str.ofString "") (cs.map sg)).length = cs.length := by
    rw [TL.len_tl]
    show (Txt.join (Str.ofString "") (cs.map sg)).cps.toList.length = _
    rw [e]
  exact ⟨by rw [l]; exact h1, by rw [l]; exact h2, by rw [e]; exact h3⟩
theorem upd_same_map {H : Hp} {l : Addr} {ns : List Str} {x : Str} : upd H l (.lst (ns.map V.str ++ [V.str x])) l = some (.lst ((ns ++ [x]).map V.str)) := by
  rw [upd_same, List.map_append]
  rfl
/-- between two turns: the names so far at l, the words at t -/
structure NR (K : PySem.W.Frag) (H : Hp) (p c l t : Addr) (ns : List Str) (H' : Hp) : Prop where
  at_ : H' l = some (.lst (ns.map V.str))
  nd : ns.Nodup
  nm : ∀ x ∈ ns, IsNm x
  pool : PoolAt H' p c
  kp : Keep [p] H H'
  wd : SqT K H' t (WORDS.map V.str)
theorem NR.step {K : PySem.W.Frag} {H H1 H2 : Hp} {p c l t : Addr} {ns : List Str} (r : NR K H p c l t ns H1) (k : Keep [p] H1 H2) (hp : PoolAt H2 p c) (n : l ≠ p) : NR K H p c l t ns H2 :=
  ⟨k.k _ _ (by simpa using n) r.at_, r.nd, r.nm, hp, r.kp.trans k, k.tup r.wd⟩
section
variable {P : Program} {w : World} {K : PySem.W.Frag} {mg : Str → Option Value} {base : Heap}
theorem ok_names (T : Facts w K mg) : Ok P w K mg base 3 "_law_names" ["_law_pool_here", "_law_many"] spNames := by
  refine T.d__law_names.F.ok sc__law_names (fun vs H Q E h => ?_) (fun cdv A outer s H vs Q E hr h => ?_)
  · obtain ⟨p, c, n, rfl, _⟩ := h
    rfl
  · obtain ⟨p, c, n, rfl, hp, hn, k⟩ := h
    refine ⟨_, PSs.nox (pss_cons (ps_set (i := 2) sc__law_names.nd rfl (Or.inl rfl) (pe_tup (pa_cons pe_str (pa_cons pe_str (pa_cons pe_str (pa_cons pe_str (pa_cons pe_str pa_nil))))))) 
      (pss_cons (ps_set (i := 3) sc__law_names.nd rfl (Or.inl rfl) (pe_lst pa_nil)) 
      (pss_cons (ps_for PassesOwn.never rfl (pi_range1 (by rfl) T.b_range (pa_cons (pv 1) pa_nil)) (pg_name (i := 4) sc__law_names.nd rfl (Or.inl rfl)) (pss_cons (ps_set (i := 5) sc__law_names.nd rfl (Or.inl rfl) (pe_cl T.d__law_take (ok_take T) (hr.mono (by decide)) (pa_cons (pv 0) (pa_cons pe_int pa_nil)))) 
      (C8.pss_cut ((ps_set (i := 6) sc__law_names.nd rfl (Or.inl rfl) (pe_join pe_str (pe_lc (own := [("_law_place", 8)]) (g := gName 8) (by rfl) sc__law_names.nd (pi_range1 (by rfl) T.b_range (pa_cons (pe_op op_add (pv 5) pe_int) pa_nil)) (blkOk_by (N := ["_law_pool_here", "_law_many", "_law_words", "_law_names_here", "_law_k", "_law_size", "_law_name", "_law_letter", "_law_place"]) (sc := defScope s__law_names) (own := [("_law_place", 8)]) (by decide +kernel)) (fun _ _ _ _ _ => pg_name (i := 8) sc__law_names.nd rfl (Or.inl rfl)) (fun _ _ _ _ _ => pts_nil) (fun _ _ _ _ _ => (pe_ix ix_str pe_str (pe_cl T.d__law_take (ok_take T) (hr.mono (by decide)) (pa_cons (pv 0) (pa_cons pe_int pa_nil))) (fun _ _ => rfl))))))) 
      (C8.pss_cut ((ps_if (pt_cmpR op_eq (pe_cl T.d__law_take (ok_take T) (hr.mono (by decide)) (pa_cons (pv 0) (pa_cons pe_int pa_nil))) pe_int (nomark _)) (pss_one (ps_set (i := 6) sc__law_names.nd rfl (Or.inl rfl) (pe_ix ix_tup (pv 2) (pe_cl T.d__law_take (ok_take T) (hr.mono (by decide)) (pa_cons (pv 0) (pa_cons pe_int pa_nil))) (fun _ _ => rfl)))) pss_nil)) 
      (pss_cons (ps_for PassesOwn.never rfl (pi_str pe_str) (pg_name (i := 7) sc__law_names.nd rfl (Or.inl rfl)) (pss_cons (ps_if (pt_cmpR op_notIn_seq (pv 6) (pv 3) (by rfl)) (pss_one ps_break) pss_nil) 
      (pss_one (ps_set (i := 6) sc__law_names.nd rfl (Or.inl rfl) (pe_op op_add_str (pv 7) (pe_slice sl_str (pv 6) po_none (po_some pe_int))))))) 
      (pss_one (ps_expr (pe_bm PySem.F.plainAttrs_list PySem.F.slot_list_append PySem.F.type_list_append mt_append (pv 3) (pa_cons (pv 6) pa_nil))))))))) 
      (pss_one (ps_ret (pv 3)))))), ?_⟩
    refine ⟨by show 5 ≤ sizeLine; decide, fun t ht => ⟨by show 0 ≤ sizeLine; decide, fun l hl => ?_⟩⟩
    have hl0 : H l = none := upd_none hl
    have nlp : l ≠ p := fun z => hp.thereP (by rw [← z]; exact hl0)
    have ntl : t ≠ l := ne_of_none upd_same hl
    have k0 : Keep [] H (upd (upd H t (.tup (WORDS.map V.str))) l (.lst [])) := (Keep.refl.new ht).new hl0
    have r0 : NR K H p c l t [] (upd (upd H t (.tup (WORDS.map V.str))) l (.lst [])) :=
      ⟨upd_same, List.nodup_nil, by simp, hp.keep0 k0, k0.of0, SqT.of (by rw [upd_ne ntl, upd_same])⟩
    refine ⟨_, rfl, _, rfl, by omega, by omega, for_range (lo := 0) (n := (n : Int).toNat) (fun i σ H' => ∃ (a4 a5 a6 a7 a8 : Option V) (ns : List Str), σ = [some (.ref p), some (.int (n : Int)), some (.ref t), some (.ref l), a4, a5, a6, a7, a8] ∧ ns.length = i ∧ NR K H p c l t ns H')
      ⟨none, none, none, none, none, [], rfl, rfl, r0⟩ ?_ ?_⟩
    · rintro i σ H1 hi ⟨a4, a5, a6, a7, a8, ns, rfl, hlen, r1⟩
      have hin : i < 20 := by omega
      -- size
      refine ⟨_, rfl, p, c, _, rfl, r1.pool, ⟨by decide, by decide⟩, fun z H2 hz0 hz1 hp2 k2 => ?_⟩
      have r2 := r1.step k2 hp2 nlp
      -- the name
      refine ⟨fun σ H' => ∃ (x : Str) (b4 b5 b7 b8 : Option V), σ = [some (.ref p), some (.int (n : Int)), some (.ref t), some (.ref l), b4, b5, some (.str x), b7, b8] ∧ IsNm x ∧ NR K H p c l t ns H', ?_, ?_⟩
      · refine ⟨⟨_, rfl⟩, _, rfl, _, _, rfl, rfl, _, rfl, by omega, by omega, fun D hD => lc_range (lo := 0) (n := (z + 1).toNat) (fun j H' => ∃ cs : List Nat, H' D = some (.lst ((cs.map sg).map V.str)) ∧ cs.length = j ∧ (∀ c ∈ cs, letB c = true) ∧ PoolAt H' p c ∧ Keep [p] H2 H')
          ⟨[], upd_same, rfl, by simp, hp2.fresh hp2 hD, Keep.refl.new hD⟩ ?_ ?_⟩
        · rintro j H3 hj ⟨cs, h1, h2, h3, hp3, k3⟩
          have nDp : D ≠ p := fun z => hp2.thereP (by rw [← z]; exact hD)
          refine ⟨rfl, ?_⟩
          refine ⟨_, rfl, p, c, _, rfl, hp3, ⟨by decide, by decide⟩, fun y H4 hy0 hy1 hp4 k4 => ?_⟩
          have hy : y.toNat < LET.cps.toList.length := by rw [LET_len]; omega
          refine ⟨_, _, _, rfl, rfl, by show LET.length ≤ sizeLine; decide +kernel, atI_int (i := y) hy0 (List.getElem?_eq_getElem hy), _, k4.k _ _ (by simpa using nDp) h1, ?_, cs ++ [LET.cps.toList[y.toNat]], ?_, by simp [h2], fun c hc => ?_, hp2.fresh hp4 hD, (k3.trans k4).new hD⟩
          · rw [List.length_map, List.length_map]
            exact small63 (by omega)
          · rw [upd_same, List.map_append, List.map_append]
            rfl
          · rcases List.mem_append.mp hc with q | q
            · exact h3 c q
            · rw [List.mem_singleton.mp q]
              exact letB_of (List.getElem_mem hy)
        · rintro H3 ⟨cs, h1, h2, h3, hp3, k3⟩
          refine ⟨_, _, cs.map sg, rfl, rfl, .inl (SqL.of h1), ?_, _, _, _, _, _, rfl, ?_, r2.step k3 hp3 nlp⟩
          · rw [sg_len, List.length_map]
            have : (Str.ofString "").length = 0 := by decide +kernel
            rw [this]
            omega
          · exact nm_signs (by omega) (by omega) h3
      · rintro σ H3 ⟨x, b4, b5, b7, b8, rfl, hx, r3⟩
        refine ⟨fun σ H' => ∃ (x : Str) (b4 b5 b7 b8 : Option V), σ = [some (.ref p), some (.int (n : Int)), some (.ref t), some (.ref l), b4, b5, some (.str x), b7, b8] ∧ IsNm x ∧ NR K H p c l t ns H', ?_, ?_⟩
        · -- one of the words
          refine ⟨_, rfl, p, c, _, rfl, r3.pool, ⟨by decide, by decide⟩, fun y H4 hy0 hy1 hp4 k4 => ?_⟩
          have r4 := r3.step k4 hp4 nlp
          refine ⟨rfl, _, rfl, ifD (fun _ => ?_) (fun _ => ?_)⟩
          · refine ⟨_, rfl, _, rfl, p, c, _, rfl, hp4, ⟨by decide, by decide⟩, fun z H5 hz0 hz1 hp5 k5 => ?_⟩
            have r5 := r4.step k5 hp5 nlp
            have hz : z.toNat < WORDS.length := by show z.toNat < 5; omega
            refine ⟨_, _, _, _, rfl, rfl, r5.wd, atI_int hz0 (by rw [List.getElem?_map, List.getElem?_eq_getElem hz]; rfl), _, _, _, _, _, rfl, words_nm _ (List.getElem_mem hz), r5⟩
          · exact ⟨x, b4, b5, b7, b8, rfl, hx, r4⟩
        · clear hx r3 x b4 b5 b7 b8
          rintro σ H4 ⟨x, b4, b5, b7, b8, rfl, hx, r4⟩
          -- another one, where it is there already
          refine ⟨_, rfl, for_str (x := LET) (fun j σ H' => ∃ (x : Str) (b7 : Option V) (seen : List Str), σ = [some (.ref p), some (.int (n : Int)), some (.ref t), some (.ref l), b4, b5, some (.str x), b7, b8] ∧ IsNm x ∧ NR K H p c l t ns H' ∧
              (∀ y ∈ seen, y ∈ ns) ∧ seen.map (fun y => y.cps.toList.head?) = (LET.cps.toList.take (j - 1)).map some ∧ (1 ≤ j → x.cps.toList.head? = LET.cps.toList[j - 1]?))
            ⟨x, b7, [], rfl, hx, r4, by simp, rfl, fun z => absurd z (by decide)⟩ ?_ ?_⟩
          · rintro j d σ H5 hd ⟨x, b7, seen, rfl, hx, r5, s1, s2, s3⟩
            have hj : j < LET.cps.toList.length := by
              have q := (Array.getElem?_eq_some_iff.mp hd).1
              rw [Array.length_toList]
              exact q
            have hd' : LET.cps.toList[j]? = some d := by rw [Array.getElem?_toList]; exact hd
            have fin : NR K H p c l t ns H5 → _ := fun r => r
            refine ⟨_, rfl, _, rfl, _, _, rfl, .inl (SqL.of r5.at_), rfl, flat_strs ns, _, rfl, ?_⟩
            rw [inV_strs]
            by_cases hin : x ∈ ns
            · refine ifnP hin ?_
              have hs : HT.sIx x.length x.length (some ((11 : Nat) : Int)) = min 11 x.length := HT.sIx_nat _ _ _
              refine ⟨_, rfl, _, rfl, _, rfl, _, rfl, Nat.le_trans hx.l2 (by decide), _, _, rfl, rfl, ?_, ?_⟩
              · have q := (hx.put (letB_of (List.mem_of_getElem? hd'))).l2
                rw [TL.len_tl, TL.tl_append, List.length_append, ← TL.len_tl, ← TL.len_tl] at q
                exact Nat.le_trans q (by decide)
              · refine ⟨_, _, if j = 0 then [] else seen ++ [x], rfl, hx.put (letB_of (List.mem_of_getElem? hd')), r5, ?_, ?_, fun _ => ?_⟩
                · intro y hy
                  by_cases z : j = 0
                  · rw [if_pos z] at hy; cases hy
                  · rw [if_neg z] at hy
                    rcases List.mem_append.mp hy with q | q
                    · exact s1 y q
                    · rw [List.mem_singleton.mp q]; exact hin
                · by_cases z : j = 0
                  · rw [if_pos z, z]; rfl
                  · rw [if_neg z, List.map_append, s2]
                    have e := s3 (by omega)
                    have hj1 : j - 1 < LET.cps.toList.length := by omega
                    have e2 : LET.cps.toList.take (j + 1 - 1) = LET.cps.toList.take (j - 1) ++ [LET.cps.toList[j - 1]] := by
                      have : j + 1 - 1 = (j - 1) + 1 := by omega
                      rw [this, List.take_add_one, List.getElem?_eq_getElem hj1]
                      rfl
                    rw [e2, List.map_append, List.map_cons, List.map_nil, e, List.getElem?_eq_getElem hj1]
                    rfl
                · rw [put_head, Nat.add_sub_cancel, hd']
            · refine ifnN hin ?_
              refine ⟨_, rfl, .inl ⟨rfl, _, SqL.of r5.at_⟩, _, rfl, l, _, _, rfl, rfl, r5.at_, by rw [List.length_map]; exact small63 (by omega), ?_⟩
              have nd2 : (ns ++ [x]).Nodup := nd_snoc r5.nd hin
              refine ⟨_, _, _, _, _, ns ++ [x], rfl, by simp [hlen], upd_same_map, nd2, fun y hy => ?_, r5.pool.upd nlp (fun z => hp.thereC (by rw [← z]; exact hl0)), r5.kp.new hl0, ?_⟩
              · rcases List.mem_append.mp hy with q | q
                · exact r5.nm y q
                · rw [List.mem_singleton.mp q]; exact hx
              · have ntl2 : Keep [l] H5 (upd H5 l (.lst (ns.map V.str ++ [.str x]))) := Keep.refl.upd (by simp) (by rw [r5.at_]; trivial)
                exact ntl2.tup r5.wd
          · rintro σ H5 ⟨x, b7, seen, rfl, hx, r5, s1, s2, s3⟩
            exfalso
            have e26 : LET.cps.size = 26 := by rw [← Array.length_toList]; exact LET_len
            rw [e26] at s2
            have l25 : seen.length = 25 := by
              have q := congrArg List.length s2
              rw [List.length_map, List.length_map, List.length_take, LET_len] at q
              exact q
            have nd : seen.Nodup := by
              have q : (seen.map (fun y => y.cps.toList.head?)).Nodup := by
                rw [s2]
                exact List.pairwise_map.mpr ((List.Sublist.nodup (List.take_sublist _ _) LET_nd).imp fun h z => h (Option.some.inj z))
              exact (List.pairwise_map.mp q).imp fun h z => h (by rw [z])
            have := nodup_len nd s1
            omega
    · rintro σ H1 ⟨a4, a5, a6, a7, a8, ns, rfl, hlen, r1⟩
      exact ⟨_, rfl, k l ns H1 hl0 r1.at_ (by rw [hlen]; rfl) r1.nd r1.nm r1.pool r1.kp⟩
end
end Q

namespace Q
open PySem PySem.Spec PyProof.Rows L2
/-! ### formulas as data -/
inductive Op3 where
  | plus | least | or
  deriving DecidableEq
def Op3.word : Op3 → Str
  | .plus => "plus"
  | .least => "least"
  | .or => "or"
inductive Fm where
  | non | int (i : Int) | name (x : Str) | cyc (x : Str) | op (w : Op3) (a b : Fm) | ite (c a b : Fm)
/-- the formula f stands at v -/
def FmAt (K : PySem.W.Frag) (H : Hp) : Fm → V → Prop
  | .non, v => v = .non
  | .int i, v => v = .int i
  | .name x, v => v = .str x
  | .cyc x, v => ∃ a, v = .ref a ∧ SqT K H a [.str "cyclic", .str x]
  | .op w f g, v => ∃ a x y, v = .ref a ∧ SqT K H a [.str w.word, x, y] ∧ FmAt K H f x ∧ FmAt K H g y
  | .ite c f g, v => ∃ a x y z, v = .ref a ∧ SqT K H a [.str "if", x, y, z] ∧ FmAt K H c x ∧ FmAt K H f y ∧ FmAt K H g z
theorem FmAt.keep {K : PySem.W.Frag} {H H1 : Hp} {M : List Addr} (k : Keep M H H1) : ∀ {f : Fm} {v : V}, FmAt K H f v → FmAt K H1 f v
  | .non, _, h => h
  | .int _, _, h => h
  | .name _, _, h => h
  | .cyc _, _, h => by
    obtain ⟨a, e, h⟩ := h
    exact ⟨a, e, k.tup h⟩
  | .op w f g, _, h => by
    obtain ⟨a, x, y, e, h, hf, hg⟩ := h
    exact ⟨a, x, y, e, k.tup h, FmAt.keep k hf, FmAt.keep k hg⟩
  | .ite c f g, _, h => by
    obtain ⟨a, x, y, z, e, h, hc, hf, hg⟩ := h
    exact ⟨a, x, y, z, e, k.tup h, FmAt.keep k hc, FmAt.keep k hf, FmAt.keep k hg⟩
def Fm.dep : Fm → Nat
  | .non => 0
  | .int _ => 0
  | .name _ => 0
  | .cyc _ => 1
  | .op _ f g => 1 + max f.dep g.dep
  | .ite c f g => 1 + max c.dep (max f.dep g.dep)
/-- ints within the range, names of ns -/
def Fm.In (p : Str → Prop) : Fm → Prop
  | .non => True
  | .int i => -1000000 ≤ i ∧ i ≤ 1000000
  | .name x => p x
  | .cyc x => p x
  | .op _ f g => f.In p ∧ g.In p
  | .ite c f g => c.In p ∧ f.In p ∧ g.In p
theorem Fm.In.imp {p q : Str → Prop} (h : ∀ x, p x → q x) : ∀ {f : Fm}, f.In p → f.In q
  | .non, _ => trivial
  | .int _, z => z
  | .name _, z => h _ z
  | .cyc _, z => h _ z
  | .op _ _ _, z => ⟨Fm.In.imp h z.1, Fm.In.imp h z.2⟩
  | .ite _ _ _, z => ⟨Fm.In.imp h z.1, Fm.In.imp h z.2.1, Fm.In.imp h z.2.2⟩
def FmsAt (K : PySem.W.Frag) (H : Hp) : List Fm → List V → Prop
  | [], [] => True
  | f :: fs, v :: vs => FmAt K H f v ∧ FmsAt K H fs vs
  | _, _ => False
theorem FmsAt.keep {K : PySem.W.Frag} {H H1 : Hp} {M : List Addr} (k : Keep M H H1) : ∀ {fs : List Fm} {vs : List V}, FmsAt K H fs vs → FmsAt K H1 fs vs
  | [], [], _ => trivial
  | _ :: _, _ :: _, h => ⟨h.1.keep k, FmsAt.keep k h.2⟩
theorem FmsAt.snoc {K : PySem.W.Frag} {H : Hp} {f : Fm} {v : V} (hf : FmAt K H f v) : ∀ {fs : List Fm} {vs : List V}, FmsAt K H fs vs → FmsAt K H (fs ++ [f]) (vs ++ [v])
  | [], [], _ => ⟨hf, trivial⟩
  | _ :: _, _ :: _, h => ⟨h.1, FmsAt.snoc hf h.2⟩
theorem FmsAt.two {K : PySem.W.Frag} {H : Hp} {fs : List Fm} {vs : List V} (h : FmsAt K H fs vs) (l : vs.length = 2) : ∃ f g x y, fs = [f, g] ∧ vs = [x, y] ∧ FmAt K H f x ∧ FmAt K H g y := by
  match vs, l with
  | [x, y], _ => match fs, h with
    | [], h => exact h.elim
    | [_], h => exact h.2.elim
    | [f, g], h => exact ⟨f, g, x, y, rfl, rfl, h.1, h.2.1⟩
    | _ :: _ :: _ :: _, h => exact h.2.2.elim
theorem FmsAt.three {K : PySem.W.Frag} {H : Hp} {fs : List Fm} {vs : List V} (h : FmsAt K H fs vs) (l : vs.length = 3) : ∃ c f g x y z, fs = [c, f, g] ∧ vs = [x, y, z] ∧ FmAt K H c x ∧ FmAt K H f y ∧ FmAt K H g z := by
  match vs, l with
  | [x, y, z], _ => match fs, h with
    | [], h => exact h.elim
    | [_], h => exact h.2.elim
    | [_, _], h => exact h.2.2.elim
    | [c, f, g], h => exact ⟨c, f, g, x, y, z, rfl, rfl, h.1, h.2.1, h.2.2.1⟩
    | _ :: _ :: _ :: _ :: _, h => exact h.2.2.2.elim
def HEADS : List Str := ["plus", "least", "or", "if", "or", "plus"]
theorem heads_are : ∀ x ∈ HEADS, x = ("if" : Str) ∨ ∃ w : Op3, x = w.word := by
  intro x hx
  simp only [HEADS, List.mem_cons, List.not_mem_nil, or_false] at hx
  rcases hx with rfl | rfl | rfl | rfl | rfl | rfl
  · exact .inr ⟨.plus, rfl⟩
  · exact .inr ⟨.least, rfl⟩
  · exact .inr ⟨.or, rfl⟩
  · exact .inl rfl
  · exact .inr ⟨.or, rfl⟩
  · exact .inr ⟨.plus, rfl⟩
theorem word_if (w : Op3) : ¬ w.word = ("if" : Str) := by cases w <;> decide +kernel
/-- formulas of depth below n, over the names at a -/
def spFormula (K : PySem.W.Frag) (n : Nat) : Sp := fun vs H Q _ => ∃ (p c a : Addr) (z : Nat) (ns : List Str), vs = [.ref p, .ref a, .int (z : Int)] ∧ z < n ∧ PoolAt H p c ∧ SqL K H a (ns.map V.str) ∧ a ≠ p ∧ 0 < ns.length ∧ ns.length ≤ 20 ∧
  ∀ (f : Fm) (v : V) (H' : Hp), FmAt K H' f v → f.dep ≤ z → f.In (· ∈ ns) → PoolAt H' p c → Keep [p] H H' → Q v H'
theorem str_at {ns : List Str} {y : Int} (h0 : 0 ≤ y) (h1 : y < ns.length) : ∃ x, x ∈ ns ∧ atI (ns.map V.str) y = some (.str x) := by
  have h : y.toNat < ns.length := by omega
  exact ⟨ns[y.toNat], List.getElem_mem h, atI_int h0 (by rw [List.getElem?_map, List.getElem?_eq_getElem h]; rfl)⟩
section
variable {P : Program} {w : World} {K : PySem.W.Frag} {mg : Str → Option Value} {base : Heap}
theorem ok_formula (T : Facts w K mg) : ∀ n : Nat, Ok P w K mg base (4 + n) "_law_formula" ["_law_pool_here", "_law_names_here", "_law_depth"] (spFormula K n) := by
  intro n
  induction n with
  | zero =>
    refine T.d__law_formula.F.ok sc__law_formula (fun vs H Q E h => ?_) (fun cdv A outer s H vs Q E hr h => ?_)
    · obtain ⟨p, c, a, z, ns, rfl, hz, _⟩ := h
      exact absurd hz (Nat.not_lt_zero _)
    · obtain ⟨p, c, a, z, ns, rfl, hz, _⟩ := h
      exact absurd hz (Nat.not_lt_zero _)
  | succ n ih =>
    refine T.d__law_formula.F.ok sc__law_formula (fun vs H Q E h => ?_) (fun cdv A outer s H vs Q E hr h => ?_)
    · obtain ⟨p, c, a, z, ns, rfl, _⟩ := h
      rfl
    · obtain ⟨p, c, a, z, ns, rfl, hz, hp, ha, nap, h0, h20, k⟩ := h
      have hr4 : Room (4 + n) _ := hr
      have hr2 : Room 2 _ := hr4.mono (by omega)
      have hr3 : Room 3 _ := hr4.mono (by omega)
      refine ⟨_, PSs.nox (pss_cons (ps_set (i := 3) sc__law_formula.nd rfl (Or.inl rfl) (pe_cl T.d__law_take (ok_take T) hr2 (pa_cons (pv 0) (pa_cons pe_int pa_nil)))) 
      (pss_cons (ps_if (PW.pt (pw_or (pt_cmpR op_lt (pv 2) pe_int (nomark _)) (pw_or1 (pt_cmpR op_lt (pv 3) pe_int (nomark _))))) (pss_cons (ps_if (pt_cmpR op_eq (pv 3) pe_int (nomark _)) (pss_one (ps_ret (pe_cl T.d__law_value (ok_value T) hr3 (pa_cons (pv 0) pa_nil)))) pss_nil) 
      (pss_one (ps_ret (pe_ix ix_list (pv 1) (pe_cl T.d__law_take (ok_take T) hr2 (pa_cons (pv 0) (pa_cons (pe_callB call_len_seq (by rfl) T.b_len PySem.boot_len (pa_cons (pv 1) pa_nil)) pa_nil))) (fun _ _ => rfl))))) pss_nil) 
      (pss_cons (ps_if (pt_cmpR op_eq (pv 3) pe_int (nomark _)) (pss_one (ps_ret (pe_tup (pa_cons pe_str (pa_cons (pe_ix ix_list (pv 1) (pe_cl T.d__law_take (ok_take T) hr2 (pa_cons (pv 0) (pa_cons (pe_callB call_len_seq (by rfl) T.b_len PySem.boot_len (pa_cons (pv 1) pa_nil)) pa_nil))) (fun _ _ => rfl)) pa_nil))))) pss_nil) 
      (pss_cons (ps_set (i := 4) sc__law_formula.nd rfl (Or.inl rfl) (pe_ix ix_tup (pe_tup (pa_cons pe_str (pa_cons pe_str (pa_cons pe_str (pa_cons pe_str (pa_cons pe_str (pa_cons pe_str pa_nil))))))) (pe_op op_sub (pv 3) pe_int) (fun _ _ => rfl))) 
      (pss_cons (ps_setLc (i := 5) (own := [("_law_k", 6)]) (g := gName 6) (by rfl) sc__law_formula.nd rfl rfl (sw_true rfl rfl rfl (by decide +kernel)) (pi_range1 (by rfl) T.b_range (pa_cons (pe_ifExp (pt_cmpR op_eq (pv 4) pe_str (nomark _)) pe_int pe_int) pa_nil)) (blkOk_by (N := ["_law_pool_here", "_law_names_here", "_law_depth", "_law_kind", "_law_head", "_law_parts", "_law_k"]) (sc := defScope s__law_formula) (own := [("_law_k", 6)]) (by decide +kernel)) (fun _ _ _ _ _ => pg_name (i := 6) sc__law_formula.nd rfl (Or.inl rfl)) (fun _ _ _ _ _ => pts_nil) (fun _ _ _ _ _ => (pe_cl T.d__law_formula ih hr4 (pa_cons (pv 0) (pa_cons (pv 1) (pa_cons (pe_op op_sub (pv 2) pe_int) pa_nil)))))) 
      (pss_one (ps_ret (pe_op op_catT (pe_tup (pa_cons (pv 4) pa_nil)) (pe_callTy call_tuple_of (by rfl) T.b_tuple (by decide +kernel) (pa_cons (pv 5) pa_nil)))))))))), ?_⟩
      refine ⟨_, rfl, p, c, _, rfl, hp, ⟨by decide, by decide⟩, fun kd H1 hk0 hk1 hp1 k1 => ?_⟩
      have ha1 := k1.lst ha (by simpa using nap)
      refine ⟨_, rfl, _, _, rfl, rfl, _, rfl, ifD (fun c1 => ?leaf1) (fun c1 => ⟨_, rfl, _, _, rfl, rfl, _, rfl, ifD (fun c2 => ?leaf2) (fun c2 => ?node)⟩)⟩
      case leaf1 | leaf2 =>
        refine ⟨_, rfl, rfl, _, rfl, ifD (fun c3 => ?_) (fun c3 => ?_)⟩
        · refine ⟨_, rfl, p, c, rfl, hp1, fun v H2 hv hp2 k2 => ?_⟩
          cases v with
          | non => exact k .non _ _ rfl (Nat.zero_le _) trivial hp2 (k1.trans k2)
          | int i => exact k (.int i) _ _ rfl (Nat.zero_le _) hv hp2 (k1.trans k2)
          | _ => exact hv.elim
        · refine ⟨_, rfl, _, rfl, _, rfl, _, _, rfl, .inl ha1, p, c, _, rfl, hp1, ⟨by rw [List.length_map]; omega, by rw [List.length_map]; omega⟩, fun y H2 hy0 hy1 hp2 k2 => ?_⟩
          rw [List.length_map] at hy1
          obtain ⟨x, hx, hat⟩ := str_at hy0 hy1
          exact ⟨_, _, _, _, rfl, rfl, k2.lst ha1 (by simpa using nap), hat, k (.name x) _ _ rfl (Nat.zero_le _) hx hp2 (k1.trans k2)⟩
      case node =>
        have hz1 : 1 ≤ z := by omega
        refine ⟨_, rfl, rfl, _, rfl, ifD (fun c3 => ?_) (fun c3 => ?_)⟩
        · -- cyclic
          refine ⟨_, rfl, _, rfl, _, rfl, _, _, rfl, .inl ha1, p, c, _, rfl, hp1, ⟨by rw [List.length_map]; omega, by rw [List.length_map]; omega⟩, fun y H2 hy0 hy1 hp2 k2 => ?_⟩
          rw [List.length_map] at hy1
          obtain ⟨x, hx, hat⟩ := str_at hy0 hy1
          refine ⟨_, _, _, _, rfl, rfl, k2.lst ha1 (by simpa using nap), hat, by show 2 ≤ sizeLine; decide, fun t ht => ?_⟩
          have k3 : Keep [] H2 (upd H2 t (.tup [.str "cyclic", .str x])) := Keep.refl.new ht
          exact k (.cyc x) _ _ ⟨t, rfl, SqT.of upd_same⟩ hz1 hx (hp2.keep0 k3) ((k1.trans k2).trans k3.of0)
        · -- the head
          have hkd : 4 ≤ kd := by
            have : kd ≠ 3 := fun e => c3 (by rw [e])
            have : ¬ kd < 3 := c2
            omega
          have hkl : (kd - 4).toNat < HEADS.length := by show (kd - 4).toNat < 6; omega
          generalize hhd : HEADS[(kd - 4).toNat] = hd
          have hmem : hd ∈ HEADS := by rw [← hhd]; exact List.getElem_mem hkl
          have hat : atI (HEADS.map V.str) (kd - 4) = some (.str hd) := atI_int (by omega) (by rw [List.getElem?_map, List.getElem?_eq_getElem hkl, hhd]; rfl)
          refine ⟨by show 6 ≤ sizeLine; decide, fun t ht => ?_⟩
          have k2 : Keep [] H1 (upd H1 t (.tup [.str "plus", .str "least", .str "or", .str "if", .str "or", .str "plus"])) := Keep.refl.new ht
          have hp2 := hp1.keep0 k2
          have ha2 := k2.lst ha1 (by simp)
          refine ⟨_, rfl, _, _, rfl, rfl, _, _, _, _, rfl, rfl, SqT.of upd_same, hat, ?_⟩
          generalize upd H1 t (.tup [.str "plus", .str "least", .str "or", .str "if", .str "or", .str "plus"]) = H2 at k2 hp2 ha2 ⊢
          -- one more part
          have one : ∀ (D : Addr), H2 D = none → ∀ (j : Nat) (H' : Hp) (fs : List Fm) (vs : List V), j < 3 → H' D = some (.lst vs) → vs.length = j → FmsAt K H' fs vs → (∀ f ∈ fs, f.dep ≤ z - 1 ∧ f.In (· ∈ ns)) → PoolAt H' p c → Keep [p] H2 H' →
              spFormula K n [.ref p, .ref a, .int ((z : Int) - 1)] H' (fun y H4 => ∃ acc, H4 D = some (.lst acc) ∧ acc.length < sizeLine ∧ ∃ (fs : List Fm) (vs : List V), (upd H4 D (.lst (acc ++ [y]))) D = some (.lst vs) ∧ vs.length = j + 1 ∧ FmsAt K (upd H4 D (.lst (acc ++ [y]))) fs vs ∧ (∀ f ∈ fs, f.dep ≤ z - 1 ∧ f.In (· ∈ ns)) ∧ PoolAt (upd H4 D (.lst (acc ++ [y]))) p c ∧ Keep [p] H2 (upd H4 D (.lst (acc ++ [y])))) E0 := by
            intro D hD j H' fs vs hj h1 h2 h3 h4 hp3 k3
            have nDp : D ≠ p := fun q => hp2.thereP (by rw [← q]; exact hD)
            refine ⟨p, c, a, z - 1, ns, by rw [Int.natCast_sub hz1]; rfl, by omega, hp3, k3.lst ha2 (by simpa using nap), nap, h0, h20, fun f v H4 hf hd hi hp4 k4 => ?_⟩
            have e1 := k4.k _ _ (by simpa using nDp) h1
            have kD : Keep [D] H4 (upd H4 D (.lst (vs ++ [v]))) := Keep.refl.upd (by simp) (by rw [e1]; trivial)
            refine ⟨vs, e1, small1000 (by omega), fs ++ [f], vs ++ [v], upd_same, by simp [h2], FmsAt.snoc (hf.keep kD) ((h3.keep k4).keep kD), fun g hg => ?_, hp2.fresh hp4 hD, (k3.trans k4).new hD⟩
            rcases List.mem_append.mp hg with q | q
            · exact h4 g q
            · rw [List.mem_singleton.mp q]; exact ⟨hd, hi⟩
          have kk : ∀ {H3 : Hp}, Keep [p] H2 H3 → Keep [p] H H3 := fun k3 => (k1.trans k2.of0).trans k3
          rcases heads_are hd hmem with rfl | ⟨w3, rfl⟩
          · refine ⟨_, rfl, rfl, _, rfl, ifP rfl ⟨_, rfl, by omega, by omega, fun D hD => lc_range (lo := 0) (n := (3 : Int).toNat) (fun j H' => ∃ (fs : List Fm) (vs : List V), H' D = some (.lst vs) ∧ vs.length = j ∧ FmsAt K H' fs vs ∧ (∀ f ∈ fs, f.dep ≤ z - 1 ∧ f.In (· ∈ ns)) ∧ PoolAt H' p c ∧ Keep [p] H2 H')
              ⟨[], [], upd_same, rfl, trivial, by simp, hp2.fresh hp2 hD, Keep.refl.new hD⟩ ?turn3 ?end3⟩⟩
            case turn3 =>
              rintro j H' hj ⟨fs, vs, h1, h2, h3, h4, hp3, k3⟩
              exact ⟨rfl, _, rfl, _, rfl, _, rfl, _, _, rfl, rfl, one D hD j H' fs vs hj h1 h2 h3 h4 hp3 k3⟩
            case end3 =>
              rintro H3 ⟨fs, vs, h1, h2, h3, h4, hp3, k3⟩
              obtain ⟨f1, f2, f3, x, y, v, rfl, rfl, g1, g2, g3⟩ := h3.three h2
              refine ⟨_, rfl, by show 1 ≤ sizeLine; decide, fun t1 ht1 => ⟨_, rfl, _, _, rfl, .inl ⟨SqL.of (by rw [upd_ne (ne_of_none h1 ht1)]; exact h1), fun t2 ht2 => ?_⟩⟩⟩
              have e12 : t1 ≠ t2 := ne_of_none upd_same ht2
              refine ⟨_, _, _, _, rfl, rfl, SqT.of (by rw [upd_ne e12]; exact upd_same), SqT.of upd_same, by simp, by show 4 ≤ sizeLine; decide, fun q => by simp at q, fun _ t3 ht3 => ?_⟩
              have k4 : Keep [] H3 (upd (upd (upd H3 t1 (.tup [.str "if"])) t2 (.tup [x, y, v])) t3 (.tup ([.str "if"] ++ [x, y, v]))) :=
                ((Keep.refl.new ht1).new (upd_none ht2)).new (upd_none (upd_none ht3))
              refine k (.ite f1 f2 f3) _ _ ⟨t3, x, y, v, rfl, SqT.of upd_same, g1.keep k4, g2.keep k4, g3.keep k4⟩ ?_ ⟨(h4 f1 (by simp)).2, (h4 f2 (by simp)).2, (h4 f3 (by simp)).2⟩ (hp3.keep0 k4) (kk (k3.trans k4.of0))
              have := (h4 f1 (by simp)).1
              have := (h4 f2 (by simp)).1
              have := (h4 f3 (by simp)).1
              show 1 + max f1.dep (max f2.dep f3.dep) ≤ z
              omega
          · have hw := word_if w3
            refine ⟨_, rfl, rfl, _, rfl, ifN (fun q => hw (V.str.inj q)) ⟨_, rfl, by omega, by omega, fun D hD => lc_range (lo := 0) (n := (2 : Int).toNat) (fun j H' => ∃ (fs : List Fm) (vs : List V), H' D = some (.lst vs) ∧ vs.length = j ∧ FmsAt K H' fs vs ∧ (∀ f ∈ fs, f.dep ≤ z - 1 ∧ f.In (· ∈ ns)) ∧ PoolAt H' p c ∧ Keep [p] H2 H')
              ⟨[], [], upd_same, rfl, trivial, by simp, hp2.fresh hp2 hD, Keep.refl.new hD⟩ ?turn2 ?end2⟩⟩
            case turn2 =>
              rintro j H' hj ⟨fs, vs, h1, h2, h3, h4, hp3, k3⟩
              exact ⟨rfl, _, rfl, _, rfl, _, rfl, _, _, rfl, rfl, one D hD j H' fs vs (Nat.lt_succ_of_lt hj) h1 h2 h3 h4 hp3 k3⟩
            case end2 =>
              rintro H3 ⟨fs, vs, h1, h2, h3, h4, hp3, k3⟩
              obtain ⟨f1, f2, x, y, rfl, rfl, g1, g2⟩ := h3.two h2
              refine ⟨_, rfl, by show 1 ≤ sizeLine; decide, fun t1 ht1 => ⟨_, rfl, _, _, rfl, .inl ⟨SqL.of (by rw [upd_ne (ne_of_none h1 ht1)]; exact h1), fun t2 ht2 => ?_⟩⟩⟩
              have e12 : t1 ≠ t2 := ne_of_none upd_same ht2
              refine ⟨_, _, _, _, rfl, rfl, SqT.of (by rw [upd_ne e12]; exact upd_same), SqT.of upd_same, by simp, by show 3 ≤ sizeLine; decide, fun q => by simp at q, fun _ t3 ht3 => ?_⟩
              have k4 : Keep [] H3 (upd (upd (upd H3 t1 (.tup [.str w3.word])) t2 (.tup [x, y])) t3 (.tup ([.str w3.word] ++ [x, y]))) :=
                ((Keep.refl.new ht1).new (upd_none ht2)).new (upd_none (upd_none ht3))
              refine k (.op w3 f1 f2) _ _ ⟨t3, x, y, rfl, SqT.of upd_same, g1.keep k4, g2.keep k4⟩ ?_ ⟨(h4 f1 (by simp)).2, (h4 f2 (by simp)).2⟩ (hp3.keep0 k4) (kk (k3.trans k4.of0))
              have := (h4 f1 (by simp)).1
              have := (h4 f2 (by simp)).1
              show 1 + max f1.dep f2.dep ≤ z
              omega
end
end Q

namespace Q
open PySem PySem.Spec PyProof.Rows L2
/-! ### what is looked at by isinstance -/
def kindV (K : PySem.W.Frag) (H : Hp) (v : V) (t : String) : Prop := TyX K H v (.type t)
theorem ty_tup {K : PySem.W.Frag} {H : Hp} {a : Addr} {xs : List V} (h : SqT K H a xs) : TyX K H (.ref a) (.type "tuple") := by
  rcases h with (h | ⟨o, h⟩) | ⟨o, its, n, h, c, _⟩
  · exact .base (.tup h)
  · exact .fTuple h
  · exact .kTuple h c
/-- the type of a formula's value -/
def Fm.ty : Fm → String
  | .non => "NoneType"
  | .int _ => "int"
  | .name _ => "str"
  | _ => "tuple"
theorem FmAt.ty {K : PySem.W.Frag} {H : Hp} : ∀ {f : Fm} {v : V}, FmAt K H f v → TyX K H v (.type f.ty)
  | .non, _, h => by cases h; exact .base .non
  | .int i, _, h => by cases h; exact .base (.int i)
  | .name x, _, h => by cases h; exact .base (.str x)
  | .cyc _, _, h => by
    obtain ⟨a, rfl, h⟩ := h
    exact ty_tup h
  | .op _ _ _, _, h => by
    obtain ⟨a, x, y, rfl, h, _⟩ := h
    exact ty_tup h
  | .ite _ _ _, _, h => by
    obtain ⟨a, x, y, z, rfl, h, _⟩ := h
    exact ty_tup h
/-! ### the lengths of the words -/
theorem len_at {w : World} {K : PySem.W.Frag} {mg : Str → Option Value} (T : Facts w K mg) {z : Str} {n : Int} (h : (z, He.Dv.int n) ∈ ([("plus", .int 3), ("least", .int 3), ("or", .int 3), ("if", .int 4), ("cyclic", .int 2)] : List (Str × He.Dv))) :
    KDct K w (He.ga K "LENGTHS") z (.int n) := by
  obtain ⟨es, m, D⟩ := T.t_LENGTHS
  obtain ⟨u, e, r⟩ := He.valsB_ok T.v_LENGTHS h
  exact ⟨es, m, u, D.at_, D.lit, e, r⟩
theorem len_in {w : World} {K : PySem.W.Frag} {mg : Str → Option Value} (T : Facts w K mg) {z : Str} {n : Int} (h : (z, He.Dv.int n) ∈ ([("plus", .int 3), ("least", .int 3), ("or", .int 3), ("if", .int 4), ("cyclic", .int 2)] : List (Str × He.Dv))) :
    ∃ u, PySem.W.nsIn K (He.ga K "LENGTHS") z = some (some u) := by
  obtain ⟨u, e, r⟩ := He.valsB_ok T.v_LENGTHS h
  exact ⟨u, e⟩
theorem word_len (w : Op3) : (w.word, He.Dv.int 3) ∈ ([("plus", .int 3), ("least", .int 3), ("or", .int 3), ("if", .int 4), ("cyclic", .int 2)] : List (Str × He.Dv)) := by
  cases w
  · exact List.mem_cons_self ..
  · exact List.mem_cons_of_mem _ (List.mem_cons_self ..)
  · exact List.mem_cons_of_mem _ (List.mem_cons_of_mem _ (List.mem_cons_self ..))
theorem word_cyc (w : Op3) : ¬ w.word = ("cyclic" : Str) := by cases w <;> decide +kernel
/-- formulas of depth below n that are right: nothing is raised -/
def spCheck (K : PySem.W.Frag) (n : Nat) : Sp := fun vs H Q _ => ∃ (f : Fm) (v : V) (a : Addr) (way : List Int), vs = [v, .ref a] ∧ FmAt K H f v ∧ SqT K H a (way.map V.int) ∧ f.dep < n ∧ way.length + f.dep ≤ 6 ∧ f.In IsNm ∧ ∀ H', Keep [] H H' → Q .non H'
def spParts (K : PySem.W.Frag) (n : Nat) : Sp := fun vs H Q _ => ∃ (f : Fm) (v : V) (a : Addr) (way : List Int), vs = [v, .ref a] ∧ FmAt K H f v ∧ f.ty = "tuple" ∧ SqT K H a (way.map V.int) ∧ f.dep ≤ n ∧ way.length + f.dep ≤ 6 ∧ f.In IsNm ∧ ∀ H', Keep [] H H' → Q .non H'
theorem dep_pos : ∀ {f : Fm}, f.ty = "tuple" → 1 ≤ f.dep
  | .non, h => absurd h (by decide)
  | .int _, h => absurd h (by show ¬ "int" = "tuple"; decide)
  | .name _, h => absurd h (by show ¬ "str" = "tuple"; decide)
  | .cyc _, _ => Nat.le_refl _
  | .op _ _ _, _ => Nat.le_add_right _ _
  | .ite _ _ _, _ => Nat.le_add_right _ _
abbrev LENS : List (Str × He.Dv) := [("plus", .int 3), ("least", .int 3), ("or", .int 3), ("if", .int 4), ("cyclic", .int 2)]
theorem FmsAt.get {K : PySem.W.Frag} {H : Hp} : ∀ {fs : List Fm} {vs : List V}, FmsAt K H fs vs → ∀ i, i < vs.length → ∃ f v, fs[i]? = some f ∧ vs[i]? = some v ∧ FmAt K H f v
  | [], [], _, i, h => absurd h (Nat.not_lt_zero _)
  | f :: _, v :: _, h, 0, _ => ⟨f, v, rfl, rfl, h.1⟩
  | _ :: fs, _ :: vs, h, i + 1, hi => FmsAt.get h.2 i (Nat.lt_of_succ_lt_succ hi)
/-- a formula with parts, by its word and the values behind it -/
theorem FmAt.node {K : PySem.W.Frag} {H : Hp} : ∀ {f : Fm} {v : V}, FmAt K H f v → f.ty = "tuple" → ∃ (b : Addr) (z : Str) (xs : List V), v = .ref b ∧ SqT K H b (.str z :: xs) ∧ (z, He.Dv.int ((xs.length : Int) + 1)) ∈ LENS ∧
    ((z = "cyclic" ∧ ∃ x, f = .cyc x ∧ xs = [.str x]) ∨ (¬ z = ("cyclic" : Str) ∧ xs.length ≤ 3 ∧ ∃ fs, FmsAt K H fs xs ∧ ∀ g ∈ fs, g.dep + 1 ≤ f.dep ∧ ∀ p : Str → Prop, f.In p → g.In p))
  | .non, _, _, h => absurd h (by decide)
  | .int _, _, _, h => absurd h (by show ¬ "int" = "tuple"; decide)
  | .name _, _, _, h => absurd h (by show ¬ "str" = "tuple"; decide)
  | .cyc x, _, h, _ => by
    obtain ⟨a, rfl, h⟩ := h
    exact ⟨a, _, _, rfl, h, List.mem_of_getElem? (i := 4) rfl, .inl ⟨rfl, x, rfl, rfl⟩⟩
  | .op w f g, _, h, _ => by
    obtain ⟨a, x, y, rfl, h, hf, hg⟩ := h
    refine ⟨a, _, _, rfl, h, word_len w, .inr ⟨word_cyc w, (by show 2 ≤ 3; decide), [f, g], ⟨hf, hg, trivial⟩, fun q hq => ?_⟩⟩
    simp only [List.mem_cons, List.not_mem_nil, or_false] at hq
    rcases hq with rfl | rfl
    · exact ⟨by show _ ≤ 1 + max _ _; omega, fun p z => z.1⟩
    · exact ⟨by show _ ≤ 1 + max _ _; omega, fun p z => z.2⟩
  | .ite c f g, _, h, _ => by
    obtain ⟨a, x, y, z, rfl, h, hc, hf, hg⟩ := h
    refine ⟨a, _, _, rfl, h, List.mem_of_getElem? (i := 3) rfl, .inr ⟨by decide +kernel, (by show 3 ≤ 3; decide), [c, f, g], ⟨hc, hf, hg, trivial⟩, fun q hq => ?_⟩⟩
    simp only [List.mem_cons, List.not_mem_nil, or_false] at hq
    rcases hq with rfl | rfl | rfl
    · exact ⟨by show _ ≤ 1 + max _ (max _ _); omega, fun p z => z.1⟩
    · exact ⟨by show _ ≤ 1 + max _ (max _ _); omega, fun p z => z.2.1⟩
    · exact ⟨by show _ ≤ 1 + max _ (max _ _); omega, fun p z => z.2.2⟩
theorem at0 {α : Type} {a : α} {l : List α} : atI (a :: l) 0 = some a := atI_nat (j := 0) rfl
theorem way_snoc (way : List Int) (i : Int) : way.map V.int ++ [V.int i] = (way ++ [i]).map V.int := by simp
section
variable {P : Program} {w : World} {K : PySem.W.Frag} {mg : Str → Option Value} {base : Heap}
theorem ok_parts (T : Facts w K mg) (n : Nat) (ih : Ok P w K mg base (2 * n + 1) "check_formula" ["formula", "way"] (spCheck K n)) : Ok P w K mg base (2 * n + 2) "check_parts" ["formula", "way"] (spParts K n) := by
  obtain ⟨es, nn, DL⟩ := T.t_LENGTHS
  refine T.d_check_parts.F.ok sc_check_parts (fun vs H Q E h => ?_) (fun cdv A outer s H vs Q E hr h => ?_)
  · obtain ⟨f, v, a, way, rfl, _⟩ := h
    rfl
  · obtain ⟨f, v, a, way, rfl, hf, hty, ha, hd, hw, hi, k⟩ := h
    have hr1 : Room 1 _ := hr.mono (by omega)
    refine ⟨_, PSs.nox (pss_cons (ps_if (pt_cmpR op_eq (pe_callB call_len_seq (by rfl) T.b_len PySem.boot_len (pa_cons (pv 1) pa_nil)) (T.e_MOST_DEPTH (by rfl)) (nomark _)) (pss_one ps_never) pss_nil) 
      (pss_cons (ps_if (PW.pt (pw_or (pt_not (pt_truth (pv 0) (by intro _; rfl))) (pw_or1 (pt_cmpR (op_notIn_kd DL) (pe_ix ix_tup (pv 0) pe_int (fun _ _ => rfl)) (T.e_LENGTHS (by rfl)) (by rfl))))) (pss_one ps_never) pss_nil) 
      (pss_cons (ps_if (pt_cmpR op_ne (pe_callB call_len_seq (by rfl) T.b_len PySem.boot_len (pa_cons (pv 0) pa_nil)) (pe_ix ix_kdict (T.e_LENGTHS (by rfl)) (pe_ix ix_tup (pv 0) pe_int (fun _ _ => rfl)) (fun _ _ => rfl)) (nomark _)) (pss_one ps_never) pss_nil) 
      (pss_cons (ps_if (pt_cmpR op_eq (pe_ix ix_tup (pv 0) pe_int (fun _ _ => rfl)) pe_str (nomark _)) (pss_cons (ps_if (PW.pt (pw_or (pt_not (pt_val (pe_callB call_isi (by rfl) T.b_isinstance (by decide +kernel) (pa_cons (pe_ix ix_tup (pv 0) pe_int (fun _ _ => rfl)) (pa_cons (pe_bltn (v := .ty "str") (u := .type "str") (by rfl) T.b_str (by decide +kernel) rfl) pa_nil))))) (pw_or1 (pt_not (pt_val (pe_cl T.d_is_name (ok_is_name T) hr1 (pa_cons (pe_ix ix_tup (pv 0) pe_int (fun _ _ => rfl)) pa_nil))))))) (pss_one ps_never) pss_nil) 
      (pss_one ps_retN)) pss_nil) 
      (pss_one (ps_for PassesOwn.never rfl (pi_range2 (by rfl) T.b_range (pa_cons pe_int (pa_cons (pe_callB call_len_seq (by rfl) T.b_len PySem.boot_len (pa_cons (pv 0) pa_nil)) pa_nil))) (pg_name (i := 2) sc_check_parts.nd rfl (Or.inl rfl)) (pss_one (ps_expr (pe_cld T.d_check_formula ih hr (pa_cons (pe_ix ix_tup (pv 0) (pv 2) (fun _ _ => rfl)) (pa_cons (pe_op op_catA (pv 1) (pe_tup (pa_cons (pv 2) pa_nil))) pa_nil))))))))))), ?_⟩
    have hd1 := dep_pos hty
    obtain ⟨b, z, xs, rfl, hT, hlen, hcase⟩ := hf.node hty
    obtain ⟨u, hu⟩ := len_in T hlen
    refine ⟨_, rfl, _, _, rfl, .inr ha, rfl, _, rfl, ifN (fun e => ?_) ?_⟩
    · have e' := V.int.inj e
      rw [List.length_map] at e'
      omega
    refine ⟨_, rfl, true, .inr (.inl ⟨_, hT, rfl⟩), ?_⟩
    refine ⟨_, rfl, _, _, _, _, rfl, rfl, hT, at0, _, _, rfl, rfl, hu, _, rfl, ?_⟩
    refine ⟨_, rfl, _, _, rfl, .inr hT, _, rfl, _, _, _, _, rfl, rfl, hT, at0, _, _, _, rfl, rfl, len_at T hlen, rfl, _, rfl, ifnP (by simp) ?_⟩
    refine ⟨_, rfl, _, _, _, _, rfl, rfl, hT, at0, rfl, _, rfl, ?_⟩
    rcases hcase with ⟨rfl, x, rfl, rfl⟩ | ⟨hnc, hx3, fs, hfs, hall⟩
    · -- cyclic
      refine ifP rfl ?_
      refine ⟨_, rfl, _, _, _, _, rfl, rfl, hT, rfl, _, _, _, _, true, rfl, .ty _, .base (.str x), kit_ty (by decide +kernel), _, rfl, ?_⟩
      have hx : IsNm x := hi
      refine ⟨_, rfl, _, _, _, _, rfl, rfl, hT, rfl, x, rfl, small1000 (Nat.le_trans hx.l2 (by decide)), fun H1 k1 => ?_⟩
      rw [hx.b]
      exact ⟨_, rfl, k _ k1⟩
    · refine ifN (fun e => hnc (V.str.inj e)) ?_
      refine ⟨_, rfl, _, _, rfl, .inr hT, _, _, rfl, ⟨by decide, by decide, by simp; omega, by simp; omega⟩, for_range (lo := 1) (n := (((V.str z :: xs).length : Int) - 1).toNat) (fun i σ H' => ∃ o, σ = [some (.ref b), some (.ref a), o] ∧ Keep [] H H') ⟨none, rfl, Keep.refl⟩ ?_ ?_⟩
      · rintro i σ H1 hil ⟨o, rfl, k1⟩
        have hil2 : i < xs.length := by
          rw [List.length_cons] at hil
          omega
        obtain ⟨g, y, e1, e2, hg⟩ := hfs.get i hil2
        obtain ⟨g1, g2⟩ := hall g (List.mem_of_getElem? e1)
        have ha1 := k1.tup ha
        refine ⟨_, rfl, _, rfl, _, _, _, _, rfl, rfl, k1.tup hT, at_of (j := i + 1) (by omega) (by rw [List.getElem?_cons_succ]; exact e2), _, rfl, _, rfl, by show 1 ≤ sizeLine; decide, fun t ht => ?_⟩
        have k2 : Keep [] H1 (upd H1 t (.tup [.int (1 + (i : Int))])) := Keep.refl.new ht
        have ha2 := k2.tup ha1
        have fin : ∀ (H2 : Hp) (q : Addr), Keep [] H1 H2 → SqT K H2 q ((way ++ [1 + (i : Int)]).map V.int) → spCheck K n [y, .ref q] H2 (fun _ H' => ∃ o, [some (V.ref b), some (V.ref a), some (V.int (1 + (i : Int)))] = [some (V.ref b), some (V.ref a), o] ∧ Keep [] H H') E0 := fun H2 q k3 hq =>
          ⟨g, y, q, way ++ [1 + (i : Int)], rfl, (hg.keep k1).keep k3, hq, by omega, by simp; omega, g2 _ hi, fun H3 k4 => ⟨_, rfl, (k1.trans k3).trans k4⟩⟩
        refine ⟨_, _, _, _, rfl, rfl, ha2, SqT.of upd_same, by rw [List.length_map]; exact Nat.le_of_lt (small1000 (by show way.length + 1 ≤ 1000; omega)), fun e => ?_, fun _ e => by simp at e, fun e _ q hq => ?_⟩
        · have e' : way = [] := List.map_eq_nil_iff.mp e
          subst e'
          exact fin _ _ k2 (SqT.of upd_same)
        · refine fin _ _ (k2.trans (Keep.refl.new hq)) (SqT.of ?_)
          rw [upd_same, ← way_snoc]
      · rintro σ H1 ⟨o, rfl, k1⟩
        exact k H1 k1
end
end Q

namespace Q
open PySem PySem.Spec PyProof.Rows L2
section
variable {P : Program} {w : World} {K : PySem.W.Frag} {mg : Str → Option Value} {base : Heap}
theorem ok_check_n (T : Facts w K mg) : ∀ n : Nat, Ok P w K mg base (2 * n + 1) "check_formula" ["formula", "way"] (spCheck K n) := by
  intro n
  induction n with
  | zero =>
    refine T.d_check_formula.F.ok sc_check_formula (fun vs H Q E h => ?_) (fun cdv A outer s H vs Q E hr h => ?_)
    · obtain ⟨f, v, a, way, rfl, _, _, hd, _⟩ := h
      exact absurd hd (Nat.not_lt_zero _)
    · obtain ⟨f, v, a, way, rfl, _, _, hd, _⟩ := h
      exact absurd hd (Nat.not_lt_zero _)
  | succ n ih =>
    have okp := ok_parts (P := P) (base := base) T n ih
    refine T.d_check_formula.F.ok sc_check_formula (fun vs H Q E h => ?_) (fun cdv A outer s H vs Q E hr h => ?_)
    · obtain ⟨f, v, a, way, rfl, _⟩ := h
      rfl
    · obtain ⟨f, v, a, way, rfl, hf, ha, hd, hw, hi, k⟩ := h
      have hr0 : Room (2 * n + 2) _ := hr
      have hr1 : Room 1 _ := hr0.mono (by omega)
      refine ⟨_, PSs.nox (pss_one (ps_if (pt_val (pe_callB call_isi (by rfl) T.b_isinstance (by decide +kernel) (pa_cons (pv 0) (pa_cons (pe_bltn (v := .ty "tuple") (u := .type "tuple") (by rfl) T.b_tuple (by decide +kernel) rfl) pa_nil)))) (pss_one (ps_expr (pe_cl T.d_check_parts okp hr0 (pa_cons (pv 0) (pa_cons (pv 1) pa_nil))))) (pss_one (ps_if (pt_val (pe_callB call_isi (by rfl) T.b_isinstance (by decide +kernel) (pa_cons (pv 0) (pa_cons (pe_bltn (v := .ty "str") (u := .type "str") (by rfl) T.b_str (by decide +kernel) rfl) pa_nil)))) (pss_one (ps_if (pt_not (pt_val (pe_cl T.d_is_name (ok_is_name T) hr1 (pa_cons (pv 0) pa_nil)))) (pss_one ps_never) pss_nil)) (pss_one (ps_if (pt_not (pt_val (pe_cl T.d_is_in_range (ok_is_in_range T) hr1 (pa_cons (pv 0) pa_nil)))) (pss_one ps_never) pss_nil)))))), ?_⟩
      by_cases ht : f.ty = "tuple"
      · refine ⟨_, rfl, _, _, _, _, true, rfl, .ty _, hf.ty, by rw [ht]; exact kit_ty (by decide +kernel), _, rfl, ?_⟩
        exact ⟨_, rfl, _, rfl, f, v, a, way, rfl, hf, ht, ha, by omega, hw, hi, fun H1 k1 => k H1 k1⟩
      · refine ⟨_, rfl, _, _, _, _, false, rfl, .ty _, hf.ty, ?_, _, rfl, ?_⟩
        · cases f <;> first | exact absurd rfl ht | (show PySem.W.kitOne K (.type "NoneType") (.type "tuple") = some false; exact kit_ty (by decide +kernel)) | (show PySem.W.kitOne K (.type "int") (.type "tuple") = some false; exact kit_ty (by decide +kernel)) | (show PySem.W.kitOne K (.type "str") (.type "tuple") = some false; exact kit_ty (by decide +kernel))
        · cases f with
          | non =>
            cases hf
            refine ⟨_, rfl, _, _, _, _, false, rfl, .ty _, .base .non, kit_ty (by decide +kernel), _, rfl, ?_⟩
            refine ⟨_, rfl, _, rfl, .inl rfl, ?_⟩
            exact ⟨_, rfl, k _ Keep.refl⟩
          | int i =>
            cases hf
            refine ⟨_, rfl, _, _, _, _, false, rfl, .ty _, .base (.int i), kit_ty (by decide +kernel), _, rfl, ?_⟩
            refine ⟨_, rfl, _, rfl, .inr ⟨_, rfl⟩, ?_⟩
            have e : inB (.int i) = true := by
              have hi' : -1000000 ≤ i ∧ i ≤ 1000000 := hi
              show (decide (-1000000 ≤ i) && decide (i ≤ 1000000)) = true
              rw [decide_eq_true hi'.1, decide_eq_true hi'.2]
              rfl
            rw [e]
            exact ⟨_, rfl, k _ Keep.refl⟩
          | name x =>
            cases hf
            have hx : IsNm x := hi
            refine ⟨_, rfl, _, _, _, _, true, rfl, .ty _, .base (.str x), kit_ty (by decide +kernel), _, rfl, ?_⟩
            refine ⟨_, rfl, x, rfl, small1000 (Nat.le_trans hx.l2 (by decide)), fun H1 k1 => ?_⟩
            rw [hx.b]
            exact ⟨_, rfl, k _ k1⟩
          | _ => exact absurd rfl ht
/-- as define and the law call it: the way is left out -/
def spCheck1 (K : PySem.W.Frag) : Sp := fun vs H Q _ => ∃ (f : Fm) (v : V) (a : Addr), vs = [v, .ref a] ∧ FmAt K H f v ∧ SqT K H a [] ∧ f.dep ≤ 6 ∧ f.In IsNm ∧ ∀ H', Keep [] H H' → Q .non H'
theorem ok_check (T : Facts w K mg) : Ok P w K mg base 15 "check_formula" ["formula", "way"] (spCheck1 K) :=
  (ok_check_n T 7).imp fun vs H Q E h => by
    obtain ⟨f, v, a, e, hf, ha, hd, hi, k⟩ := h
    exact ⟨f, v, a, [], e, hf, ha, by omega, by simpa using hd, hi, k⟩
end
end Q

namespace Q
open PySem PySem.Spec PyProof.Rows L2
/-! ### dicts with text keys, by their pairs -/
section
variable {α : Type}
def KvAt (R : α → V → Prop) : List (Str × α) → List (Key × V) → Prop
  | [], [] => True
  | (x, a) :: l, (k, v) :: m => k = Sum.inr x ∧ R a v ∧ KvAt R l m
  | _, _ => False
theorem KvAt.imp {R S : α → V → Prop} (h : ∀ a v, R a v → S a v) : ∀ {l : List (Str × α)} {m : List (Key × V)}, KvAt R l m → KvAt S l m
  | [], [], _ => trivial
  | (_, _) :: _, (_, _) :: _, z => ⟨z.1, h _ _ z.2.1, KvAt.imp h z.2.2⟩
theorem KvAt.len {R : α → V → Prop} : ∀ {l : List (Str × α)} {m : List (Key × V)}, KvAt R l m → m.length = l.length
  | [], [], _ => rfl
  | (_, _) :: _, (_, _) :: _, z => congrArg Nat.succ (KvAt.len z.2.2)
theorem KvAt.keys {R : α → V → Prop} : ∀ {l : List (Str × α)} {m : List (Key × V)}, KvAt R l m → m.map (·.1) = l.map fun p => Sum.inr p.1
  | [], [], _ => rfl
  | (x, _) :: _, (_, _) :: _, z => by
    rw [List.map_cons, List.map_cons, KvAt.keys z.2.2, z.1]
theorem lookup_eq (x y : Str) (a : α) (l : List (Str × α)) : List.lookup x ((y, a) :: l) = if x = y then some a else List.lookup x l := by
  by_cases h : x = y
  · subst h
    simp [List.lookup]
  · have e : (x == y) = false := by simpa using h
    rw [if_neg h]
    simp [List.lookup, e]
theorem KvAt.get {R : α → V → Prop} (x : Str) : ∀ {l : List (Str × α)} {m : List (Key × V)}, KvAt R l m → (l.lookup x = none ∧ valV m (Sum.inr x : Key) = none) ∨ ∃ a v, l.lookup x = some a ∧ valV m (Sum.inr x : Key) = some v ∧ R a v
  | [], [], _ => .inl ⟨rfl, rfl⟩
  | (y, a) :: l, (k, v) :: m, z => by
    obtain ⟨rfl, r, t⟩ := z
    rw [lookup_eq]
    by_cases h : x = y
    · subst h
      exact .inr ⟨a, v, if_pos rfl, valV_pos rfl, r⟩
    · rw [if_neg h, valV_neg (fun e => h (Sum.inr.inj e).symm)]
      exact KvAt.get x t
theorem KvAt.yes {R : α → V → Prop} {x : Str} {a : α} {l : List (Str × α)} {m : List (Key × V)} (h : KvAt R l m) (e : l.lookup x = some a) : ∃ v, valV m (Sum.inr x : Key) = some v ∧ R a v := by
  rcases h.get x with ⟨h1, _⟩ | ⟨b, v, h1, h2, h3⟩
  · rw [e] at h1; cases h1
  · rw [e] at h1
    cases h1
    exact ⟨v, h2, h3⟩
theorem KvAt.no {R : α → V → Prop} {x : Str} {l : List (Str × α)} {m : List (Key × V)} (h : KvAt R l m) (e : l.lookup x = none) : valV m (Sum.inr x : Key) = none := by
  rcases h.get x with ⟨_, h2⟩ | ⟨b, v, h1, _⟩
  · exact h2
  · rw [e] at h1; cases h1
theorem KvAt.snoc {R : α → V → Prop} {x : Str} {a : α} {v : V} (r : R a v) : ∀ {l : List (Str × α)} {m : List (Key × V)}, KvAt R l m → KvAt R (l ++ [(x, a)]) (m ++ [(Sum.inr x, v)])
  | [], [], _ => ⟨rfl, r, trivial⟩
  | (_, _) :: _, (_, _) :: _, z => ⟨z.1, z.2.1, KvAt.snoc r z.2.2⟩
theorem KvAt.put {R : α → V → Prop} {x : Str} {a : α} {v : V} {l : List (Str × α)} {m : List (Key × V)} (h : KvAt R l m) (r : R a v) (e : l.lookup x = none) : KvAt R (l ++ [(x, a)]) (putK m (Sum.inr x) v) := by
  rw [putK_new v (h.no e)]
  exact h.snoc r
end
/-! ### what cells hold -/
/-- an answer -/
inductive Ans where
  | non | int (i : Int) | cyc
  deriving DecidableEq
def Ans.v : Ans → V
  | .non => .non
  | .int i => .int i
  | .cyc => .str "cyclic"
inductive Rule where
  | inp (a : Ans) | fml (f : Fm)
def RuleAt (K : PySem.W.Frag) (H : Hp) (r : Rule) (v : V) : Prop := match r with
  | .inp a => ∃ t, v = .ref t ∧ SqT K H t [.str "input", a.v]
  | .fml f => ∃ t y, v = .ref t ∧ SqT K H t [.str "formula", y] ∧ FmAt K H f y
theorem RuleAt.keep {K : PySem.W.Frag} {H H1 : Hp} {M : List Addr} (k : Keep M H H1) {r : Rule} {v : V} (h : RuleAt K H r v) : RuleAt K H1 r v := by
  cases r with
  | inp a =>
    obtain ⟨t, e, h⟩ := h
    exact ⟨t, e, k.tup h⟩
  | fml f =>
    obtain ⟨t, y, e, h, hf⟩ := h
    exact ⟨t, y, e, k.tup h, hf.keep k⟩
/-- what was told: a name, its answer -/
abbrev Told := List (Str × Ans)
def ToldAt (K : PySem.W.Frag) (H : Hp) : Told → List V → Prop
  | [], [] => True
  | (x, a) :: l, v :: vs => (∃ t, v = .ref t ∧ SqT K H t [.str x, a.v]) ∧ ToldAt K H l vs
  | _, _ => False
theorem ToldAt.keep {K : PySem.W.Frag} {H H1 : Hp} {M : List Addr} (k : Keep M H H1) : ∀ {l : Told} {vs : List V}, ToldAt K H l vs → ToldAt K H1 l vs
  | [], [], _ => trivial
  | (_, _) :: _, _ :: _, h => by
    obtain ⟨⟨t, e, h1⟩, h2⟩ := h
    exact ⟨⟨t, e, k.tup h1⟩, ToldAt.keep k h2⟩
theorem ToldAt.snoc {K : PySem.W.Frag} {H : Hp} {x : Str} {a : Ans} {t : Addr} (h : SqT K H t [.str x, a.v]) : ∀ {l : Told} {vs : List V}, ToldAt K H l vs → ToldAt K H (l ++ [(x, a)]) (vs ++ [.ref t])
  | [], [], _ => ⟨⟨t, rfl, h⟩, trivial⟩
  | (_, _) :: _, _ :: _, z => ⟨z.1, ToldAt.snoc h z.2⟩
theorem ToldAt.len {K : PySem.W.Frag} {H : Hp} : ∀ {l : Told} {vs : List V}, ToldAt K H l vs → vs.length = l.length
  | [], [], _ => rfl
  | (_, _) :: _, _ :: _, z => congrArg Nat.succ (ToldAt.len z.2)
structure Memo where
  reads : Told
  last : Option Str
  ans : Ans
def lastV : Option Str → V
  | none => .non
  | some x => .str x
def memoF (rl : Addr) (m : Memo) : List (Str × V) := [("reads", .ref rl), ("last", lastV m.last), ("answer", m.ans.v)]
/-- the memo m stands at v; its list is none of M -/
def MemoAt (K : PySem.W.Frag) (M : List Addr) (H : Hp) (m : Memo) (v : V) : Prop := ∃ (q dq rl : Addr) (vs : List V), v = .ref q ∧ H q = some (.ins (He.ga K "Memo") dq (memoF rl m)) ∧ q ∉ M ∧ H rl = some (.lst vs) ∧ rl ∉ M ∧ ToldAt K H m.reads vs
theorem MemoAt.keep {K : PySem.W.Frag} {M M' : List Addr} {H H1 : Hp} (k : Keep M' H H1) (s : ∀ x ∈ M', x ∈ M ∨ H x = none) {m : Memo} {v : V} (h : MemoAt K M H m v) : MemoAt K M H1 m v := by
  obtain ⟨q, dq, rl, vs, e, h1, n1, h2, n2, h3⟩ := h
  have n : ∀ x o, x ∉ M → H x = some o → x ∉ M' := fun x o nx e z => by
    rcases s x z with y | y
    · exact nx y
    · rw [e] at y; cases y
  exact ⟨q, dq, rl, vs, e, k.k _ _ (n _ _ n1 h1) h1, n1, k.k _ _ (n _ _ n2 h2) h2, n2, h3.keep k⟩
/-- the state of the cells -/
structure CS where
  rules : List (Str × Rule)
  memos : List (Str × Memo)
  opn : List Str
  ans : List (Str × Ans)
  run : List Str
  kept : List Str
  cyc : List Str
/-- where its parts stand -/
structure CA where
  c : Addr
  dx : Addr
  R : Addr
  M : Addr
  O : Addr
  V : Addr
  dv : Addr
  A : Addr
  Ru : Addr
  Ke : Addr
  Cy : Addr
def cellsF (a : CA) : List (Str × L2.V) := [("_rules", .ref a.R), ("_memos", .ref a.M), ("_open", .ref a.O), ("_revision", .ref a.V)]
def revF (a : CA) : List (Str × L2.V) := [("answers", .ref a.A), ("run", .ref a.Ru), ("kept", .ref a.Ke), ("cyclic", .ref a.Cy)]
/-- what an answer may write; all that stands for the cells -/
def CA.mut (a : CA) : List Addr := [a.M, a.O, a.A, a.Ru, a.Ke, a.Cy]
def CA.all (a : CA) : List Addr := a.c :: a.V :: a.R :: a.mut
/-- the cells at ca hold st; ex: what stands apart -/
structure CellsAt (K : PySem.W.Frag) (ex : List Addr) (H : Hp) (ca : CA) (st : CS) : Prop where
  c : H ca.c = some (.ins (He.ga K "Cells") ca.dx (cellsF ca))
  v : H ca.V = some (.ins (He.ga K "Revision") ca.dv (revF ca))
  r : ∃ kr, H ca.R = some (.dK kr) ∧ KvAt (RuleAt K H) st.rules kr
  m : ∃ km, H ca.M = some (.dK km) ∧ KvAt (MemoAt K (ex ++ ca.mut) H) st.memos km
  o : H ca.O = some (.lst (st.opn.map L2.V.str))
  a : ∃ ka, H ca.A = some (.dK ka) ∧ KvAt (fun (x : Ans) v => v = x.v) st.ans ka
  ru : H ca.Ru = some (.lst (st.run.map L2.V.str))
  ke : H ca.Ke = some (.lst (st.kept.map L2.V.str))
  cy : H ca.Cy = some (.lst (st.cyc.map L2.V.str))
  n : ca.all.Nodup
  e : ∀ x ∈ ex, x ∉ ca.all ∧ H x ≠ none
theorem CellsAt.there {K : PySem.W.Frag} {ex : List Addr} {H : Hp} {ca : CA} {st : CS} (h : CellsAt K ex H ca st) : ∀ x ∈ ca.all, H x ≠ none := by
  obtain ⟨kr, r1, r2⟩ := h.r
  obtain ⟨km, m1, m2⟩ := h.m
  obtain ⟨ka, a1, a2⟩ := h.a
  intro x hx
  simp only [CA.all, CA.mut, List.mem_cons, List.not_mem_nil, or_false] at hx
  rcases hx with rfl | rfl | rfl | rfl | rfl | rfl | rfl | rfl | rfl
  · rw [h.c]; simp
  · rw [h.v]; simp
  · rw [r1]; simp
  · rw [m1]; simp
  · rw [h.o]; simp
  · rw [a1]; simp
  · rw [h.ru]; simp
  · rw [h.ke]; simp
  · rw [h.cy]; simp
theorem lk_rules {a : CA} : (cellsF a).lookup ("_rules" : Str) = some (.ref a.R) := by kernel_rfl
theorem lk_memos {a : CA} : (cellsF a).lookup ("_memos" : Str) = some (.ref a.M) := by kernel_rfl
theorem lk_open {a : CA} : (cellsF a).lookup ("_open" : Str) = some (.ref a.O) := by kernel_rfl
theorem lk_rev {a : CA} : (cellsF a).lookup ("_revision" : Str) = some (.ref a.V) := by kernel_rfl
theorem lk_answers {a : CA} : (revF a).lookup ("answers" : Str) = some (.ref a.A) := by kernel_rfl
theorem lk_run {a : CA} : (revF a).lookup ("run" : Str) = some (.ref a.Ru) := by kernel_rfl
theorem lk_kept {a : CA} : (revF a).lookup ("kept" : Str) = some (.ref a.Ke) := by kernel_rfl
theorem lk_cyclic {a : CA} : (revF a).lookup ("cyclic" : Str) = some (.ref a.Cy) := by kernel_rfl
theorem lk_mreads {rl : Addr} {m : Memo} : (memoF rl m).lookup ("reads" : Str) = some (.ref rl) := by kernel_rfl
theorem lk_mlast {rl : Addr} {m : Memo} : (memoF rl m).lookup ("last" : Str) = some (lastV m.last) := by kernel_rfl
theorem lk_manswer {rl : Addr} {m : Memo} : (memoF rl m).lookup ("answer" : Str) = some m.ans.v := by kernel_rfl
/-- nothing of the cells is written -/
theorem CellsAt.keep {K : PySem.W.Frag} {ex : List Addr} {H H1 : Hp} {ca : CA} {st : CS} {M : List Addr} (h : CellsAt K ex H ca st) (k : Keep M H H1) (hM : ∀ x ∈ M, x ∈ ex ∨ H x = none) : CellsAt K ex H1 ca st := by
  have nM : ∀ x ∈ ca.all, x ∉ M := fun x hx z => by
    rcases hM x z with q | q
    · exact (h.e x q).1 hx
    · exact h.there x hx q
  have g : ∀ x o, x ∈ ca.all → H x = some o → H1 x = some o := fun x o hx e => k.k x o (nM x hx) e
  obtain ⟨kr, r1, r2⟩ := h.r
  obtain ⟨km, m1, m2⟩ := h.m
  obtain ⟨ka, a1, a2⟩ := h.a
  exact ⟨g _ _ (by simp [CA.all]) h.c, g _ _ (by simp [CA.all]) h.v, ⟨kr, g _ _ (by simp [CA.all]) r1, r2.imp fun _ _ z => z.keep k⟩,
    ⟨km, g _ _ (by simp [CA.all, CA.mut]) m1, m2.imp fun _ _ z => z.keep k fun x hx => (hM x hx).imp (fun q => List.mem_append_left _ q) id⟩, g _ _ (by simp [CA.all, CA.mut]) h.o, ⟨ka, g _ _ (by simp [CA.all, CA.mut]) a1, a2⟩,
    g _ _ (by simp [CA.all, CA.mut]) h.ru, g _ _ (by simp [CA.all, CA.mut]) h.ke, g _ _ (by simp [CA.all, CA.mut]) h.cy, h.n, fun x hx => ⟨(h.e x hx).1, fun z => (h.e x hx).2 (k.n x z)⟩⟩
theorem CellsAt.keep0 {K : PySem.W.Frag} {ex : List Addr} {H H1 : Hp} {ca : CA} {st : CS} (h : CellsAt K ex H ca st) (k : Keep [] H H1) : CellsAt K ex H1 ca st := h.keep k (by simp)
end Q

namespace Q
open PySem PySem.Spec PyProof.Rows L2
/-! ### what formulas are worth -/
def lim (i : Int) : Int := if i > 1000000 then 1000000 else if i < -1000000 then -1000000 else i
def tog (w : Op3) : Ans → Ans → Ans
  | .non, b => b
  | a, .non => a
  | .int i, .int j => match w with
    | .plus => .int (lim (i + j))
    | _ => .int (if j < i then j else i)
  | _, _ => .cyc
def wor (env : Str → Ans) : Fm → Ans × Told
  | .non => (.non, [])
  | .int i => (.int i, [])
  | .name x => (env x, [(x, env x)])
  | .cyc x => (.int (if env x = .cyc then 1 else 0), [(x, env x)])
  | .op w f g => if (wor env f).1 = .cyc then wor env f else
      if w = .or then (if (wor env f).1 = .non then ((wor env g).1, (wor env f).2 ++ (wor env g).2) else wor env f)
      else if (wor env g).1 = .cyc then (.cyc, (wor env f).2 ++ (wor env g).2) else (tog w (wor env f).1 (wor env g).1, (wor env f).2 ++ (wor env g).2)
  | .ite c f g => if (wor env c).1 = .cyc then wor env c else
      if (wor env c).1 = .non ∨ (wor env c).1 = .int 0 then ((wor env g).1, (wor env c).2 ++ (wor env g).2) else ((wor env f).1, (wor env c).2 ++ (wor env f).2)
theorem tog_nc {w : Op3} {a b : Ans} (ha : a ≠ .cyc) (hb : b ≠ .cyc) : tog w a b ≠ .cyc := by
  cases a <;> cases b <;> cases w <;> first | exact absurd rfl ha | exact absurd rfl hb | exact (fun z => by cases z)
theorem wor_nc {env : Str → Ans} (h : ∀ x, env x ≠ .cyc) : ∀ f : Fm, (wor env f).1 ≠ .cyc
  | .non => fun z => by cases z
  | .int _ => fun z => by cases z
  | .name x => h x
  | .cyc _ => fun z => by cases z
  | .op w f g => by
    have h1 := wor_nc h f
    have h2 := wor_nc h g
    unfold wor
    rw [if_neg h1]
    by_cases hw : w = .or
    · rw [if_pos hw]
      by_cases hn : (wor env f).1 = .non
      · rw [if_pos hn]; exact h2
      · rw [if_neg hn]; exact h1
    · rw [if_neg hw, if_neg h2]
      exact tog_nc h1 h2
  | .ite c f g => by
    have h1 := wor_nc h c
    unfold wor
    rw [if_neg h1]
    by_cases hn : (wor env c).1 = .non ∨ (wor env c).1 = .int 0
    · rw [if_pos hn]; exact wor_nc h g
    · rw [if_neg hn]; exact wor_nc h f
def spLimited : Sp := fun vs H Q _ => ∃ i : Int, vs = [.int i] ∧ Q (.int (lim i)) H
def spTogether : Sp := fun vs H Q _ => ∃ (w : Op3) (a b : Ans), vs = [.str w.word, a.v, b.v] ∧ a ≠ .cyc ∧ b ≠ .cyc ∧ Q (tog w a b).v H
section
variable {P : Program} {w : World} {K : PySem.W.Frag} {mg : Str → Option Value} {base : Heap}
theorem ok_limited (T : Facts w K mg) : Ok P w K mg base 1 "limited" ["number"] spLimited := by
  refine T.d_limited.F.ok sc_limited (fun vs H Q E h => ?_) (fun cdv A outer s H vs Q E hr h => ?_)
  · obtain ⟨i, rfl, _⟩ := h
    rfl
  · obtain ⟨i, rfl, k⟩ := h
    refine ⟨_, PSs.nox (pss_one (ps_ret (pe_callB (call_max2 rfl) (by rfl) T.b_max (by decide +kernel) (pa_cons (pe_un un_neg (T.e_MOST (by rfl))) (pa_cons (pe_callB (call_min2 rfl) (by rfl) T.b_min (by decide +kernel) (pa_cons (T.e_MOST (by rfl)) (pa_cons (pv 0) pa_nil))) pa_nil))))), ?_⟩
    refine ⟨_, rfl, _, rfl, _, _, rfl, _, _, rfl, ?_⟩
    have e : lim i = (if (if i < 1000000 then i else 1000000) > -1000000 then (if i < 1000000 then i else 1000000) else -1000000) := by
      unfold lim
      split <;> split <;> first | omega | (split <;> omega)
    rw [e] at k
    exact k
theorem ok_together (T : Facts w K mg) : Ok P w K mg base 2 "together" ["word", "one", "other"] spTogether := by
  refine T.d_together.F.ok sc_together (fun vs H Q E h => ?_) (fun cdv A outer s H vs Q E hr h => ?_)
  · obtain ⟨w3, a, b, rfl, _⟩ := h
    rfl
  · obtain ⟨w3, a, b, rfl, ha, hb, k⟩ := h
    refine ⟨_, PSs.nox (pss_cons (ps_if (pt_cmpR op_isN (pv 1) pe_non (nomark _)) (pss_one (ps_ret (pv 2))) pss_nil) 
      (pss_cons (ps_if (pt_cmpR op_isN (pv 2) pe_non (nomark _)) (pss_one (ps_ret (pv 1))) pss_nil) 
      (pss_cons (ps_if (pt_cmpR op_eq (pv 0) pe_str (nomark _)) (pss_one (ps_ret (pe_cl T.d_limited (ok_limited T) (hr.mono (by decide)) (pa_cons (pe_op op_add (pv 1) (pv 2)) pa_nil)))) pss_nil) 
      (pss_one (ps_ret (pe_callB (call_min2 rfl) (by rfl) T.b_min (by decide +kernel) (pa_cons (pv 1) (pa_cons (pv 2) pa_nil)))))))), ?_⟩
    cases a with
    | cyc => exact absurd rfl ha
    | non => exact ⟨_, rfl, rfl, _, rfl, ifP rfl ⟨_, rfl, k⟩⟩
    | int i =>
      refine ⟨_, rfl, rfl, _, rfl, ifN (fun z => by cases z) ?_⟩
      cases b with
      | cyc => exact absurd rfl hb
      | non => exact ⟨_, rfl, rfl, _, rfl, ifP rfl ⟨_, rfl, k⟩⟩
      | int j =>
        refine ⟨_, rfl, rfl, _, rfl, ifN (fun z => by cases z) ?_⟩
        refine ⟨_, rfl, rfl, _, rfl, ?_⟩
        cases w3 with
        | plus => exact ifP rfl ⟨_, rfl, _, rfl, _, _, rfl, rfl, _, rfl, k⟩
        | least => exact ifN (fun z => absurd (V.str.inj z) (by decide +kernel)) ⟨_, rfl, _, rfl, _, _, rfl, k⟩
        | or => exact ifN (fun z => absurd (V.str.inj z) (by decide +kernel)) ⟨_, rfl, _, rfl, _, _, rfl, k⟩
end
end Q

namespace Q
open PySem PySem.Spec PyProof.Rows L2
/-! ### asking -/
def askF (c : Addr) (nm : Str) (rl : Addr) (last : Option Str) : List (Str × V) := [("cells", .ref c), ("name", .str nm), ("reads", .ref rl), ("last", lastV last)]
theorem lk_cells {c rl : Addr} {nm : Str} {l : Option Str} : (askF c nm rl l).lookup ("cells" : Str) = some (.ref c) := by kernel_rfl
theorem lk_name {c rl : Addr} {nm : Str} {l : Option Str} : (askF c nm rl l).lookup ("name" : Str) = some (.str nm) := by kernel_rfl
theorem lk_reads {c rl : Addr} {nm : Str} {l : Option Str} : (askF c nm rl l).lookup ("reads" : Str) = some (.ref rl) := by kernel_rfl
theorem lk_last {c rl : Addr} {nm : Str} {l : Option Str} : (askF c nm rl l).lookup ("last" : Str) = some (lastV l) := by kernel_rfl
theorem put_last {c rl : Addr} {nm : Str} {l l' : Option Str} : putF "last" (lastV l') (askF c nm rl l) = askF c nm rl l' := by kernel_rfl
theorem ask_told {c rl : Addr} {nm : Str} {l : Option Str} : (askF c nm rl l).lookup ("told" : Str) = none := by kernel_rfl
theorem ask_same {c rl : Addr} {nm : Str} {l : Option Str} : (askF c nm rl l).lookup ("is_same" : Str) = none := by kernel_rfl
theorem cells_no {ca : CA} : (cellsF ca).lookup ("answer" : Str) = none ∧ (cellsF ca).lookup ("_answered" : Str) = none ∧ (cellsF ca).lookup ("_evaluated" : Str) = none ∧ (cellsF ca).lookup ("_close" : Str) = none ∧ (cellsF ca).lookup ("_set" : Str) = none ∧
    (cellsF ca).lookup ("_change" : Str) = none ∧ (cellsF ca).lookup ("put" : Str) = none ∧ (cellsF ca).lookup ("define" : Str) = none ∧ (cellsF ca).lookup ("ask" : Str) = none ∧ (cellsF ca).lookup ("reads" : Str) = none := by
  refine ⟨?_, ?_, ?_, ?_, ?_, ?_, ?_, ?_, ?_, ?_⟩ <;> kernel_rfl
structure AskAt (K : PySem.W.Frag) (H : Hp) (ca : CA) (q dq rl : Addr) (nm : Str) (last : Option Str) (rs : Told) : Prop where
  at_ : H q = some (.ins (He.ga K "Asking") dq (askF ca.c nm rl last))
  rd : ∃ vs, H rl = some (.lst vs) ∧ ToldAt K H rs vs
theorem AskAt.ne {K : PySem.W.Frag} {H : Hp} {ca : CA} {q dq rl : Addr} {nm : Str} {last : Option Str} {rs : Told} (h : AskAt K H ca q dq rl nm last rs) : q ≠ rl := by
  obtain ⟨vs, h1, _⟩ := h.rd
  exact ne_of h.at_ h1 (fun z => by cases z)
theorem AskAt.keep {K : PySem.W.Frag} {H H1 : Hp} {ca : CA} {q dq rl : Addr} {nm : Str} {last : Option Str} {rs : Told} {M : List Addr} (h : AskAt K H ca q dq rl nm last rs) (k : Keep M H H1) (nq : q ∉ M) (nr : rl ∉ M) : AskAt K H1 ca q dq rl nm last rs := by
  obtain ⟨vs, h1, h2⟩ := h.rd
  exact ⟨k.k _ _ nq h.at_, vs, k.k _ _ nr h1, h2.keep k⟩
/-! ### no rings: what each name is worth (V), and a rank that falls -/
structure Sem (rules : List (Str × Rule)) (U : Str → Ans) (rk : Str → Nat) : Prop where
  inp : ∀ x a, rules.lookup x = some (.inp a) → U x = a
  no : ∀ x, rules.lookup x = none → U x = .non
  fml : ∀ x f, rules.lookup x = some (.fml f) → U x = (wor U f).1 ∧ f.In (fun y => rk y < rk x) ∧ f.dep ≤ 6
  nc : ∀ x, U x ≠ .cyc
  few : rules.length ≤ 24
/-- the state behind any number of answers, nothing changed -/
structure Good (rules : List (Str × Rule)) (U : Str → Ans) (st : CS) : Prop where
  rul : st.rules = rules
  ans : ∀ x a, st.ans.lookup x = some a → a = U x ∧ ∃ f, rules.lookup x = some (.fml f)
  mem : ∀ x, st.ans.lookup x = none → st.memos.lookup x = none
  memo : ∀ x a, st.ans.lookup x = some a → ∃ m f, st.memos.lookup x = some m ∧ m.last = none ∧ rules.lookup x = some (.fml f) ∧ m.reads = (wor U f).2
  run : st.run.Nodup ∧ ∀ x ∈ st.run, x ∈ st.opn ∨ st.ans.lookup x ≠ none
  opn : st.opn.Nodup ∧ ∀ x ∈ st.opn, st.ans.lookup x = none ∧ rules.lookup x ≠ none
  ansN : (st.ans.map (·.1)).Nodup
  memN : st.memos.map (·.1) = st.ans.map (·.1)
/-- behind an answer: open is what was open, run is what was run -/
structure Lq (st' st : CS) : Prop where
  opn : st'.opn = st.opn
  run : ∀ y ∈ st.run, y ∈ st'.run
theorem Lq.refl {st : CS} : Lq st st := ⟨rfl, fun _ h => h⟩
theorem Lq.trans {a b c : CS} (h : Lq a b) (h' : Lq b c) : Lq a c := ⟨h.opn.trans h'.opn, fun y hy => h.run y (h'.run y hy)⟩
abbrev OpnOk (rk : Str → Nat) (m : Nat) (st : CS) : Prop := ∀ o ∈ st.opn, m ≤ rk o
section
variable (K : PySem.W.Frag) (rules : List (Str × Rule)) (U : Str → Ans) (rk : Str → Nat) (n : Nat)
def spTold : Sp := fun vs H Q _ => ∃ (ca : CA) (st : CS) (ex : List Addr) (q dq rl : Addr) (nm x : Str) (rs : Told) (m : Nat), vs = [.ref q, .str x] ∧ CellsAt K ex H ca st ∧ Good rules U st ∧ m ≤ n ∧ rk x < m ∧ OpnOk rk m st ∧
  AskAt K H ca q dq rl nm none rs ∧ q ∈ ex ∧ rl ∈ ex ∧ rs.length ≤ 2000 ∧
  ∀ (st' : CS) (H' : Hp), CellsAt K ex H' ca st' → Good rules U st' → Lq st' st → AskAt K H' ca q dq rl nm none (rs ++ [(x, U x)]) → Keep (q :: rl :: ca.mut) H H' → Q (U x).v H'
def spWorth (d : Nat) : Sp := fun vs H Q _ => ∃ (ca : CA) (st : CS) (ex : List Addr) (q dq rl : Addr) (nm : Str) (rs : Told) (m : Nat) (f : Fm) (v : V), vs = [v, .ref q] ∧ FmAt K H f v ∧ f.dep ≤ d ∧ f.In (fun y => rk y < m) ∧ CellsAt K ex H ca st ∧ Good rules U st ∧ m ≤ n ∧ OpnOk rk m st ∧
  AskAt K H ca q dq rl nm none rs ∧ q ∈ ex ∧ rl ∈ ex ∧ rs.length + 3 ^ d ≤ 2001 ∧
  ∀ (st' : CS) (H' : Hp), CellsAt K ex H' ca st' → Good rules U st' → Lq st' st → AskAt K H' ca q dq rl nm none (rs ++ (wor U f).2) → (wor U f).2.length ≤ 3 ^ d → Keep (q :: rl :: ca.mut) H H' → Q (wor U f).1.v H'
end
theorem scal_str (a : Ans) (x : Str) : scal a.v (.str x) = true := by cases a <;> rfl
theorem scal_zero (a : Ans) : scal a.v (.int 0) = true ∨ a = .cyc := by cases a <;> first | exact .inl rfl | exact .inr rfl
theorem v_cyc {a : Ans} : a.v = .str "cyclic" ↔ a = .cyc := by
  constructor
  · intro h
    cases a <;> first | rfl | cases h
  · rintro rfl
    rfl
theorem v_non {a : Ans} : a.v = .non ↔ a = .non := by
  constructor
  · intro h
    cases a <;> first | rfl | cases h
  · rintro rfl
    rfl
theorem v_zero {a : Ans} : a.v = .int 0 ↔ a = .int 0 := by
  constructor
  · intro h
    cases a <;> cases h <;> rfl
  · rintro rfl
    rfl
section
variable {P : Program} {w : World} {K : PySem.W.Frag} {mg : Str → Option Value} {base : Heap} {rules : List (Str × Rule)} {U : Str → Ans} {rk : Str → Nat} {n k : Nat}
theorem ok_worth (T : Facts w K mg) (hS : Sem rules U rk) (hk : 2 ≤ k) (ht : OkM P w K mg base k "Asking" "told" ["self", "name"] (spTold K rules U rk n)) : ∀ d : Nat, Ok P w K mg base (k + 1 + d) "worth" ["formula", "asking"] (spWorth K rules U rk n d) := by
  intro d
  induction d with
  | zero =>
    refine T.d_worth.F.ok sc_worth (fun vs H Q E h => ?_) (fun cdv A outer s H vs Q E hr h => ?_)
    · obtain ⟨ca, st, ex, q, dq, rl, nm, rs, m, f, v, rfl, _⟩ := h
      rfl
    · obtain ⟨ca, st, ex, q, dq, rl, nm, rs, m, f, v, rfl, hf, hd, hin, hC, hG, hm, ho, hA, hq, hrl, hlen, kk⟩ := h
      have hrk : Room k _ := hr
      refine ⟨_, PSs.nox (pss_cons (ps_if (pt_val (pe_callB call_isi (by rfl) T.b_isinstance (by decide +kernel) (pa_cons (pv 0) (pa_cons (pe_bltn (v := .ty "str") (u := .type "str") (by rfl) T.b_str (by decide +kernel) rfl) pa_nil)))) (pss_one (ps_ret (pe_me T.m_Asking_told ht hrk (pv 1) (pa_cons (pv 0) pa_nil)))) pss_nil) 
      (pss_cons (ps_if (pt_not (pt_val (pe_callB call_isi (by rfl) T.b_isinstance (by decide +kernel) (pa_cons (pv 0) (pa_cons (pe_bltn (v := .ty "tuple") (u := .type "tuple") (by rfl) T.b_tuple (by decide +kernel) rfl) pa_nil))))) (pss_one (ps_ret (pv 0))) pss_nil) 
      pss_never)), ?_⟩
      cases f with
      | non =>
        cases hf
        refine ⟨_, rfl, _, _, _, _, false, rfl, .ty _, .base .non, kit_ty (by decide +kernel), _, rfl, ?_⟩
        refine ⟨_, rfl, _, _, _, _, false, rfl, .ty _, .base .non, kit_ty (by decide +kernel), _, rfl, ?_⟩
        exact ⟨_, rfl, kk st H hC hG Lq.refl (by rw [show (wor U .non).2 = [] from rfl, List.append_nil]; exact hA) (Nat.zero_le _) Keep.refl⟩
      | int i =>
        cases hf
        refine ⟨_, rfl, _, _, _, _, false, rfl, .ty _, .base (.int i), kit_ty (by decide +kernel), _, rfl, ?_⟩
        refine ⟨_, rfl, _, _, _, _, false, rfl, .ty _, .base (.int i), kit_ty (by decide +kernel), _, rfl, ?_⟩
        exact ⟨_, rfl, kk st H hC hG Lq.refl (by rw [show (wor U (.int i)).2 = [] from rfl, List.append_nil]; exact hA) (Nat.zero_le _) Keep.refl⟩
      | name x =>
        cases hf
        refine ⟨_, rfl, _, _, _, _, true, rfl, .ty _, .base (.str x), kit_ty (by decide +kernel), _, rfl, ?_⟩
        exact ⟨_, rfl, q, dq, _, rfl, hA.at_, ask_told, _, rfl, ca, st, ex, q, dq, rl, nm, x, rs, m, rfl, hC, hG, hm, hin, ho, hA, hq, hrl, by omega, fun st' H' h1 h2 h3 h4 h5 => kk st' H' h1 h2 h3 h4 (Nat.le_refl _) h5⟩
      | cyc x => exact absurd hd (by show ¬ 1 ≤ 0; decide)
      | op w3 f g => exact absurd hd (by show ¬ 1 + max _ _ ≤ 0; omega)
      | ite c f g => exact absurd hd (by show ¬ 1 + max _ _ ≤ 0; omega)
  | succ d ih =>
    refine T.d_worth.F.ok sc_worth (fun vs H Q E h => ?_) (fun cdv A outer s H vs Q E hr h => ?_)
    · obtain ⟨ca, st, ex, q, dq, rl, nm, rs, m, f, v, rfl, _⟩ := h
      rfl
    · obtain ⟨ca, st, ex, q, dq, rl, nm, rs, m, f, v, rfl, hf, hd, hin, hC, hG, hm, ho, hA, hq, hrl, hlen, kk⟩ := h
      have hrd : Room (k + 1 + d) _ := hr
      have hrk : Room k _ := hrd.mono (by omega)
      have hr2 : Room 2 _ := hrd.mono (by omega)
      have h3 : 3 ^ (d + 1) = 3 ^ d * 3 := Nat.pow_succ 3 d
      have hp3 : 0 < 3 ^ d := Nat.pow_pos (by decide)
      have nc := wor_nc hS.nc
      have okt := ok_together (P := P) (base := base) T
      refine ⟨_, PSs.nox (pss_cons (ps_if (pt_val (pe_callB call_isi (by rfl) T.b_isinstance (by decide +kernel) (pa_cons (pv 0) (pa_cons (pe_bltn (v := .ty "str") (u := .type "str") (by rfl) T.b_str (by decide +kernel) rfl) pa_nil)))) (pss_one (ps_ret (pe_me T.m_Asking_told ht hrk (pv 1) (pa_cons (pv 0) pa_nil)))) pss_nil) 
      (pss_cons (ps_if (pt_not (pt_val (pe_callB call_isi (by rfl) T.b_isinstance (by decide +kernel) (pa_cons (pv 0) (pa_cons (pe_bltn (v := .ty "tuple") (u := .type "tuple") (by rfl) T.b_tuple (by decide +kernel) rfl) pa_nil))))) (pss_one (ps_ret (pv 0))) pss_nil) 
      (pss_cons (ps_set (i := 2) sc_worth.nd rfl (Or.inl rfl) (pe_ix ix_tup (pv 0) pe_int (fun _ _ => rfl))) 
      (pss_cons (ps_if (pt_cmpR op_eq (pv 2) pe_str (nomark _)) (pss_one (ps_ret (pe_ifExp (pt_cmpR op_eq (pe_me T.m_Asking_told ht hrk (pv 1) (pa_cons (pe_ix ix_tup (pv 0) pe_int (fun _ _ => rfl)) pa_nil)) pe_str (nomark _)) pe_int pe_int))) pss_nil) 
      (pss_cons (ps_set (i := 3) sc_worth.nd rfl (Or.inl rfl) (pe_cl T.d_worth ih hrd (pa_cons (pe_ix ix_tup (pv 0) pe_int (fun _ _ => rfl)) (pa_cons (pv 1) pa_nil)))) 
      (pss_cons (ps_if (pt_cmpR op_eq (pv 3) pe_str (nomark _)) (pss_one (ps_ret (pv 3))) pss_nil) 
      (pss_cons (ps_if (pt_cmpR op_eq (pv 2) pe_str (nomark _)) (pss_one (ps_ret (pe_ifExp (pt_cmpR op_isN (pv 3) pe_non (nomark _)) (pe_cl T.d_worth ih hrd (pa_cons (pe_ix ix_tup (pv 0) pe_int (fun _ _ => rfl)) (pa_cons (pv 1) pa_nil))) (pv 3)))) pss_nil) 
      (pss_cons (ps_if (pt_cmpR op_eq (pv 2) pe_str (nomark _)) (pss_one (ps_ret (pe_cl T.d_worth ih hrd (pa_cons (pe_ifExp (PW.pt (pw_or (pt_cmpR op_isN (pv 3) pe_non (nomark _)) (pw_or1 (pt_cmpR op_eq (pv 3) pe_int (nomark _))))) (pe_ix ix_tup (pv 0) pe_int (fun _ _ => rfl)) (pe_ix ix_tup (pv 0) pe_int (fun _ _ => rfl))) (pa_cons (pv 1) pa_nil))))) pss_nil) 
      (pss_cons (ps_set (i := 4) sc_worth.nd rfl (Or.inl rfl) (pe_cl T.d_worth ih hrd (pa_cons (pe_ix ix_tup (pv 0) pe_int (fun _ _ => rfl)) (pa_cons (pv 1) pa_nil)))) 
      (pss_cons (ps_if (pt_cmpR op_eq (pv 4) pe_str (nomark _)) (pss_one (ps_ret (pv 4))) pss_nil) 
      (pss_one (ps_ret (pe_cl T.d_together okt hr2 (pa_cons (pv 2) (pa_cons (pv 3) (pa_cons (pv 4) pa_nil)))))))))))))))), ?_⟩
      -- the way of a formula with parts, to its word
      have told : ∀ (x : Str) (H1 : Hp) (st1 : CS) (R : V → Hp → Prop), CellsAt K ex H1 ca st1 → Good rules U st1 → Lq st1 st → rk x < m → AskAt K H1 ca q dq rl nm none rs →
          (∀ (st' : CS) (H' : Hp), CellsAt K ex H' ca st' → Good rules U st' → Lq st' st → AskAt K H' ca q dq rl nm none (rs ++ [(x, U x)]) → Keep (q :: rl :: ca.mut) H1 H' → R (U x).v H') → spTold K rules U rk n [.ref q, .str x] H1 R E0 :=
        fun x H1 st1 R c1 g1 o1 hx a1 kR => ⟨ca, st1, ex, q, dq, rl, nm, x, rs, m, rfl, c1, g1, hm, hx, by rw [OpnOk, o1.opn]; exact ho, a1, hq, hrl, by omega, fun st' H' h1 h2 h3 h4 h5 => kR st' H' h1 h2 (h3.trans o1) h4 h5⟩
      have part : ∀ (g : Fm) (y : V) (H1 : Hp) (st1 : CS) (rs1 : Told) (R : V → Hp → Prop), FmAt K H1 g y → g.dep ≤ d → g.In (fun y => rk y < m) → CellsAt K ex H1 ca st1 → Good rules U st1 → Lq st1 st → AskAt K H1 ca q dq rl nm none rs1 → rs1.length + 3 ^ d ≤ 2001 →
          (∀ (st' : CS) (H' : Hp), CellsAt K ex H' ca st' → Good rules U st' → Lq st' st → AskAt K H' ca q dq rl nm none (rs1 ++ (wor U g).2) → (wor U g).2.length ≤ 3 ^ d → Keep (q :: rl :: ca.mut) H1 H' → R (wor U g).1.v H') → spWorth K rules U rk n d [y, .ref q] H1 R E0 :=
        fun g y H1 st1 rs1 R hf hd hin c1 g1 o1 a1 l1 kR => ⟨ca, st1, ex, q, dq, rl, nm, rs1, m, g, y, rfl, hf, hd, hin, c1, g1, hm, by rw [OpnOk, o1.opn]; exact ho, a1, hq, hrl, l1, fun st' H' h1 h2 h3 h4 h5 h6 => kR st' H' h1 h2 (h3.trans o1) h4 h5 h6⟩
      cases f with
      | non =>
        cases hf
        refine ⟨_, rfl, _, _, _, _, false, rfl, .ty _, .base .non, kit_ty (by decide +kernel), _, rfl, ?_⟩
        refine ⟨_, rfl, _, _, _, _, false, rfl, .ty _, .base .non, kit_ty (by decide +kernel), _, rfl, ?_⟩
        exact ⟨_, rfl, kk st H hC hG Lq.refl (by rw [show (wor U .non).2 = [] from rfl, List.append_nil]; exact hA) (Nat.zero_le _) Keep.refl⟩
      | int i =>
        cases hf
        refine ⟨_, rfl, _, _, _, _, false, rfl, .ty _, .base (.int i), kit_ty (by decide +kernel), _, rfl, ?_⟩
        refine ⟨_, rfl, _, _, _, _, false, rfl, .ty _, .base (.int i), kit_ty (by decide +kernel), _, rfl, ?_⟩
        exact ⟨_, rfl, kk st H hC hG Lq.refl (by rw [show (wor U (.int i)).2 = [] from rfl, List.append_nil]; exact hA) (Nat.zero_le _) Keep.refl⟩
      | name x =>
        cases hf
        refine ⟨_, rfl, _, _, _, _, true, rfl, .ty _, .base (.str x), kit_ty (by decide +kernel), _, rfl, ?_⟩
        exact ⟨_, rfl, q, dq, _, rfl, hA.at_, ask_told, _, rfl, told x H st _ hC hG Lq.refl hin hA fun st' H' h1 h2 h3 h4 h5 => kk st' H' h1 h2 h3 h4 (by show 1 ≤ 3 ^ (d + 1); omega) h5⟩
      | cyc x =>
        obtain ⟨a, rfl, hT⟩ := hf
        refine ⟨_, rfl, _, _, _, _, false, rfl, .ty _, ty_tup hT, kit_ty (by decide +kernel), _, rfl, ?_⟩
        refine ⟨_, rfl, _, _, _, _, true, rfl, .ty _, ty_tup hT, kit_ty (by decide +kernel), _, rfl, ?_⟩
        refine ⟨_, rfl, _, _, _, _, rfl, rfl, hT, rfl, _, rfl, rfl, _, rfl, ifP rfl ?_⟩
        refine ⟨_, rfl, q, dq, _, rfl, hA.at_, ask_told, _, rfl, _, _, _, _, rfl, rfl, hT, rfl, ?_⟩
        dsimp only [tNil]
        refine told x H st _ hC hG Lq.refl hin hA ?_
        intro st' H' h1 h2 h3 h4 h5
        refine ⟨scal_str _ _, _, rfl, ifN (fun z => hS.nc x (v_cyc.mp z)) ?_⟩
        have e : (wor U (.cyc x)).1 = .int 0 := by
          show Ans.int (if U x = .cyc then 1 else 0) = _
          rw [if_neg (hS.nc x)]
        have q1 := kk st' H' h1 h2 h3 h4 (by show 1 ≤ 3 ^ (d + 1); omega) h5
        rw [e] at q1
        exact q1
      | op w3 f g =>
        obtain ⟨a, x, y, rfl, hT, hf, hg⟩ := hf
        have hdf : f.dep ≤ d := by have : 1 + max f.dep g.dep ≤ d + 1 := hd; omega
        have hdg : g.dep ≤ d := by have : 1 + max f.dep g.dep ≤ d + 1 := hd; omega
        refine ⟨_, rfl, _, _, _, _, false, rfl, .ty _, ty_tup hT, kit_ty (by decide +kernel), _, rfl, ?_⟩
        refine ⟨_, rfl, _, _, _, _, true, rfl, .ty _, ty_tup hT, kit_ty (by decide +kernel), _, rfl, ?_⟩
        refine ⟨_, rfl, _, _, _, _, rfl, rfl, hT, rfl, _, rfl, rfl, _, rfl, ifN (fun z => word_cyc w3 (V.str.inj z)) ?_⟩
        refine ⟨_, rfl, _, _, _, _, rfl, rfl, hT, rfl, _, rfl, ?_⟩
        dsimp only [tNil]
        refine part f x H st rs _ hf hdf hin.1 hC hG Lq.refl hA (by omega) fun st1 H1 c1 g1 o1 a1 l1 k1 => ?_
        refine ⟨_, rfl, scal_str _ _, _, rfl, ifN (fun z => nc f (v_cyc.mp z)) ?_⟩
        have hT1 := k1.tup hT
        have more := part g y H1 st1 (rs ++ (wor U f).2)
        refine ⟨_, rfl, rfl, _, rfl, ?_⟩
        by_cases hor : w3 = .or
        · subst hor
          refine ifP rfl ⟨_, rfl, rfl, _, rfl, ifD (fun z => ?_) (fun z => ?_)⟩
          · refine ⟨_, rfl, _, _, _, _, rfl, rfl, hT1, rfl, _, rfl, ?_⟩
            dsimp only [tNil]
            refine more _ (hg.keep k1) hdg hin.2 c1 g1 o1 a1 (by rw [List.length_append]; omega) fun st2 H2 c2 g2 o2 a2 l2 k2 => ?_
            have e : wor U (.op .or f g) = ((wor U g).1, (wor U f).2 ++ (wor U g).2) := by
              show (if (wor U f).1 = .cyc then _ else _) = _
              rw [if_neg (nc f), if_pos rfl, if_pos (v_non.mp z)]
            have q1 := kk st2 H2 c2 g2 o2 (by rw [e, ← List.append_assoc]; exact a2) (by rw [e, List.length_append]; omega) (k1.trans k2)
            rw [e] at q1
            exact q1
          · have e : wor U (.op .or f g) = wor U f := by
              show (if (wor U f).1 = .cyc then _ else _) = _
              rw [if_neg (nc f), if_pos rfl, if_neg (fun q => z (v_non.mpr q))]
            have q1 := kk st1 H1 c1 g1 o1 (by rw [e]; exact a1) (by rw [e]; omega) k1
            rw [e] at q1
            exact ⟨_, rfl, q1⟩
        · refine ifN (fun z => hor (by cases w3 <;> first | rfl | exact absurd (V.str.inj z) (by decide +kernel))) ?_
          refine ⟨_, rfl, rfl, _, rfl, ifN (fun z => word_if w3 (V.str.inj z)) ?_⟩
          refine ⟨_, rfl, _, _, _, _, rfl, rfl, hT1, rfl, _, rfl, ?_⟩
          dsimp only [tNil]
          refine more _ (hg.keep k1) hdg hin.2 c1 g1 o1 a1 (by rw [List.length_append]; omega) fun st2 H2 c2 g2 o2 a2 l2 k2 => ?_
          refine ⟨_, rfl, scal_str _ _, _, rfl, ifN (fun z => nc g (v_cyc.mp z)) ?_⟩
          have e : wor U (.op w3 f g) = (tog w3 (wor U f).1 (wor U g).1, (wor U f).2 ++ (wor U g).2) := by
            show (if (wor U f).1 = .cyc then _ else _) = _
            rw [if_neg (nc f), if_neg hor, if_neg (nc g)]
          have q1 := kk st2 H2 c2 g2 o2 (by rw [e, ← List.append_assoc]; exact a2) (by rw [e, List.length_append]; omega) (k1.trans k2)
          rw [e] at q1
          exact ⟨_, rfl, _, rfl, _, rfl, w3, _, _, rfl, nc f, nc g, q1⟩
      | ite c f g =>
        obtain ⟨a, x, y, z, rfl, hT, hc, hf, hg⟩ := hf
        have hdd : 1 + max c.dep (max f.dep g.dep) ≤ d + 1 := hd
        refine ⟨_, rfl, _, _, _, _, false, rfl, .ty _, ty_tup hT, kit_ty (by decide +kernel), _, rfl, ?_⟩
        refine ⟨_, rfl, _, _, _, _, true, rfl, .ty _, ty_tup hT, kit_ty (by decide +kernel), _, rfl, ?_⟩
        refine ⟨_, rfl, _, _, _, _, rfl, rfl, hT, rfl, _, rfl, rfl, _, rfl, ifN (fun z => absurd (V.str.inj z) (by decide +kernel)) ?_⟩
        refine ⟨_, rfl, _, _, _, _, rfl, rfl, hT, rfl, _, rfl, ?_⟩
        dsimp only [tNil]
        refine part c x H st rs _ hc (by omega) hin.1 hC hG Lq.refl hA (by omega) fun st1 H1 c1 g1 o1 a1 l1 k1 => ?_
        refine ⟨_, rfl, scal_str _ _, _, rfl, ifN (fun z => nc c (v_cyc.mp z)) ?_⟩
        have hT1 := k1.tup hT
        refine ⟨_, rfl, rfl, _, rfl, ifN (fun z => absurd (V.str.inj z) (by decide +kernel)) ?_⟩
        refine ⟨_, rfl, rfl, _, rfl, ifP rfl ?_⟩
        have fin3 : (wor U c).1 = .non ∨ (wor U c).1 = .int 0 → ∀ (st2 : CS) (H2 : Hp), CellsAt K ex H2 ca st2 → Good rules U st2 → Lq st2 st → AskAt K H2 ca q dq rl nm none (rs ++ (wor U c).2 ++ (wor U g).2) → (wor U g).2.length ≤ 3 ^ d → Keep (q :: rl :: ca.mut) H1 H2 → Q (wor U g).1.v H2 := by
          intro hn st2 H2 c2 g2 o2 a2 l2 k2
          have e : wor U (.ite c f g) = ((wor U g).1, (wor U c).2 ++ (wor U g).2) := by
            show (if (wor U c).1 = .cyc then _ else _) = _
            rw [if_neg (nc c), if_pos hn]
          have q1 := kk st2 H2 c2 g2 o2 (by rw [e, ← List.append_assoc]; exact a2) (by rw [e, List.length_append]; omega) (k1.trans k2)
          rw [e] at q1
          exact q1
        have fin2 : ¬ ((wor U c).1 = .non ∨ (wor U c).1 = .int 0) → ∀ (st2 : CS) (H2 : Hp), CellsAt K ex H2 ca st2 → Good rules U st2 → Lq st2 st → AskAt K H2 ca q dq rl nm none (rs ++ (wor U c).2 ++ (wor U f).2) → (wor U f).2.length ≤ 3 ^ d → Keep (q :: rl :: ca.mut) H1 H2 → Q (wor U f).1.v H2 := by
          intro hn st2 H2 c2 g2 o2 a2 l2 k2
          have e : wor U (.ite c f g) = ((wor U f).1, (wor U c).2 ++ (wor U f).2) := by
            show (if (wor U c).1 = .cyc then _ else _) = _
            rw [if_neg (nc c), if_neg hn]
          have q1 := kk st2 H2 c2 g2 o2 (by rw [e, ← List.append_assoc]; exact a2) (by rw [e, List.length_append]; omega) (k1.trans k2)
          rw [e] at q1
          exact q1
        have sz : scal (wor U c).1.v (.int 0) = true := by
          rcases scal_zero (wor U c).1 with h | h
          · exact h
          · exact absurd h (nc c)
        have lc : (rs ++ (wor U c).2).length + 3 ^ d ≤ 2001 := by rw [List.length_append]; omega
        refine ⟨_, rfl, rfl, _, rfl, ifD (fun z1 => ?_) (fun z1 => ⟨_, rfl, sz, _, rfl, ifD (fun z2 => ?_) (fun z2 => ?_)⟩)⟩
        · exact ⟨_, rfl, _, _, _, _, rfl, rfl, hT1, rfl, _, rfl, part g z H1 st1 _ _ (hg.keep k1) (by omega) hin.2.2 c1 g1 o1 a1 lc (fin3 (.inl (v_non.mp z1)))⟩
        · exact ⟨_, rfl, _, _, _, _, rfl, rfl, hT1, rfl, _, rfl, part g z H1 st1 _ _ (hg.keep k1) (by omega) hin.2.2 c1 g1 o1 a1 lc (fin3 (.inr (v_zero.mp z2)))⟩
        · exact ⟨_, rfl, _, _, _, _, rfl, rfl, hT1, rfl, _, rfl, part f y H1 st1 _ _ (hf.keep k1) (by omega) hin.2.1 c1 g1 o1 a1 lc (fin2 fun h => h.elim (fun q => z1 (v_non.mpr q)) (fun q => z2 (v_zero.mpr q)))⟩
end
end Q

namespace Q
open PySem PySem.Spec PyProof.Rows L2
/-! ### one part of the cells is written -/
theorem CA.ne {ca : CA} (n : ca.all.Nodup) (i j : Nat) {x y : Addr} (hx : ca.all[i]? = some x) (hy : ca.all[j]? = some y) (h : i ≠ j) : x ≠ y := by
  intro e
  subst e
  exact h (nd_ix n hx hy)
section
variable {K : PySem.W.Frag} {ex : List Addr} {H : Hp} {ca : CA} {st : CS}
/-- the memos stand where a part of the cells is written, or what is new -/
theorem CellsAt.memos (h : CellsAt K ex H ca st) {H1 : Hp} {x : Addr} (k : Keep [x] H H1) (hx : x ∈ ca.mut ∨ x ∈ ex) : ∀ {l : List (Str × Memo)} {km : List (Key × V)}, KvAt (MemoAt K (ex ++ ca.mut) H) l km → KvAt (MemoAt K (ex ++ ca.mut) H1) l km :=
  fun z => z.imp fun _ _ m => m.keep k fun y hy => .inl (by
    rw [List.mem_singleton.mp hy]
    exact hx.elim (List.mem_append_right _) (List.mem_append_left _))
theorem CellsAt.mutO (h : CellsAt K ex H ca st) : Mut (H ca.O) := by rw [h.o]; trivial
theorem CellsAt.mutM (h : CellsAt K ex H ca st) : Mut (H ca.M) := by obtain ⟨k, e, _⟩ := h.m; rw [e]; trivial
theorem CellsAt.mutA (h : CellsAt K ex H ca st) : Mut (H ca.A) := by obtain ⟨k, e, _⟩ := h.a; rw [e]; trivial
theorem CellsAt.mutR (h : CellsAt K ex H ca st) : Mut (H ca.R) := by obtain ⟨k, e, _⟩ := h.r; rw [e]; trivial
theorem CellsAt.mutRu (h : CellsAt K ex H ca st) : Mut (H ca.Ru) := by rw [h.ru]; trivial
theorem CellsAt.mutKe (h : CellsAt K ex H ca st) : Mut (H ca.Ke) := by rw [h.ke]; trivial
theorem CellsAt.mutCy (h : CellsAt K ex H ca st) : Mut (H ca.Cy) := by rw [h.cy]; trivial
theorem CellsAt.exU (h : CellsAt K ex H ca st) (x : Addr) (o : HO) : ∀ y ∈ ex, y ∉ ca.all ∧ (upd H x o) y ≠ none := fun y hy => ⟨(h.e y hy).1, fun z => (h.e y hy).2 (upd_none z)⟩
theorem CellsAt.setO (h : CellsAt K ex H ca st) (os : List Str) : CellsAt K ex (upd H ca.O (.lst (os.map V.str))) ca { st with opn := os } := by
  have k : Keep [ca.O] H (upd H ca.O (.lst (os.map V.str))) := Keep.refl.upd (by simp) h.mutO
  have u : ∀ i {x}, ca.all[i]? = some x → i ≠ 4 → (upd H ca.O (.lst (os.map V.str))) x = H x := fun i x e n => upd_ne (CA.ne h.n i 4 e rfl n)
  obtain ⟨kr, r1, r2⟩ := h.r
  obtain ⟨km, m1, m2⟩ := h.m
  obtain ⟨ka, a1, a2⟩ := h.a
  exact ⟨(u 0 rfl (by decide)).trans h.c, (u 1 rfl (by decide)).trans h.v, ⟨kr, (u 2 rfl (by decide)).trans r1, r2.imp fun _ _ z => z.keep k⟩, ⟨km, (u 3 rfl (by decide)).trans m1, h.memos k (.inl (by simp [CA.mut])) m2⟩, upd_same, ⟨ka, (u 5 rfl (by decide)).trans a1, a2⟩,
    (u 6 rfl (by decide)).trans h.ru, (u 7 rfl (by decide)).trans h.ke, (u 8 rfl (by decide)).trans h.cy, h.n, h.exU _ _⟩
theorem CellsAt.setRu (h : CellsAt K ex H ca st) (os : List Str) : CellsAt K ex (upd H ca.Ru (.lst (os.map V.str))) ca { st with run := os } := by
  have k : Keep [ca.Ru] H (upd H ca.Ru (.lst (os.map V.str))) := Keep.refl.upd (by simp) h.mutRu
  have u : ∀ i {x}, ca.all[i]? = some x → i ≠ 6 → (upd H ca.Ru (.lst (os.map V.str))) x = H x := fun i x e n => upd_ne (CA.ne h.n i 6 e rfl n)
  obtain ⟨kr, r1, r2⟩ := h.r
  obtain ⟨km, m1, m2⟩ := h.m
  obtain ⟨ka, a1, a2⟩ := h.a
  exact ⟨(u 0 rfl (by decide)).trans h.c, (u 1 rfl (by decide)).trans h.v, ⟨kr, (u 2 rfl (by decide)).trans r1, r2.imp fun _ _ z => z.keep k⟩, ⟨km, (u 3 rfl (by decide)).trans m1, h.memos k (.inl (by simp [CA.mut])) m2⟩, (u 4 rfl (by decide)).trans h.o, ⟨ka, (u 5 rfl (by decide)).trans a1, a2⟩,
    upd_same, (u 7 rfl (by decide)).trans h.ke, (u 8 rfl (by decide)).trans h.cy, h.n, h.exU _ _⟩
theorem CellsAt.setKe (h : CellsAt K ex H ca st) (os : List Str) : CellsAt K ex (upd H ca.Ke (.lst (os.map V.str))) ca { st with kept := os } := by
  have k : Keep [ca.Ke] H (upd H ca.Ke (.lst (os.map V.str))) := Keep.refl.upd (by simp) h.mutKe
  have u : ∀ i {x}, ca.all[i]? = some x → i ≠ 7 → (upd H ca.Ke (.lst (os.map V.str))) x = H x := fun i x e n => upd_ne (CA.ne h.n i 7 e rfl n)
  obtain ⟨kr, r1, r2⟩ := h.r
  obtain ⟨km, m1, m2⟩ := h.m
  obtain ⟨ka, a1, a2⟩ := h.a
  exact ⟨(u 0 rfl (by decide)).trans h.c, (u 1 rfl (by decide)).trans h.v, ⟨kr, (u 2 rfl (by decide)).trans r1, r2.imp fun _ _ z => z.keep k⟩, ⟨km, (u 3 rfl (by decide)).trans m1, h.memos k (.inl (by simp [CA.mut])) m2⟩, (u 4 rfl (by decide)).trans h.o, ⟨ka, (u 5 rfl (by decide)).trans a1, a2⟩,
    (u 6 rfl (by decide)).trans h.ru, upd_same, (u 8 rfl (by decide)).trans h.cy, h.n, h.exU _ _⟩
theorem CellsAt.setCy (h : CellsAt K ex H ca st) (os : List Str) : CellsAt K ex (upd H ca.Cy (.lst (os.map V.str))) ca { st with cyc := os } := by
  have k : Keep [ca.Cy] H (upd H ca.Cy (.lst (os.map V.str))) := Keep.refl.upd (by simp) h.mutCy
  have u : ∀ i {x}, ca.all[i]? = some x → i ≠ 8 → (upd H ca.Cy (.lst (os.map V.str))) x = H x := fun i x e n => upd_ne (CA.ne h.n i 8 e rfl n)
  obtain ⟨kr, r1, r2⟩ := h.r
  obtain ⟨km, m1, m2⟩ := h.m
  obtain ⟨ka, a1, a2⟩ := h.a
  exact ⟨(u 0 rfl (by decide)).trans h.c, (u 1 rfl (by decide)).trans h.v, ⟨kr, (u 2 rfl (by decide)).trans r1, r2.imp fun _ _ z => z.keep k⟩, ⟨km, (u 3 rfl (by decide)).trans m1, h.memos k (.inl (by simp [CA.mut])) m2⟩, (u 4 rfl (by decide)).trans h.o, ⟨ka, (u 5 rfl (by decide)).trans a1, a2⟩,
    (u 6 rfl (by decide)).trans h.ru, (u 7 rfl (by decide)).trans h.ke, upd_same, h.n, h.exU _ _⟩
theorem CellsAt.setA (h : CellsAt K ex H ca st) {l : List (Str × Ans)} {ka : List (Key × V)} (r : KvAt (fun (x : Ans) v => v = x.v) l ka) : CellsAt K ex (upd H ca.A (.dK ka)) ca { st with ans := l } := by
  have k : Keep [ca.A] H (upd H ca.A (.dK ka)) := Keep.refl.upd (by simp) h.mutA
  have u : ∀ i {x}, ca.all[i]? = some x → i ≠ 5 → (upd H ca.A (.dK ka)) x = H x := fun i x e n => upd_ne (CA.ne h.n i 5 e rfl n)
  obtain ⟨kr, r1, r2⟩ := h.r
  obtain ⟨km, m1, m2⟩ := h.m
  exact ⟨(u 0 rfl (by decide)).trans h.c, (u 1 rfl (by decide)).trans h.v, ⟨kr, (u 2 rfl (by decide)).trans r1, r2.imp fun _ _ z => z.keep k⟩, ⟨km, (u 3 rfl (by decide)).trans m1, h.memos k (.inl (by simp [CA.mut])) m2⟩, (u 4 rfl (by decide)).trans h.o, ⟨ka, upd_same, r⟩,
    (u 6 rfl (by decide)).trans h.ru, (u 7 rfl (by decide)).trans h.ke, (u 8 rfl (by decide)).trans h.cy, h.n, h.exU _ _⟩
theorem CellsAt.setM (h : CellsAt K ex H ca st) {l : List (Str × Memo)} {km : List (Key × V)} (r : KvAt (MemoAt K (ex ++ ca.mut) H) l km) : CellsAt K ex (upd H ca.M (.dK km)) ca { st with memos := l } := by
  have k : Keep [ca.M] H (upd H ca.M (.dK km)) := Keep.refl.upd (by simp) h.mutM
  have u : ∀ i {x}, ca.all[i]? = some x → i ≠ 3 → (upd H ca.M (.dK km)) x = H x := fun i x e n => upd_ne (CA.ne h.n i 3 e rfl n)
  obtain ⟨kr, r1, r2⟩ := h.r
  obtain ⟨ka, a1, a2⟩ := h.a
  exact ⟨(u 0 rfl (by decide)).trans h.c, (u 1 rfl (by decide)).trans h.v, ⟨kr, (u 2 rfl (by decide)).trans r1, r2.imp fun _ _ z => z.keep k⟩, ⟨km, upd_same, h.memos k (.inl (by simp [CA.mut])) r⟩, (u 4 rfl (by decide)).trans h.o, ⟨ka, (u 5 rfl (by decide)).trans a1, a2⟩,
    (u 6 rfl (by decide)).trans h.ru, (u 7 rfl (by decide)).trans h.ke, (u 8 rfl (by decide)).trans h.cy, h.n, h.exU _ _⟩
theorem CellsAt.setR (h : CellsAt K ex H ca st) {l : List (Str × Rule)} {kr : List (Key × V)} (r : KvAt (RuleAt K H) l kr) (nm : st.memos = []) : CellsAt K ex (upd H ca.R (.dK kr)) ca { st with rules := l } := by
  have k : Keep [ca.R] H (upd H ca.R (.dK kr)) := Keep.refl.upd (by simp) h.mutR
  have u : ∀ i {x}, ca.all[i]? = some x → i ≠ 2 → (upd H ca.R (.dK kr)) x = H x := fun i x e n => upd_ne (CA.ne h.n i 2 e rfl n)
  obtain ⟨km, m1, m2⟩ := h.m
  obtain ⟨ka, a1, a2⟩ := h.a
  have m3 : KvAt (MemoAt K (ex ++ ca.mut) (upd H ca.R (.dK kr))) st.memos km := by
    rw [nm] at m2 ⊢
    match km, m2 with
    | [], _ => trivial
  exact ⟨(u 0 rfl (by decide)).trans h.c, (u 1 rfl (by decide)).trans h.v, ⟨kr, upd_same, r.imp fun _ _ z => z.keep k⟩, ⟨km, (u 3 rfl (by decide)).trans m1, m3⟩, (u 4 rfl (by decide)).trans h.o, ⟨ka, (u 5 rfl (by decide)).trans a1, a2⟩,
    (u 6 rfl (by decide)).trans h.ru, (u 7 rfl (by decide)).trans h.ke, (u 8 rfl (by decide)).trans h.cy, h.n, h.exU _ _⟩
/-- what is new stands apart -/
theorem CellsAt.more (h : CellsAt K ex H ca st) {H1 : Hp} {l : List Addr} (k : Keep [] H H1) (hl : ∀ x ∈ l, H x = none ∧ H1 x ≠ none) : CellsAt K (l ++ ex) H1 ca st := by
  have h1 := h.keep0 k
  obtain ⟨km, m1, m2⟩ := h.m
  refine ⟨h1.c, h1.v, h1.r, ⟨km, k.k _ _ (by simp) m1, m2.imp fun _ _ z => ?_⟩, h1.o, h1.a, h1.ru, h1.ke, h1.cy, h1.n, fun x hx => ?_⟩
  · obtain ⟨q, dq, rl, vs, e, e1, n1, e2, n2, e3⟩ := z
    have nn : ∀ x o, H x = some o → x ∉ ex ++ ca.mut → x ∉ (l ++ ex) ++ ca.mut := fun x o e n z => by
      rw [List.append_assoc] at z
      rcases List.mem_append.mp z with z | z
      · rw [(hl x z).1] at e; cases e
      · exact n z
    exact ⟨q, dq, rl, vs, e, k.k _ _ (by simp) e1, nn _ _ e1 n1, k.k _ _ (by simp) e2, nn _ _ e2 n2, e3.keep k⟩
  · rcases List.mem_append.mp hx with hx | hx
    · exact ⟨fun z => h.there x z (hl x hx).1, (hl x hx).2⟩
    · exact h1.e x hx
theorem CellsAt.less {l : List Addr} (h : CellsAt K (l ++ ex) H ca st) : CellsAt K ex H ca st := by
  obtain ⟨km, m1, m2⟩ := h.m
  refine ⟨h.c, h.v, h.r, ⟨km, m1, m2.imp fun _ _ z => ?_⟩, h.o, h.a, h.ru, h.ke, h.cy, h.n, fun x hx => h.e x (List.mem_append_right _ hx)⟩
  obtain ⟨q, dq, rl, vs, e, e1, n1, e2, n2, e3⟩ := z
  have nn : ∀ x, x ∉ (l ++ ex) ++ ca.mut → x ∉ ex ++ ca.mut := fun x n z => n (by rw [List.append_assoc]; exact List.mem_append_right _ z)
  exact ⟨q, dq, rl, vs, e, e1, nn _ n1, e2, nn _ n2, e3⟩
/-- what stands apart is written -/
theorem CellsAt.exSet (h : CellsAt K ex H ca st) {H1 : Hp} {M : List Addr} (k : Keep M H H1) (hM : ∀ x ∈ M, x ∈ ex) : CellsAt K ex H1 ca st := h.keep k fun x hx => .inl (hM x hx)
theorem CellsAt.exMut (h : CellsAt K ex H ca st) {x : Addr} (hx : x ∈ ex) : x ∉ ca.mut := fun z => (h.e x hx).1 (by unfold CA.all; exact List.mem_cons_of_mem _ (List.mem_cons_of_mem _ (List.mem_cons_of_mem _ z)))
end
end Q

namespace Q
open PySem PySem.Spec PyProof.Rows L2
/-! ### what is made -/
/-- memo at x: its fields -/
def spMemoInit (K : PySem.W.Frag) : Sp := fun vs H Q _ => ∃ (x dx rl : Addr) (m : Memo), vs = [.ref x, .ref rl, lastV m.last, m.ans.v] ∧ H x = some (.ins (He.ga K "Memo") dx []) ∧
  ∀ H', (∀ b, b ≠ x → H' b = H b) → H' x = some (.ins (He.ga K "Memo") dx (memoF rl m)) → Q .non H'
theorem memo_put {rl : Addr} {m : Memo} : putF "answer" m.ans.v (putF "last" (lastV m.last) (putF "reads" (.ref rl) [])) = memoF rl m := by kernel_rfl
def spAskInit (K : PySem.W.Frag) : Sp := fun vs H Q _ => ∃ (x dx c : Addr) (nm : Str), vs = [.ref x, .ref c, .str nm] ∧ H x = some (.ins (He.ga K "Asking") dx []) ∧
  ∀ (rl : Addr) (H' : Hp), H rl = none → (∀ b, b ≠ x → b ≠ rl → H' b = H b) → H' x = some (.ins (He.ga K "Asking") dx (askF c nm rl none)) → H' rl = some (.lst []) → Q .non H'
theorem ask_put {c rl : Addr} {nm : Str} : putF "last" .non (putF "reads" (.ref rl) (putF "name" (.str nm) (putF "cells" (.ref c) []))) = askF c nm rl none := by kernel_rfl
theorem upd3 {H : Hp} {x b : Addr} {o o' o'' : HO} (h : b ≠ x) : upd (upd (upd H x o) x o') x o'' b = H b := by rw [upd_ne h, upd_ne h, upd_ne h]
section
variable {P : Program} {w : World} {K : PySem.W.Frag} {mg : Str → Option Value} {base : Heap}
theorem ok_Memo_init (T : Facts w K mg) : OkM P w K mg base 1 "Memo" "__init__" ["self", "reads", "last", "answer"] (spMemoInit K) := by
  refine T.k_Memo.F.ok sc_Memo___init__ (fun vs H Q E h => ?_) (fun cdv A outer s H vs Q E hr h => ?_)
  · obtain ⟨x, dx, rl, m, rfl, _⟩ := h
    rfl
  · obtain ⟨x, dx, rl, m, rfl, hx, k⟩ := h
    refine ⟨_, PSs.nox (pss_cons (ps_fld (pv 0) (pv 1) rfl) 
      (pss_cons (ps_fld (pv 0) (pv 2) rfl) 
      (pss_one (ps_fld (pv 0) (pv 3) rfl)))), ?_⟩
    refine ⟨_, rfl, _, rfl, x, _, dx, _, rfl, hx, T.k_Memo.c, T.n_Memo_reads, by show 0 < 1000; decide, ?_⟩
    refine ⟨_, rfl, _, rfl, x, _, dx, _, rfl, upd_same, T.k_Memo.c, T.n_Memo_last, by show 1 < 1000; decide, ?_⟩
    refine ⟨_, rfl, _, rfl, x, _, dx, _, rfl, upd_same, T.k_Memo.c, T.n_Memo_answer, by show 2 < 1000; decide, ?_⟩
    refine k _ (fun b hb => by rw [upd_ne hb, upd_ne hb, upd_ne hb]) ?_
    rw [upd_same, memo_put]
theorem ok_Asking_init (T : Facts w K mg) : OkM P w K mg base 1 "Asking" "__init__" ["self", "cells", "name"] (spAskInit K) := by
  refine T.k_Asking.F.ok sc_Asking___init__ (fun vs H Q E h => ?_) (fun cdv A outer s H vs Q E hr h => ?_)
  · obtain ⟨x, dx, c, nm, rfl, _⟩ := h
    rfl
  · obtain ⟨x, dx, c, nm, rfl, hx, k⟩ := h
    refine ⟨_, PSs.nox (pss_cons (ps_fld (pv 0) (pv 1) rfl) 
      (pss_cons (ps_fld (pv 0) (pv 2) rfl) 
      (pss_cons (ps_fld (pv 0) (pe_lst pa_nil) rfl) 
      (pss_one (ps_fld (pv 0) pe_non rfl))))), ?_⟩
    refine ⟨_, rfl, _, rfl, x, _, dx, _, rfl, hx, T.k_Asking.c, T.n_Asking_cells, by show 0 < 1000; decide, ?_⟩
    refine ⟨_, rfl, _, rfl, x, _, dx, _, rfl, upd_same, T.k_Asking.c, T.n_Asking_name, by show 1 < 1000; decide, ?_⟩
    refine ⟨by show 0 ≤ sizeLine; decide, fun rl hrl => ?_⟩
    have hrl0 : H rl = none := upd_none (upd_none hrl)
    have nxr : x ≠ rl := ne_of_none upd_same hrl
    refine ⟨_, rfl, x, _, dx, _, rfl, by rw [upd_ne nxr]; exact upd_same, T.k_Asking.c, T.n_Asking_reads, by show 2 < 1000; decide, ?_⟩
    refine ⟨_, rfl, x, _, dx, _, rfl, upd_same, T.k_Asking.c, T.n_Asking_last, by show 3 < 1000; decide, ?_⟩
    refine k rl _ hrl0 (fun b hb hr => by rw [upd_ne hb, upd_ne hb, upd_ne hr, upd_ne hb, upd_ne hb]) ?_ ?_
    · rw [upd_same, ask_put]
    · rw [upd_ne nxr.symm, upd_ne nxr.symm, upd_same]
end
/-! ### _close: the answer is laid down -/
/-- the state behind: the name is let go, its answer and its memo stand -/
def CS.close (st : CS) (os : List Str) (nm : Str) (rs : Told) (last : Option Str) (a : Ans) : CS :=
  { st with opn := os, ans := st.ans ++ [(nm, a)], memos := st.memos ++ [(nm, ⟨rs, last, a⟩)] }
def spClose (K : PySem.W.Frag) : Sp := fun vs H Q _ => ∃ (ca : CA) (st : CS) (ex : List Addr) (q dq rl : Addr) (nm : Str) (rs : Told) (os : List Str) (a : Ans), vs = [.ref ca.c, .ref q, a.v] ∧ CellsAt K (q :: rl :: ex) H ca st ∧ AskAt K H ca q dq rl nm none rs ∧
  st.opn = os ++ [nm] ∧ st.ans.lookup nm = none ∧ st.memos.lookup nm = none ∧ nm ∈ st.run ∧ st.ans.length ≤ 100 ∧ st.memos.length ≤ 100 ∧ rl ∉ ex ∧
  ∀ H', CellsAt K ex H' ca (st.close os nm rs none a) → Keep ca.mut H H' → Q .non H'
theorem mapDrop {os : List Str} {nm : Str} : ((os ++ [nm]).map V.str).dropLast = os.map V.str := by rw [List.map_append]; simp
theorem mapLast {os : List Str} {nm : Str} : ((os ++ [nm]).map V.str)[((os ++ [nm]).map V.str).length - 1]? = some (V.str nm) := by
  rw [List.length_map, List.length_append, List.getElem?_map]
  simp
section
variable {P : Program} {w : World} {K : PySem.W.Frag} {mg : Str → Option Value} {base : Heap}
theorem ok_close (T : Facts w K mg) : OkM P w K mg base 3 "Cells" "_close" ["self", "asking", "answer"] (spClose K) := by
  refine T.m_Cells__close.F.ok sc_Cells__close (fun vs H Q E h => ?_) (fun cdv A outer s H vs Q E hr h => ?_)
  · obtain ⟨ca, st, ex, q, dq, rl, nm, rs, os, a, rfl, _⟩ := h
    rfl
  · obtain ⟨ca, st, ex, q, dq, rl, nm, rs, os, a, rfl, hC, hA, ho, hna, hnm, hrun, hla, hlm, hrl, k⟩ := h
    refine ⟨_, PSs.nox (pss_cons (ps_expr (pe_bm0 PySem.F.plainAttrs_list PySem.F.slot_list_pop PySem.F.type_list_pop mt_pop (pe_fld (pv 0) rfl))) 
      (pss_cons (ps_dput (hu_of hr) (pe_fld (pe_fld (pv 0) rfl) rfl) (pe_fld (pv 1) rfl) (pv 2) rfl) 
      (pss_cons (ps_dput (hu_of hr) (pe_fld (pv 0) rfl) (pe_fld (pv 1) rfl) (pe_mk T.k_Memo (ok_Memo_init T) (hr.mono (by decide)) (pa_cons (pe_fld (pv 1) rfl) (pa_cons (pe_fld (pv 1) rfl) (pa_cons (pv 2) pa_nil)))) rfl) 
      (pss_cons (ps_if (pt_cmpR op_notN (pe_fld (pv 1) rfl) pe_non (nomark _)) (pss_one (ps_expr (pe_bm PySem.F.plainAttrs_list PySem.F.slot_list_append PySem.F.type_list_append mt_append (pe_fld (pe_fld (pv 0) rfl) rfl) (pa_cons (pe_fld (pv 1) rfl) pa_nil)))) pss_nil) 
      (pss_one (ps_if (pt_cmpR op_notIn_seq (pe_fld (pv 1) rfl) (pe_fld (pe_fld (pv 0) rfl) rfl) (by rfl)) (pss_one (ps_expr (pe_bm PySem.F.plainAttrs_list PySem.F.slot_list_append PySem.F.type_list_append mt_append (pe_fld (pe_fld (pv 0) rfl) rfl) (pa_cons (pe_fld (pv 1) rfl) pa_nil)))) pss_nil)))))), ?_⟩
    -- self._open.pop()
    have hO := hC.o
    rw [ho] at hO
    refine ⟨_, rfl, ca.c, _, ca.dx, _, _, rfl, hC.c, T.k_Cells.c, T.n_Cells__open, lk_open, .inl ⟨rfl, _, SqL.of hO⟩, _, _, _, rfl, rfl, hO, mapLast, ?_⟩
    rw [mapDrop]
    have c1 := hC.setO os
    have qx : q ∈ q :: rl :: ex := by simp
    have rx : rl ∈ q :: rl :: ex := by simp
    have kO : Keep ca.mut H (upd H ca.O (.lst (os.map V.str))) := Keep.refl.upd (by simp [CA.mut]) hC.mutO
    have A1 := hA.keep kO (hC.exMut qx) (hC.exMut rx)
    generalize upd H ca.O (.lst (os.map V.str)) = H1 at c1 kO A1 ⊢
    -- self._revision.answers[asking.name] = answer
    obtain ⟨ka, a1, a2⟩ := c1.a
    refine ⟨_, rfl, _, rfl, ca.c, _, ca.dx, _, _, rfl, c1.c, T.k_Cells.c, T.n_Cells__revision, lk_rev, ca.V, _, ca.dv, _, _, rfl, c1.v, T.k_Revision.c, T.n_Revision_answers, lk_answers,
      _, rfl, q, _, dq, _, _, rfl, A1.at_, T.k_Asking.c, T.n_Asking_name, lk_name, ca.A, _, rfl, DPut.k (k := Sum.inr nm) a1 (small1000 (by rw [a2.len]; show st.ans.length ≤ 1000; omega)), ?_⟩
    have c2 := c1.setA (a2.put (a := a) rfl hna)
    have kA : Keep ca.mut H (upd H1 ca.A (.dK (putK ka (Sum.inr nm) a.v))) := kO.upd (by simp [CA.mut]) c1.mutA
    have A2 := hA.keep kA (hC.exMut qx) (hC.exMut rx)
    generalize upd H1 ca.A (.dK (putK ka (Sum.inr nm) a.v)) = H2 at c2 kA A2 ⊢
    -- self._memos[asking.name] = Memo(..)
    refine ⟨_, rfl, q, _, dq, _, _, rfl, A2.at_, T.k_Asking.c, T.n_Asking_reads, lk_reads, _, rfl, q, _, dq, _, _, rfl, A2.at_, T.k_Asking.c, T.n_Asking_last, lk_last, _, rfl, ?_⟩
    intro x dx nx ndx nex
    refine ⟨x, dx, rl, ⟨rs, none, a⟩, rfl, upd_same, fun H3 e1 e2 => ⟨rfl, ?_⟩⟩
    have k3 : Keep [] H2 H3 := by
      refine ⟨fun b o _ e => ?_, fun b o _ e => ?_, fun b e => ?_⟩
      · have hb := ne_of_none e nx
        rw [e1 b hb, upd_ne hb, upd_ne (ne_of_none e ndx)]
        exact e
      · have hb := ne_of_none e nx
        rw [e1 b hb, upd_ne hb, upd_ne (ne_of_none e ndx)]
        exact e
      · by_cases hb : b = x
        · rw [hb, e2] at e; cases e
        · rw [e1 b hb] at e
          exact upd_none (upd_none e)
    have c3 := c2.keep0 k3
    have A3 := A2.keep k3 (by simp) (by simp)
    obtain ⟨km, m1, m2⟩ := c3.m
    refine ⟨_, rfl, ca.c, _, ca.dx, _, _, rfl, c3.c, T.k_Cells.c, T.n_Cells__memos, lk_memos, _, rfl, q, _, dq, _, _, rfl, A3.at_, T.k_Asking.c, T.n_Asking_name, lk_name, ca.M, _, rfl, DPut.k (k := Sum.inr nm) m1 (small1000 (by rw [m2.len]; show st.memos.length ≤ 1000; omega)), ?_⟩
    obtain ⟨vs, v1, v2⟩ := A3.rd
    have nxm : x ∉ ex ++ ca.mut := fun z => by
      rcases List.mem_append.mp z with z | z
      · exact (c2.e x (by simp [z])).2 nx
      · exact c2.there x (by unfold CA.all; simp [z]) nx
    have nrm : rl ∉ ex ++ ca.mut := fun z => by
      rcases List.mem_append.mp z with z | z
      · exact hrl z
      · exact hC.exMut rx z
    have c3' : CellsAt K ex H3 ca _ := CellsAt.less (l := [q, rl]) c3
    obtain ⟨km', m1', m2'⟩ := c3'.m
    have ekm : km' = km := by
      rw [m1] at m1'
      cases m1'
      rfl
    subst ekm
    have mm : MemoAt K (ex ++ ca.mut) H3 ⟨rs, none, a⟩ (.ref x) := ⟨x, dx, rl, vs, rfl, e2, nxm, v1, nrm, v2⟩
    have c4 := c3'.setM (m2'.put mm hnm)
    have kM : Keep ca.mut H (upd H3 ca.M (.dK (putK km' (Sum.inr nm) (.ref x)))) := (kA.trans k3.of0).upd (by simp [CA.mut]) c3'.mutM
    have A4 := hA.keep kM (hC.exMut qx) (hC.exMut rx)
    generalize upd H3 ca.M (.dK (putK km' (Sum.inr nm) (.ref x))) = H4 at c4 kM A4 ⊢
    -- if asking.last is not None
    refine ⟨_, rfl, q, _, dq, _, _, rfl, A4.at_, T.k_Asking.c, T.n_Asking_last, lk_last, rfl, _, rfl, ifnP rfl ?_⟩
    -- if asking.name not in self._revision.run
    have hin : inV (.str nm) (st.run.map V.str) = true := by rw [inV_strs]; exact decide_eq_true hrun
    refine ⟨_, rfl, q, _, dq, _, _, rfl, A4.at_, T.k_Asking.c, T.n_Asking_name, lk_name, _, rfl, ca.c, _, ca.dx, _, _, rfl, c4.c, T.k_Cells.c, T.n_Cells__revision, lk_rev, ca.V, _, ca.dv, _, _, rfl, c4.v, T.k_Revision.c, T.n_Revision_run, lk_run,
      _, _, rfl, .inl (SqL.of c4.ru), rfl, flat_strs _, _, rfl, ?_⟩
    show if (!inV (V.str nm) (st.run.map V.str)) = true then _ else _
    rw [hin]
    exact k H4 c4 kM
end
end Q

namespace Q
open PySem PySem.Spec PyProof.Rows L2
section
variable (K : PySem.W.Frag) (rules : List (Str × Rule)) (U : Str → Ans) (rk : Str → Nat) (n : Nat)
def spAns : Sp := fun vs H Q _ => ∃ (ca : CA) (st : CS) (ex : List Addr) (x : Str) (m : Nat), vs = [.ref ca.c, .str x] ∧ CellsAt K ex H ca st ∧ Good rules U st ∧ m ≤ n ∧ rk x < m ∧ OpnOk rk m st ∧
  ∀ (st' : CS) (H' : Hp), CellsAt K ex H' ca st' → Good rules U st' → Lq st' st → ((∃ f, rules.lookup x = some (.fml f)) → st'.ans.lookup x ≠ none) → Keep ca.mut H H' → Q (U x).v H'
/-- a formula cell that is not answered, nor open -/
def spAnsd : Sp := fun vs H Q _ => ∃ (ca : CA) (st : CS) (ex : List Addr) (x : Str) (f : Fm) (v : V), vs = [.ref ca.c, .str x, v] ∧ FmAt K H f v ∧ rules.lookup x = some (.fml f) ∧ st.ans.lookup x = none ∧ x ∉ st.opn ∧ CellsAt K ex H ca st ∧ Good rules U st ∧ rk x ≤ n ∧ OpnOk rk (rk x) st ∧
  ∀ (st' : CS) (H' : Hp), CellsAt K ex H' ca st' → Good rules U st' → Lq st' st → st'.ans.lookup x ≠ none → Keep ca.mut H H' → Q (U x).v H'
def spEvd : Sp := fun vs H Q _ => ∃ (ca : CA) (st : CS) (ex : List Addr) (q dq rl : Addr) (x : Str) (f : Fm) (v : V), vs = [.ref ca.c, .ref q, v] ∧ FmAt K H f v ∧ rules.lookup x = some (.fml f) ∧ CellsAt K ex H ca st ∧ Good rules U st ∧ x ∈ st.opn ∧ x ∉ st.run ∧ rk x ≤ n ∧ OpnOk rk (rk x) st ∧
  AskAt K H ca q dq rl x none [] ∧ q ∈ ex ∧ rl ∈ ex ∧
  ∀ (st' : CS) (H' : Hp), CellsAt K ex H' ca st' → Good rules U st' → Lq st' st → x ∈ st'.run → AskAt K H' ca q dq rl x none (wor U f).2 → Keep (q :: rl :: ca.mut) H H' → Q (wor U f).1.v H'
end
theorem small5000 {n : Nat} (h : n ≤ 5000) : n < sizeLine := Nat.lt_of_le_of_lt h (by decide)
theorem lookup_mem {α : Type} {x : Str} {a : α} : ∀ {l : List (Str × α)}, l.lookup x = some a → (x, a) ∈ l
  | [], h => by cases h
  | (y, b) :: l, h => by
    rw [lookup_eq] at h
    by_cases e : x = y
    · rw [if_pos e] at h
      cases h
      subst e
      exact List.mem_cons_self ..
    · rw [if_neg e] at h
      exact List.mem_cons_of_mem _ (lookup_mem h)
theorem lookup_key {α : Type} {x : Str} : ∀ {l : List (Str × α)}, l.lookup x ≠ none ↔ x ∈ l.map (·.1)
  | [] => by simp
  | (y, b) :: l => by
    rw [lookup_eq, List.map_cons, List.mem_cons]
    by_cases e : x = y
    · rw [if_pos e]; simp [e]
    · rw [if_neg e, lookup_key (l := l)]
      simp [e]
theorem lookup_snoc {α : Type} (x y : Str) (a : α) : ∀ l : List (Str × α), (l ++ [(y, a)]).lookup x = if l.lookup x = none then (if x = y then some a else none) else l.lookup x
  | [] => by
    show List.lookup x [(y, a)] = _
    rw [lookup_eq]
    rfl
  | (z, b) :: l => by
    rw [List.cons_append, lookup_eq, lookup_eq, lookup_snoc x y a l]
    by_cases e : x = z
    · rw [if_pos e, if_pos e]; rfl
    · rw [if_neg e, if_neg e]
section
variable {rules : List (Str × Rule)} {U : Str → Ans} {rk : Str → Nat} {st : CS}
theorem Good.len (g : Good rules U st) (hS : Sem rules U rk) : st.ans.length ≤ 24 ∧ st.memos.length ≤ 24 ∧ st.opn.length ≤ 24 ∧ st.run.length ≤ 24 := by
  have hf := hS.few
  have k : ∀ l : List Str, l.Nodup → (∀ x ∈ l, rules.lookup x ≠ none) → l.length ≤ 24 := fun l hn hl => by
    have := nodup_len hn (m := rules.map (·.1)) fun x hx => lookup_key.mp (hl x hx)
    rw [List.length_map] at this
    omega
  have hk : ∀ x, st.ans.lookup x ≠ none → rules.lookup x ≠ none := fun x hx => by
    cases e : st.ans.lookup x with
    | none => exact absurd e hx
    | some a =>
      obtain ⟨_, f, hf⟩ := g.ans x a e
      rw [hf]
      exact fun z => by cases z
  have h1 := k (st.ans.map (·.1)) g.ansN fun x hx => hk x (lookup_key.mpr hx)
  rw [List.length_map] at h1
  refine ⟨h1, ?_, k _ g.opn.1 fun x hx => (g.opn.2 x hx).2, k _ g.run.1 fun x hx => (g.run.2 x hx).elim (fun q => (g.opn.2 x q).2) (hk x)⟩
  have := congrArg List.length g.memN
  rw [List.length_map, List.length_map] at this
  omega
/-- a name is opened -/
theorem Good.push (g : Good rules U st) {x : Str} {f : Fm} (hx : rules.lookup x = some (.fml f)) (ha : st.ans.lookup x = none) (ho : x ∉ st.opn) : Good rules U { st with opn := st.opn ++ [x] } :=
  ⟨g.rul, g.ans, g.mem, g.memo, ⟨g.run.1, fun y hy => (g.run.2 y hy).imp (fun z => List.mem_append_left _ z) id⟩, ⟨nd_snoc g.opn.1 ho, fun y hy => by
    rcases List.mem_append.mp hy with z | z
    · exact g.opn.2 y z
    · rw [List.mem_singleton.mp z]
      exact ⟨ha, by rw [hx]; exact fun z => by cases z⟩⟩, g.ansN, g.memN⟩
theorem Good.ran (g : Good rules U st) {x : Str} (hx : x ∈ st.opn) (hr : x ∉ st.run) : Good rules U { st with run := st.run ++ [x] } :=
  ⟨g.rul, g.ans, g.mem, g.memo, ⟨nd_snoc g.run.1 hr, fun y hy => by
    rcases List.mem_append.mp hy with z | z
    · exact g.run.2 y z
    · rw [List.mem_singleton.mp z]
      exact .inl hx⟩, g.opn, g.ansN, g.memN⟩
theorem Good.closed (g : Good rules U st) {os : List Str} {x : Str} {f : Fm} (ho : st.opn = os ++ [x]) (hx : rules.lookup x = some (.fml f)) (hU : U x = (wor U f).1) : Good rules U (st.close os x (wor U f).2 none (wor U f).1) := by
  have hox : x ∈ st.opn := by rw [ho]; simp
  have hna := (g.opn.2 x hox).1
  have key : ∀ y a, (st.ans ++ [(x, (wor U f).1)]).lookup y = some a → (st.ans.lookup y = some a) ∨ (y = x ∧ a = (wor U f).1) := fun y a h => by
    rw [lookup_snoc] at h
    by_cases e : st.ans.lookup y = none
    · rw [if_pos e] at h
      by_cases q : y = x
      · rw [if_pos q] at h
        cases h
        exact .inr ⟨q, rfl⟩
      · rw [if_neg q] at h; cases h
    · rw [if_neg e] at h
      exact .inl h
  have nky : ∀ y, (st.ans ++ [(x, (wor U f).1)]).lookup y = none → st.ans.lookup y = none ∧ y ≠ x := fun y h => by
    rw [lookup_snoc] at h
    by_cases e : st.ans.lookup y = none
    · rw [if_pos e] at h
      refine ⟨e, fun q => ?_⟩
      rw [if_pos q] at h
      cases h
    · rw [if_neg e] at h
      exact absurd h e
  have hnod := g.opn.1
  rw [ho] at hnod
  have hxo : x ∉ os := fun z => by
    have := (List.nodup_append.mp hnod).2.2 x z x (by simp)
    exact this rfl
  refine ⟨g.rul, fun y a h => ?_, fun y h => ?_, fun y a h => ?_, ⟨g.run.1, fun y hy => ?_⟩, ⟨(List.nodup_append.mp hnod).1, fun y hy => ?_⟩, ?_, ?_⟩
  · rcases key y a h with q | ⟨rfl, rfl⟩
    · exact g.ans y a q
    · exact ⟨hU.symm, f, hx⟩
  · obtain ⟨h1, h2⟩ := nky y h
    show (st.memos ++ [(x, _)]).lookup y = none
    rw [lookup_snoc, if_pos (g.mem y h1), if_neg h2]
  · rcases key y a h with q | ⟨rfl, rfl⟩
    · obtain ⟨m, f', h1, h2⟩ := g.memo y a q
      refine ⟨m, f', ?_, h2⟩
      show (st.memos ++ [(x, _)]).lookup y = some m
      rw [lookup_snoc, if_neg (by rw [h1]; exact fun z => by cases z), h1]
    · refine ⟨⟨(wor U f).2, none, (wor U f).1⟩, f, ?_, rfl, hx, rfl⟩
      show (st.memos ++ [(y, _)]).lookup y = _
      rw [lookup_snoc, if_pos (g.mem y hna), if_pos rfl]
  · rcases g.run.2 y hy with q | q
    · rw [ho] at q
      rcases List.mem_append.mp q with q | q
      · exact .inl q
      · refine .inr ?_
        rw [List.mem_singleton.mp q]
        show (st.ans ++ [(x, _)]).lookup x ≠ none
        rw [lookup_snoc, if_pos hna, if_pos rfl]
        exact fun z => by cases z
    · refine .inr ?_
      show (st.ans ++ [(x, _)]).lookup y ≠ none
      rw [lookup_snoc, if_neg q]
      exact q
  · have hyo : y ∈ st.opn := by rw [ho]; exact List.mem_append_left _ hy
    obtain ⟨h1, h2⟩ := g.opn.2 y hyo
    refine ⟨?_, h2⟩
    show (st.ans ++ [(x, _)]).lookup y = none
    rw [lookup_snoc, if_pos h1, if_neg (fun e => hxo (by rw [← e]; exact hy))]
  · show ((st.ans ++ [(x, (wor U f).1)]).map (·.1)).Nodup
    rw [List.map_append]
    exact nd_snoc g.ansN fun z => (lookup_key.mpr z) hna
  · show (st.memos ++ [(x, (⟨(wor U f).2, none, (wor U f).1⟩ : Memo))]).map (·.1) = (st.ans ++ [(x, (wor U f).1)]).map (·.1)
    rw [List.map_append, List.map_append, g.memN]
    rfl
end
section
variable {P : Program} {w : World} {K : PySem.W.Frag} {mg : Str → Option Value} {base : Heap} {rules : List (Str × Rule)} {U : Str → Ans} {rk : Str → Nat} {n k : Nat}
theorem ok_told (T : Facts w K mg) (ha : OkM P w K mg base k "Cells" "answer" ["self", "name"] (spAns K rules U rk n)) : OkM P w K mg base (k + 1) "Asking" "told" ["self", "name"] (spTold K rules U rk n) := by
  refine T.m_Asking_told.F.ok sc_Asking_told (fun vs H Q E h => ?_) (fun cdv A outer s H vs Q E hr h => ?_)
  · obtain ⟨ca, st, ex, q, dq, rl, nm, x, rs, m, rfl, _⟩ := h
    rfl
  · obtain ⟨ca, st, ex, q, dq, rl, nm, x, rs, m, rfl, hC, hG, hm, hx, ho, hA, hq, hrl, hlen, kk⟩ := h
    refine ⟨_, PSs.nox (pss_cons (ps_fld (pv 0) (pv 1) rfl) 
      (pss_cons (ps_set (i := 2) sc_Asking_told.nd rfl (Or.inl rfl) (pe_me T.m_Cells_answer ha hr (pe_fld (pv 0) rfl) (pa_cons (pv 1) pa_nil))) 
      (pss_cons (ps_expr (pe_bm PySem.F.plainAttrs_list PySem.F.slot_list_append PySem.F.type_list_append mt_append (pe_fld (pv 0) rfl) (pa_cons (pe_tup (pa_cons (pv 1) (pa_cons (pv 2) pa_nil))) pa_nil))) 
      (pss_cons (ps_fld (pv 0) pe_non rfl) 
      (pss_one (ps_ret (pv 2))))))), ?_⟩
    have nqr := hA.ne
    obtain ⟨vs, v1, v2⟩ := hA.rd
    -- self.last = name
    refine ⟨_, rfl, _, rfl, q, _, dq, _, rfl, hA.at_, T.k_Asking.c, T.n_Asking_last, by show 4 < 1000; decide, ?_⟩
    rw [show putF "last" (V.str x) (askF ca.c nm rl none) = askF ca.c nm rl (some x) from put_last (l' := some x)]
    have k1 : Keep [q] H (upd H q (.ins (He.ga K "Asking") dq (askF ca.c nm rl (some x)))) := Keep.refl.upd (by simp) (by rw [hA.at_]; trivial)
    have c1 := hC.exSet k1 (by simpa using hq)
    have A1 : AskAt K (upd H q (.ins (He.ga K "Asking") dq (askF ca.c nm rl (some x)))) ca q dq rl nm (some x) rs := ⟨upd_same, vs, by rw [upd_ne nqr.symm]; exact v1, v2.keep k1⟩
    generalize upd H q (.ins (He.ga K "Asking") dq (askF ca.c nm rl (some x))) = H1 at k1 c1 A1 ⊢
    -- answer = self.cells.answer(name)
    refine ⟨_, rfl, q, _, dq, _, _, rfl, A1.at_, T.k_Asking.c, T.n_Asking_cells, lk_cells, ca.c, ca.dx, _, rfl, c1.c, cells_no.1, _, rfl, ?_⟩
    dsimp only [tNil]
    refine ⟨ca, st, ex, x, m, rfl, c1, hG, hm, hx, ho, fun st2 H2 c2 g2 l2 _ k2 => ?_⟩
    have A2 := A1.keep k2 (hC.exMut hq) (hC.exMut hrl)
    obtain ⟨vs2, v3, v4⟩ := A2.rd
    -- self.reads.append((name, answer))
    refine ⟨_, rfl, q, _, dq, _, _, rfl, A2.at_, T.k_Asking.c, T.n_Asking_reads, lk_reads, .inl ⟨rfl, _, SqL.of v3⟩, _, rfl, _, rfl, by show 2 ≤ sizeLine; decide, fun t ht => ?_⟩
    have k3 : Keep [] H2 (upd H2 t (.tup [.str x, (U x).v])) := Keep.refl.new ht
    have A3 := A2.keep k3 (by simp) (by simp)
    have v5 := k3.k _ _ (by simp) v3
    refine ⟨rl, _, _, rfl, rfl, v5, small5000 (by rw [v4.len]; omega), ?_⟩
    have mrl : Mut ((upd H2 t (.tup [.str x, (U x).v])) rl) := by rw [v5]; trivial
    have v6 : ToldAt K (upd H2 t (.tup [.str x, (U x).v])) (rs ++ [(x, U x)]) (vs2 ++ [.ref t]) := (v4.keep k3).snoc (SqT.of upd_same)
    have k4 : Keep [rl] (upd H2 t (.tup [.str x, (U x).v])) (upd (upd H2 t (.tup [.str x, (U x).v])) rl (.lst (vs2 ++ [.ref t]))) := Keep.refl.upd (by simp) mrl
    have c3 := (c2.keep0 k3).exSet k4 (by simpa using hrl)
    have A4 : AskAt K (upd (upd H2 t (.tup [.str x, (U x).v])) rl (.lst (vs2 ++ [.ref t]))) ca q dq rl nm (some x) (rs ++ [(x, U x)]) := ⟨k4.k _ _ (by simpa using nqr) A3.at_, _, upd_same, v6.keep k4⟩
    have k5 : Keep (q :: rl :: ca.mut) H (upd (upd H2 t (.tup [.str x, (U x).v])) rl (.lst (vs2 ++ [.ref t]))) :=
      (((k1.mono (by simp)).trans (k2.mono (by intro y hy; simp [hy]))).trans k3.of0).trans (k4.mono (by simp))
    generalize upd (upd H2 t (.tup [.str x, (U x).v])) rl (.lst (vs2 ++ [.ref t])) = H4 at c3 A4 k5 ⊢
    -- self.last = None
    refine ⟨_, rfl, q, _, dq, _, rfl, A4.at_, T.k_Asking.c, T.n_Asking_last, by show 4 < 1000; decide, ?_⟩
    rw [show putF "last" V.non (askF ca.c nm rl (some x)) = askF ca.c nm rl none from put_last (l' := none)]
    have k6 : Keep [q] H4 (upd H4 q (.ins (He.ga K "Asking") dq (askF ca.c nm rl none))) := Keep.refl.upd (by simp) (by rw [A4.at_]; trivial)
    obtain ⟨vs3, w1, w2⟩ := A4.rd
    have A5 : AskAt K (upd H4 q (.ins (He.ga K "Asking") dq (askF ca.c nm rl none))) ca q dq rl nm none (rs ++ [(x, U x)]) := ⟨upd_same, vs3, by rw [upd_ne nqr.symm]; exact w1, w2.keep k6⟩
    exact ⟨_, rfl, kk st2 _ (c3.exSet k6 (by simpa using hq)) g2 l2 A5 (k5.trans (k6.mono (by simp)))⟩
theorem ok_evd (T : Facts w K mg) (hS : Sem rules U rk) (hw : Ok P w K mg base k "worth" ["formula", "asking"] (spWorth K rules U rk n 6)) : OkM P w K mg base (k + 1) "Cells" "_evaluated" ["self", "asking", "formula"] (spEvd K rules U rk n) := by
  refine T.m_Cells__evaluated.F.ok sc_Cells__evaluated (fun vs H Q E h => ?_) (fun cdv A outer s H vs Q E hr h => ?_)
  · obtain ⟨ca, st, ex, q, dq, rl, x, f, v, rfl, _⟩ := h
    rfl
  · obtain ⟨ca, st, ex, q, dq, rl, x, f, v, rfl, hf, hx, hC, hG, hxo, hxr, hn, ho, hA, hq, hrl, kk⟩ := h
    refine ⟨_, PSs.nox (pss_cons (ps_set (i := 3) sc_Cells__evaluated.nd rfl (Or.inl rfl) (pe_dget1 (hu_of hr) (pe_fld (pv 0) rfl) (pe_fld (pv 1) rfl) ⟨rfl, rfl, rfl, rfl⟩)) 
      (pss_cons (ps_if (pt_cmpR op_notN (pv 3) pe_non (nomark _)) pss_never pss_nil) 
      (pss_cons (ps_expr (pe_bm PySem.F.plainAttrs_list PySem.F.slot_list_append PySem.F.type_list_append mt_append (pe_fld (pe_fld (pv 0) rfl) rfl) (pa_cons (pe_fld (pv 1) rfl) pa_nil))) 
      (pss_one (ps_ret (pe_cl T.d_worth hw hr (pa_cons (pv 2) (pa_cons (pv 1) pa_nil)))))))), ?_⟩
    obtain ⟨km, m1, m2⟩ := hC.m
    have hxa := (hG.opn.2 x hxo).1
    have hmn : valV km (Sum.inr x : Key) = none := m2.no (hG.mem x hxa)
    refine ⟨_, rfl, ca.c, _, ca.dx, _, _, rfl, hC.c, T.k_Cells.c, T.n_Cells__memos, lk_memos, ca.M, rfl, .inl ⟨km, .inl m1⟩, _, rfl, q, _, dq, _, _, rfl, hA.at_, T.k_Asking.c, T.n_Asking_name, lk_name, _, DGet.k (k := Sum.inr x) m1, ?_⟩
    rw [hmn]
    refine ⟨_, rfl, rfl, _, rfl, ifnP rfl ?_⟩
    -- self._revision.run.append(asking.name)
    have hl := (hG.len hS).2.2.2
    refine ⟨_, rfl, ca.c, _, ca.dx, _, _, rfl, hC.c, T.k_Cells.c, T.n_Cells__revision, lk_rev, ca.V, _, ca.dv, _, _, rfl, hC.v, T.k_Revision.c, T.n_Revision_run, lk_run, .inl ⟨rfl, _, SqL.of hC.ru⟩, _, rfl, q, _, dq, _, _, rfl, hA.at_, T.k_Asking.c, T.n_Asking_name, lk_name, _, _, _, rfl, rfl, hC.ru, small1000 (by rw [List.length_map]; omega), ?_⟩
    have e : st.run.map V.str ++ [V.str x] = (st.run ++ [x]).map V.str := by rw [List.map_append]; rfl
    rw [e]
    have c1 := hC.setRu (st.run ++ [x])
    have k1 : Keep ca.mut H (upd H ca.Ru (.lst ((st.run ++ [x]).map V.str))) := Keep.refl.upd (by simp [CA.mut]) hC.mutRu
    have A1 := hA.keep k1 (hC.exMut hq) (hC.exMut hrl)
    generalize upd H ca.Ru (.lst ((st.run ++ [x]).map V.str)) = H1 at c1 k1 A1 ⊢
    obtain ⟨_, hin, hd⟩ := hS.fml x f hx
    refine ⟨_, rfl, _, rfl, ?_⟩
    dsimp only [tNil]
    refine ⟨ca, _, ex, q, dq, rl, x, [], rk x, f, v, rfl, hf.keep k1, hd, hin, c1, hG.ran hxo hxr, hn, ho, A1, hq, hrl, by decide, fun st2 H2 c2 g2 l2 A2 _ k2 => ?_⟩
    exact kk st2 H2 c2 g2 ⟨l2.opn, fun y hy => l2.run y (List.mem_append_left _ hy)⟩ (l2.run x (by simp)) A2 ((k1.mono (by intro y hy; simp [hy])).trans k2)
theorem ok_ansd (T : Facts w K mg) (hS : Sem rules U rk) (hk : 3 ≤ k) (he : OkM P w K mg base k "Cells" "_evaluated" ["self", "asking", "formula"] (spEvd K rules U rk n)) : OkM P w K mg base (k + 1) "Cells" "_answered" ["self", "name", "formula"] (spAnsd K rules U rk n) := by
  refine T.m_Cells__answered.F.ok sc_Cells__answered (fun vs H Q E h => ?_) (fun cdv A outer s H vs Q E hr h => ?_)
  · obtain ⟨ca, st, ex, x, f, v, rfl, _⟩ := h
    rfl
  · obtain ⟨ca, st, ex, x, f, v, rfl, hf, hx, hxa, hxo, hC, hG, hn, ho, kk⟩ := h
    have hr3 : Room 3 _ := hr.mono hk
    have hr2 : Room (1 + 1) _ := hr.mono (by omega)
    refine ⟨_, PSs.nox (pss_cons (ps_set (i := 3) sc_Cells__answered.nd rfl (Or.inl rfl) (pe_mk T.k_Asking (ok_Asking_init T) hr2 (pa_cons (pv 0) (pa_cons (pv 1) pa_nil)))) 
      (pss_cons (ps_expr (pe_bm PySem.F.plainAttrs_list PySem.F.slot_list_append PySem.F.type_list_append mt_append (pe_fld (pv 0) rfl) (pa_cons (pv 1) pa_nil))) 
      (pss_cons (ps_try_thru0 (pss_one (ps_set (i := 4) sc_Cells__answered.nd rfl (Or.inl rfl) (pe_me T.m_Cells__evaluated he hr (pv 0) (pa_cons (pv 3) (pa_cons (pv 2) pa_nil)))))) 
      (pss_cons (ps_expr (pe_me T.m_Cells__close (ok_close T) hr3 (pv 0) (pa_cons (pv 3) (pa_cons (pv 4) pa_nil)))) 
      (pss_one (ps_ret (pv 4))))))), ?_⟩
    -- asking = Asking(self, name)
    refine ⟨_, rfl, _, rfl, ?_⟩
    intro q dq nq ndq neq
    refine ⟨q, dq, ca.c, x, rfl, upd_same, fun rl H1 hrl e1 e2 e3 => ⟨rfl, ?_⟩⟩
    have nrl : H rl = none := upd_none (upd_none hrl)
    have nqr : q ≠ rl := fun z => by rw [z] at e2; rw [e3] at e2; cases e2
    have k0 : Keep [] H H1 := by
      refine ⟨fun b o _ e => ?_, fun b o _ e => ?_, fun b e => ?_⟩
      · have hb := ne_of_none e nq
        rw [e1 b hb (ne_of_none e nrl), upd_ne hb, upd_ne (ne_of_none e ndq)]
        exact e
      · have hb := ne_of_none e nq
        rw [e1 b hb (ne_of_none e nrl), upd_ne hb, upd_ne (ne_of_none e ndq)]
        exact e
      · by_cases hb : b = q
        · rw [hb, e2] at e; cases e
        · by_cases hb2 : b = rl
          · rw [hb2, e3] at e; cases e
          · rw [e1 b hb hb2] at e
            exact upd_none (upd_none e)
    have c1 : CellsAt K ([q, rl] ++ ex) H1 ca st := hC.more k0 fun y hy => by
      simp only [List.mem_cons, List.not_mem_nil, or_false] at hy
      rcases hy with rfl | rfl
      · exact ⟨nq, by rw [e2]; exact fun z => by cases z⟩
      · exact ⟨nrl, by rw [e3]; exact fun z => by cases z⟩
    have A1 : AskAt K H1 ca q dq rl x none [] := ⟨e2, [], e3, trivial⟩
    -- self._open.append(name)
    have hl := (hG.len hS)
    refine ⟨_, rfl, ca.c, _, ca.dx, _, _, rfl, c1.c, T.k_Cells.c, T.n_Cells__open, lk_open, .inl ⟨rfl, _, SqL.of c1.o⟩, _, rfl, _, _, _, rfl, rfl, c1.o, small1000 (by rw [List.length_map]; omega), ?_⟩
    have e : st.opn.map V.str ++ [V.str x] = (st.opn ++ [x]).map V.str := by rw [List.map_append]; rfl
    rw [e]
    have c2 := c1.setO (st.opn ++ [x])
    have qx : q ∈ [q, rl] ++ ex := by simp
    have rx : rl ∈ [q, rl] ++ ex := by simp
    have k2 : Keep ca.mut H1 (upd H1 ca.O (.lst ((st.opn ++ [x]).map V.str))) := Keep.refl.upd (by simp [CA.mut]) c1.mutO
    have A2 := A1.keep k2 (c1.exMut qx) (c1.exMut rx)
    have kk2 := k0.of0.trans k2
    generalize upd H1 ca.O (.lst ((st.opn ++ [x]).map V.str)) = H2 at c2 k2 A2 kk2 ⊢
    have hxr : x ∉ st.run := fun z => (hG.run.2 x z).elim hxo fun q => q hxa
    -- answer = self._evaluated(asking, formula)
    refine ⟨_, rfl, ca.c, ca.dx, _, rfl, c2.c, cells_no.2.2.1, _, rfl, _, rfl, ?_⟩
    dsimp only [tNil]
    refine ⟨ca, _, [q, rl] ++ ex, q, dq, rl, x, f, v, rfl, hf.keep kk2, hx, c2, hG.push hx hxa hxo, by simp, hxr, hn, fun o hoo => ?_, A2, qx, rx, fun st3 H3 c3 g3 l3 r3 A3 k3 => ?_⟩
    · rcases List.mem_append.mp hoo with z | z
      · exact ho o z
      · rw [List.mem_singleton.mp z]; exact Nat.le_refl _
    -- self._close(asking, answer)
    have ho3 : st3.opn = st.opn ++ [x] := l3.opn
    have hxa3 := (g3.opn.2 x (by rw [ho3]; simp)).1
    have hl3 := g3.len hS
    refine ⟨_, rfl, ca.c, ca.dx, _, rfl, c3.c, cells_no.2.2.2.1, _, rfl, _, rfl, ?_⟩
    dsimp only [tNil]
    refine ⟨ca, st3, ex, q, dq, rl, x, (wor U f).2, st.opn, (wor U f).1, rfl, c3, A3, ho3, hxa3, g3.mem x hxa3, r3, by omega, by omega, fun z => (hC.e rl z).2 nrl, fun H4 c4 k4 => ?_⟩
    have hU := (hS.fml x f hx).1
    have g4 := g3.closed ho3 hx hU
    refine ⟨_, rfl, ?_⟩
    have q1 := kk _ H4 c4 g4 ⟨rfl, fun y hy => l3.run y hy⟩ ?_ ?_
    · rw [hU] at q1
      exact q1
    · show (st3.ans ++ [(x, _)]).lookup x ≠ none
      rw [lookup_snoc, if_pos hxa3, if_pos rfl]
      exact fun z => by cases z
    · have k5 : Keep (q :: rl :: ca.mut) H H4 := ((kk2.mono (by intro y hy; simp [hy])).trans k3).trans (k4.mono (by intro y hy; simp [hy]))
      exact (k5.drop nq).drop nrl
theorem ok_ans (T : Facts w K mg) (hS : Sem rules U rk) : ∀ n : Nat, OkM P w K mg base (11 * n + 3) "Cells" "answer" ["self", "name"] (spAns K rules U rk n) := by
  intro n
  induction n with
  | zero =>
    refine T.m_Cells_answer.F.ok sc_Cells_answer (fun vs H Q E h => ?_) (fun cdv A outer s H vs Q E hr h => ?_)
    · obtain ⟨ca, st, ex, x, m, rfl, _, _, hm, hx, _⟩ := h
      omega
    · obtain ⟨ca, st, ex, x, m, rfl, _, _, hm, hx, _⟩ := h
      omega
  | succ n ih =>
    have h1 : OkM P w K mg base (11 * n + 3 + 1) "Asking" "told" ["self", "name"] (spTold K rules U rk n) := ok_told T ih
    have h2 : Ok P w K mg base (11 * n + 3 + 1 + 1 + 6) "worth" ["formula", "asking"] (spWorth K rules U rk n 6) := ok_worth T hS (by omega) h1 6
    have h3 : OkM P w K mg base (11 * n + 3 + 1 + 1 + 6 + 1) "Cells" "_evaluated" ["self", "asking", "formula"] (spEvd K rules U rk n) := ok_evd T hS h2
    have h4 : OkM P w K mg base (11 * n + 3 + 1 + 1 + 6 + 1 + 1) "Cells" "_answered" ["self", "name", "formula"] (spAnsd K rules U rk n) := ok_ansd T hS (by omega) h3
    refine T.m_Cells_answer.F.ok sc_Cells_answer (fun vs H Q E h => ?_) (fun cdv A outer s H vs Q E hr h => ?_)
    · obtain ⟨ca, st, ex, x, m, rfl, _⟩ := h
      rfl
    · obtain ⟨ca, st, ex, x, m, rfl, hC, hG, hm, hx, ho, kk⟩ := h
      have hr4 : Room (11 * n + 3 + 1 + 1 + 6 + 1 + 1) _ := hr.mono (by omega)
      refine ⟨_, PSs.nox (pss_cons (ps_set (i := 2) sc_Cells_answer.nd rfl (Or.inl rfl) (pe_dget2 (hu_of hr) (pe_fld (pv 0) rfl) (pv 1) (pe_tup (pa_cons pe_str (pa_cons pe_non pa_nil))) ⟨rfl, rfl, rfl, rfl⟩)) 
      (pss_cons (ps_if (pt_cmpR op_eq (pe_ix ix_tup (pv 2) pe_int (fun _ _ => rfl)) pe_str (nomark _)) (pss_one (ps_ret (pe_ix ix_tup (pv 2) pe_int (fun _ _ => rfl)))) pss_nil) 
      (pss_cons (ps_if (pt_cmp (pc_din (hu_of hr) (pv 1) (pe_fld (pe_fld (pv 0) rfl) rfl))) (pss_one (ps_ret (pe_dget (hu_of hr) (pe_fld (pe_fld (pv 0) rfl) rfl) (pv 1) (fun _ _ => rfl)))) pss_nil) 
      (pss_cons (ps_if (pt_cmpR op_in_seq (pv 1) (pe_fld (pv 0) rfl) (by rfl)) (pss_one ps_never) pss_nil) 
      (pss_one (ps_ret (pe_me T.m_Cells__answered h4 hr4 (pv 0) (pa_cons (pv 1) (pa_cons (pe_ix ix_tup (pv 2) pe_int (fun _ _ => rfl)) pa_nil))))))))), ?_⟩
      obtain ⟨kr, r1, r2⟩ := hC.r
      obtain ⟨ka, a1, a2⟩ := hC.a
      refine ⟨_, rfl, ca.c, _, ca.dx, _, _, rfl, hC.c, T.k_Cells.c, T.n_Cells__rules, lk_rules, ca.R, rfl, .inl ⟨kr, .inl r1⟩, _, rfl, by show 2 ≤ sizeLine; decide, fun t ht => ?_⟩
      have k1 : Keep [] H (upd H t (.tup [.str "input", .non])) := Keep.refl.new ht
      have c1 := hC.keep0 k1
      have r3 := k1.k _ _ (by simp) r1
      have a3 := k1.k _ _ (by simp) a1
      have hT : SqT K (upd H t (.tup [.str "input", .non])) t [.str "input", .non] := SqT.of upd_same
      generalize upd H t (.tup [.str "input", .non]) = H1 at k1 c1 r3 a3 hT ⊢
      refine ⟨_, DGet.k (k := Sum.inr x) r3, ?_⟩
      rw [← hG.rul] at hS
      rcases r2.get x with ⟨h5, h6⟩ | ⟨r, v, h5, h6, h7⟩
      · -- no such cell
        rw [h6]
        refine ⟨_, rfl, _, _, _, _, rfl, rfl, hT, rfl, rfl, _, rfl, ifP rfl ?_⟩
        refine ⟨_, rfl, _, _, _, _, rfl, rfl, hT, rfl, ?_⟩
        have q1 := kk st H1 c1 hG Lq.refl (fun ⟨f, hf⟩ => by rw [← hG.rul, h5] at hf; cases hf) k1.of0
        rw [hS.no x h5] at q1
        exact q1
      · rw [h6]
        have h8 := h7.keep k1
        cases r with
        | inp a =>
          obtain ⟨b, rfl, hb⟩ := h8
          refine ⟨_, rfl, _, _, _, _, rfl, rfl, hb, rfl, rfl, _, rfl, ifP rfl ?_⟩
          refine ⟨_, rfl, _, _, _, _, rfl, rfl, hb, rfl, ?_⟩
          have q1 := kk st H1 c1 hG Lq.refl (fun ⟨f, hf⟩ => by rw [← hG.rul, h5] at hf; cases hf) k1.of0
          rw [hS.inp x a h5] at q1
          exact q1
        | fml f =>
          obtain ⟨b, y, rfl, hb, hf⟩ := h8
          refine ⟨_, rfl, _, _, _, _, rfl, rfl, hb, rfl, rfl, _, rfl, ifN (fun z => absurd (V.str.inj z) (by decide +kernel)) ?_⟩
          -- if name in self._revision.answers
          refine ⟨_, rfl, _, rfl, ca.c, _, ca.dx, _, _, rfl, c1.c, T.k_Cells.c, T.n_Cells__revision, lk_rev, ca.V, _, ca.dv, _, _, rfl, c1.v, T.k_Revision.c, T.n_Revision_answers, lk_answers, ca.A, _, rfl, DGet.k (k := Sum.inr x) a3, _, rfl, ?_⟩
          rcases a2.get x with ⟨h9, h10⟩ | ⟨a, v, h9, h10, rfl⟩
          · rw [h10]
            refine iteF ?_
            -- if name in self._open
            have hxo : x ∉ st.opn := fun z => by
              have := ho x z
              omega
            refine ⟨_, rfl, _, rfl, ca.c, _, ca.dx, _, _, rfl, c1.c, T.k_Cells.c, T.n_Cells__open, lk_open, _, _, rfl, .inl (SqL.of c1.o), rfl, flat_strs _, _, rfl, ?_⟩
            have hin : inV (.str x) (st.opn.map V.str) = false := by rw [inV_strs]; exact decide_eq_false hxo
            show if inV (V.str x) (st.opn.map V.str) = true then _ else _
            rw [hin]
            refine iteF ?_
            refine ⟨_, rfl, ca.c, ca.dx, _, rfl, c1.c, cells_no.2.1, _, rfl, _, rfl, _, _, _, _, rfl, rfl, hb, rfl, ?_⟩
            dsimp only [tNil]
            rw [hG.rul] at h5
            refine ⟨ca, st, ex, x, f, y, rfl, hf, h5, h9, hxo, c1, hG, by omega, fun o hoo => ?_, fun st2 H2 c2 g2 l2 n2 k2 => ?_⟩
            · have := ho o hoo
              omega
            · exact kk st2 H2 c2 g2 l2 (fun _ => n2) (k1.of0.trans k2)
          · rw [h10]
            refine iteT ?_
            refine ⟨_, rfl, ca.c, _, ca.dx, _, _, rfl, c1.c, T.k_Cells.c, T.n_Cells__revision, lk_rev, ca.V, _, ca.dv, _, _, rfl, c1.v, T.k_Revision.c, T.n_Revision_answers, lk_answers, _, rfl, ca.A, a.v, rfl, ?_, ?_⟩
            · have := DGet.k (k := Sum.inr x) a3
              rw [h10] at this
              exact this
            · have q1 := kk st H1 c1 hG Lq.refl (fun _ => by rw [h9]; exact fun z => by cases z) k1.of0
              rw [← (hG.ans x a h9).1] at q1
              exact q1
end
end Q

namespace Q
open PySem PySem.Spec PyProof.Rows L2
/-! ### new cells -/
def spRevInit (K : PySem.W.Frag) : Sp := fun vs H Q _ => ∃ (x dx : Addr), vs = [.ref x] ∧ H x = some (.ins (He.ga K "Revision") dx []) ∧
  ∀ (ca : CA) (H' : Hp), ca.V = x → ca.dv = dx → H ca.A = none → H ca.Ru = none → H ca.Ke = none → H ca.Cy = none → [x, ca.A, ca.Ru, ca.Ke, ca.Cy].Nodup → (∀ b, b ∉ [x, ca.A, ca.Ru, ca.Ke, ca.Cy] → H' b = H b) →
    H' x = some (.ins (He.ga K "Revision") dx (revF ca)) → H' ca.A = some (.dK []) → H' ca.Ru = some (.lst []) → H' ca.Ke = some (.lst []) → H' ca.Cy = some (.lst []) → Q .non H'
theorem rev_put {a : CA} : putF "cyclic" (.ref a.Cy) (putF "kept" (.ref a.Ke) (putF "run" (.ref a.Ru) (putF "answers" (.ref a.A) []))) = revF a := by kernel_rfl
section
variable {P : Program} {w : World} {K : PySem.W.Frag} {mg : Str → Option Value} {base : Heap}
theorem ok_Rev_init (T : Facts w K mg) : OkM P w K mg base 1 "Revision" "__init__" ["self"] (spRevInit K) := by
  refine T.k_Revision.F.ok sc_Revision___init__ (fun vs H Q E h => ?_) (fun cdv A outer s H vs Q E hr h => ?_)
  · obtain ⟨x, dx, rfl, _⟩ := h
    rfl
  · obtain ⟨x, dx, rfl, hx, k⟩ := h
    refine ⟨_, PSs.nox (pss_cons (ps_fld (pv 0) pe_dnewK rfl) 
      (pss_cons (ps_fld (pv 0) (pe_lst pa_nil) rfl) 
      (pss_cons (ps_fld (pv 0) (pe_lst pa_nil) rfl) 
      (pss_one (ps_fld (pv 0) (pe_lst pa_nil) rfl))))), ?_⟩
    intro a ha
    have na : x ≠ a := ne_of_none hx ha
    refine ⟨_, rfl, x, _, dx, _, rfl, by rw [upd_ne na]; exact hx, T.k_Revision.c, T.n_Revision_answers, by show 0 < 1000; decide, ?_⟩
    refine ⟨by show 0 ≤ sizeLine; decide, fun b hb => ?_⟩
    have nb : x ≠ b := ne_of_none upd_same hb
    have nab : a ≠ b := ne_of_none (by rw [upd_ne na.symm]; exact upd_same) hb
    refine ⟨_, rfl, x, _, dx, _, rfl, by rw [upd_ne nb]; exact upd_same, T.k_Revision.c, T.n_Revision_run, by show 1 < 1000; decide, ?_⟩
    refine ⟨by show 0 ≤ sizeLine; decide, fun c hc => ?_⟩
    have nc : x ≠ c := ne_of_none upd_same hc
    have nbc : b ≠ c := ne_of_none (by rw [upd_ne nb.symm]; exact upd_same) hc
    have nac : a ≠ c := ne_of_none (by rw [upd_ne na.symm, upd_ne nab, upd_ne na.symm]; exact upd_same) hc
    refine ⟨_, rfl, x, _, dx, _, rfl, by rw [upd_ne nc]; exact upd_same, T.k_Revision.c, T.n_Revision_kept, by show 2 < 1000; decide, ?_⟩
    refine ⟨by show 0 ≤ sizeLine; decide, fun d hd => ?_⟩
    have nd : x ≠ d := ne_of_none upd_same hd
    have ncd : c ≠ d := ne_of_none (by rw [upd_ne nc.symm]; exact upd_same) hd
    have nbd : b ≠ d := ne_of_none (by rw [upd_ne nb.symm, upd_ne nbc, upd_ne nb.symm]; exact upd_same) hd
    have nad : a ≠ d := ne_of_none (by rw [upd_ne na.symm, upd_ne nac, upd_ne na.symm, upd_ne nab, upd_ne na.symm]; exact upd_same) hd
    refine ⟨_, rfl, x, _, dx, _, rfl, by rw [upd_ne nd]; exact upd_same, T.k_Revision.c, T.n_Revision_cyclic, by show 3 < 1000; decide, ?_⟩
    have hb0 : H b = none := upd_none (upd_none hb)
    have hc0 : H c = none := upd_none (upd_none (upd_none (upd_none hc)))
    have hd0 : H d = none := upd_none (upd_none (upd_none (upd_none (upd_none (upd_none hd)))))
    refine k ⟨0, 0, 0, 0, 0, x, dx, a, b, c, d⟩ _ rfl rfl ha hb0 hc0 hd0 ?_ (fun y hy => ?_) ?_ ?_ ?_ ?_ ?_
    · simp only [List.nodup_cons, List.mem_cons, List.not_mem_nil, or_false, not_or, List.nodup_nil, and_true, not_false_eq_true]
      exact ⟨⟨na, nb, nc, nd⟩, ⟨nab, nac, nad⟩, ⟨nbc, nbd⟩, ncd⟩
    · simp only [List.mem_cons, List.not_mem_nil, or_false, not_or] at hy
      obtain ⟨y1, y2, y3, y4, y5⟩ := hy
      rw [upd_ne y1, upd_ne y5, upd_ne y1, upd_ne y4, upd_ne y1, upd_ne y3, upd_ne y1, upd_ne y2]
    · rw [upd_same, ← rev_put]
    · rw [upd_ne na.symm, upd_ne nad, upd_ne na.symm, upd_ne nac, upd_ne na.symm, upd_ne nab, upd_ne na.symm]; exact upd_same
    · rw [upd_ne nb.symm, upd_ne nbd, upd_ne nb.symm, upd_ne nbc, upd_ne nb.symm]; exact upd_same
    · rw [upd_ne nc.symm, upd_ne ncd, upd_ne nc.symm]; exact upd_same
    · rw [upd_ne nd.symm]; exact upd_same
end
def CS.new (rules : List (Str × Rule)) : CS := ⟨rules, [], [], [], [], [], []⟩
def spCellsInit (K : PySem.W.Frag) : Sp := fun vs H Q _ => ∃ (x dx : Addr), vs = [.ref x] ∧ H x = some (.ins (He.ga K "Cells") dx []) ∧
  ∀ (ca : CA) (H' : Hp), ca.c = x → CellsAt K [] H' ca (CS.new []) → (∀ y ∈ ca.all, y = x ∨ H y = none) → Keep [x] H H' → Q .non H'
theorem cells_put {a : CA} : putF "_revision" (.ref a.V) (putF "_open" (.ref a.O) (putF "_memos" (.ref a.M) (putF "_rules" (.ref a.R) []))) = cellsF a := by kernel_rfl
section
variable {P : Program} {w : World} {K : PySem.W.Frag} {mg : Str → Option Value} {base : Heap}
theorem ok_Cells_init (T : Facts w K mg) : OkM P w K mg base 3 "Cells" "__init__" ["self"] (spCellsInit K) := by
  refine T.k_Cells.F.ok sc_Cells___init__ (fun vs H Q E h => ?_) (fun cdv A outer s H vs Q E hr h => ?_)
  · obtain ⟨x, dx, rfl, _⟩ := h
    rfl
  · obtain ⟨x, dx, rfl, hx, k⟩ := h
    refine ⟨_, PSs.nox (pss_cons (ps_fld (pv 0) pe_dnewK rfl) 
      (pss_cons (ps_fld (pv 0) pe_dnewK rfl) 
      (pss_cons (ps_fld (pv 0) (pe_lst pa_nil) rfl) 
      (pss_one (ps_fld (pv 0) (pe_mk0 T.k_Revision (ok_Rev_init T) (hr.mono (by decide))) rfl))))), ?_⟩
    intro a ha
    have na : x ≠ a := ne_of_none hx ha
    refine ⟨_, rfl, x, _, dx, _, rfl, by rw [upd_ne na]; exact hx, T.k_Cells.c, T.n_Cells__rules, by show 0 < 1000; decide, ?_⟩
    intro b hb
    have nb : x ≠ b := ne_of_none upd_same hb
    have nab : a ≠ b := ne_of_none (by rw [upd_ne na.symm]; exact upd_same) hb
    refine ⟨_, rfl, x, _, dx, _, rfl, by rw [upd_ne nb]; exact upd_same, T.k_Cells.c, T.n_Cells__memos, by show 1 < 1000; decide, ?_⟩
    refine ⟨by show 0 ≤ sizeLine; decide, fun c hc => ?_⟩
    have nc : x ≠ c := ne_of_none upd_same hc
    have nbc : b ≠ c := ne_of_none (by rw [upd_ne nb.symm]; exact upd_same) hc
    have nac : a ≠ c := ne_of_none (by rw [upd_ne na.symm, upd_ne nab, upd_ne na.symm]; exact upd_same) hc
    refine ⟨_, rfl, x, _, dx, _, rfl, by rw [upd_ne nc]; exact upd_same, T.k_Cells.c, T.n_Cells__open, by show 2 < 1000; decide, ?_⟩
    have k1 : Keep [x] H (upd (upd (upd (upd (upd (upd H a (.dK [])) x (.ins (He.ga K "Cells") dx (putF "_rules" (.ref a) []))) b (.dK [])) x (.ins (He.ga K "Cells") dx (putF "_memos" (.ref b) (putF "_rules" (.ref a) [])))) c (.lst [])) x (.ins (He.ga K "Cells") dx (putF "_open" (.ref c) (putF "_memos" (.ref b) (putF "_rules" (.ref a) []))))) := by
      have hb0 : H b = none := upd_none (upd_none hb)
      have hc0 : H c = none := upd_none (upd_none (upd_none (upd_none hc)))
      refine (((((Keep.refl.new ha).upd (by simp) ?_).new hb0).upd (by simp) ?_).new hc0).upd (by simp) ?_
      · rw [upd_ne na, hx]; trivial
      · rw [upd_ne nb, upd_same]; trivial
      · rw [upd_ne nc, upd_same]; trivial
    have ga : (upd (upd (upd (upd (upd (upd H a (.dK [])) x (.ins (He.ga K "Cells") dx (putF "_rules" (.ref a) []))) b (.dK [])) x (.ins (He.ga K "Cells") dx (putF "_memos" (.ref b) (putF "_rules" (.ref a) [])))) c (.lst [])) x (.ins (He.ga K "Cells") dx (putF "_open" (.ref c) (putF "_memos" (.ref b) (putF "_rules" (.ref a) []))))) a = some (.dK []) := by
      rw [upd_ne na.symm, upd_ne nac, upd_ne na.symm, upd_ne nab, upd_ne na.symm]; exact upd_same
    have gb : (upd (upd (upd (upd (upd (upd H a (.dK [])) x (.ins (He.ga K "Cells") dx (putF "_rules" (.ref a) []))) b (.dK [])) x (.ins (He.ga K "Cells") dx (putF "_memos" (.ref b) (putF "_rules" (.ref a) [])))) c (.lst [])) x (.ins (He.ga K "Cells") dx (putF "_open" (.ref c) (putF "_memos" (.ref b) (putF "_rules" (.ref a) []))))) b = some (.dK []) := by
      rw [upd_ne nb.symm, upd_ne nbc, upd_ne nb.symm]; exact upd_same
    have gc : (upd (upd (upd (upd (upd (upd H a (.dK [])) x (.ins (He.ga K "Cells") dx (putF "_rules" (.ref a) []))) b (.dK [])) x (.ins (He.ga K "Cells") dx (putF "_memos" (.ref b) (putF "_rules" (.ref a) [])))) c (.lst [])) x (.ins (He.ga K "Cells") dx (putF "_open" (.ref c) (putF "_memos" (.ref b) (putF "_rules" (.ref a) []))))) c = some (.lst []) := by
      rw [upd_ne nc.symm]; exact upd_same
    have gx : (upd (upd (upd (upd (upd (upd H a (.dK [])) x (.ins (He.ga K "Cells") dx (putF "_rules" (.ref a) []))) b (.dK [])) x (.ins (He.ga K "Cells") dx (putF "_memos" (.ref b) (putF "_rules" (.ref a) [])))) c (.lst [])) x (.ins (He.ga K "Cells") dx (putF "_open" (.ref c) (putF "_memos" (.ref b) (putF "_rules" (.ref a) []))))) x = some (.ins (He.ga K "Cells") dx (putF "_open" (.ref c) (putF "_memos" (.ref b) (putF "_rules" (.ref a) [])))) := upd_same
    have hb0 : H b = none := upd_none (upd_none hb)
    have hc0 : H c = none := upd_none (upd_none (upd_none (upd_none hc)))
    generalize upd (upd (upd (upd (upd (upd H a (.dK [])) x (.ins (He.ga K "Cells") dx (putF "_rules" (.ref a) []))) b (.dK [])) x (.ins (He.ga K "Cells") dx (putF "_memos" (.ref b) (putF "_rules" (.ref a) [])))) c (.lst [])) x (.ins (He.ga K "Cells") dx (putF "_open" (.ref c) (putF "_memos" (.ref b) (putF "_rules" (.ref a) [])))) = H1 at k1 ga gb gc gx ⊢
    -- self._revision = Revision()
    intro v dv nv ndv nev
    refine ⟨v, dv, rfl, upd_same, fun ca0 H2 eV edv fA fRu fKe fCy nod same h1 h2 h3 h4 h5 => ⟨rfl, ?_⟩⟩
    have nn : ∀ {y}, (upd (upd H1 dv (.own v)) v (.ins (He.ga K "Revision") dv [])) y = none → H1 y = none := fun z => upd_none (upd_none z)
    have old : ∀ y, H1 y ≠ none → H2 y = H1 y := fun y hy => by
      have n1 : y ≠ v := fun z => hy (by rw [z]; exact nv)
      have n2 : y ≠ dv := fun z => hy (by rw [z]; exact ndv)
      rw [same y ?_, upd_ne n1, upd_ne n2]
      simp only [List.mem_cons, List.not_mem_nil, or_false, not_or]
      exact ⟨n1, fun z => hy (by rw [z]; exact nn fA), fun z => hy (by rw [z]; exact nn fRu), fun z => hy (by rw [z]; exact nn fKe), fun z => hy (by rw [z]; exact nn fCy)⟩
    have o1 : ∀ y o, H1 y = some o → H2 y = some o := fun y o e => (old y (by rw [e]; exact fun z => by cases z)).trans e
    refine ⟨_, rfl, x, _, dx, _, rfl, o1 _ _ gx, T.k_Cells.c, T.n_Cells__revision, by show 3 < 1000; decide, ?_⟩
    have xr : ∀ y, (H2 y ≠ none ∧ y ≠ x) → (upd H2 x (.ins (He.ga K "Cells") dx (putF "_revision" (.ref v) (putF "_open" (.ref c) (putF "_memos" (.ref b) (putF "_rules" (.ref a) [])))))) y = H2 y := fun y h => upd_ne h.2
    have nx : ∀ y, H1 y = none → y ≠ x := fun y h z => by rw [z, gx] at h; cases h
    have hA : ca0.A ≠ x := nx _ (nn fA)
    have hRu : ca0.Ru ≠ x := nx _ (nn fRu)
    have hKe : ca0.Ke ≠ x := nx _ (nn fKe)
    have hCy : ca0.Cy ≠ x := nx _ (nn fCy)
    have hV : v ≠ x := nx _ nv
    have fa : ∀ y z, H1 y = none → H1 z ≠ none → y ≠ z := fun y z h1 h2 e => h2 (by rw [← e]; exact h1)
    have hxa : H1 a ≠ none := by rw [ga]; exact fun z => by cases z
    have hxb : H1 b ≠ none := by rw [gb]; exact fun z => by cases z
    have hxc : H1 c ≠ none := by rw [gc]; exact fun z => by cases z
    simp only [List.nodup_cons, List.mem_cons, List.not_mem_nil, or_false, not_or, List.nodup_nil, and_true, not_false_eq_true] at nod
    obtain ⟨⟨d1, d2, d3, d4⟩, ⟨d5, d6, d7⟩, ⟨d8, d9⟩, d10⟩ := nod
    refine k ⟨x, dx, a, b, c, v, dv, ca0.A, ca0.Ru, ca0.Ke, ca0.Cy⟩ _ rfl ?_ (fun y hy => ?_) ?_
    · refine ⟨?_, ?_, ⟨[], ?_, trivial⟩, ⟨[], ?_, trivial⟩, ?_, ⟨[], ?_, trivial⟩, ?_, ?_, ?_, ?_, by simp⟩
      · show upd H2 x _ x = _
        rw [upd_same, ← cells_put]
      · show upd H2 x _ v = _
        rw [upd_ne hV, h1]
        rfl
      · show upd H2 x _ a = _
        rw [upd_ne na.symm]; exact o1 _ _ ga
      · show upd H2 x _ b = _
        rw [upd_ne nb.symm]; exact o1 _ _ gb
      · show upd H2 x _ c = _
        rw [upd_ne nc.symm]; exact o1 _ _ gc
      · show upd H2 x _ ca0.A = _
        rw [upd_ne hA]; exact h2
      · show upd H2 x _ ca0.Ru = _
        rw [upd_ne hRu]; exact h3
      · show upd H2 x _ ca0.Ke = _
        rw [upd_ne hKe]; exact h4
      · show upd H2 x _ ca0.Cy = _
        rw [upd_ne hCy]; exact h5
      · simp only [CA.all, CA.mut, List.nodup_cons, List.mem_cons, List.not_mem_nil, or_false, not_or, List.nodup_nil, and_true, not_false_eq_true]
        exact ⟨⟨hV.symm, na, nb, nc, hA.symm, hRu.symm, hKe.symm, hCy.symm⟩, ⟨fa _ _ nv hxa, fa _ _ nv hxb, fa _ _ nv hxc, d1, d2, d3, d4⟩,
          ⟨nab, nac, (fa _ _ (nn fA) hxa).symm, (fa _ _ (nn fRu) hxa).symm, (fa _ _ (nn fKe) hxa).symm, (fa _ _ (nn fCy) hxa).symm⟩,
          ⟨nbc, (fa _ _ (nn fA) hxb).symm, (fa _ _ (nn fRu) hxb).symm, (fa _ _ (nn fKe) hxb).symm, (fa _ _ (nn fCy) hxb).symm⟩,
          ⟨(fa _ _ (nn fA) hxc).symm, (fa _ _ (nn fRu) hxc).symm, (fa _ _ (nn fKe) hxc).symm, (fa _ _ (nn fCy) hxc).symm⟩, ⟨d5, d6, d7⟩, ⟨d8, d9⟩, d10⟩
    · simp only [CA.all, CA.mut, List.mem_cons, List.not_mem_nil, or_false] at hy
      have kn := k1.n
      rcases hy with rfl | rfl | rfl | rfl | rfl | rfl | rfl | rfl | rfl
      · exact .inl rfl
      · exact .inr (kn _ nv)
      · exact .inr ha
      · exact .inr hb0
      · exact .inr hc0
      · exact .inr (kn _ (nn fA))
      · exact .inr (kn _ (nn fRu))
      · exact .inr (kn _ (nn fKe))
      · exact .inr (kn _ (nn fCy))
    · have k2 : Keep [] H1 H2 := by
        refine ⟨fun y o _ e => o1 y o e, fun y o _ e => o1 y o e, fun y e => ?_⟩
        cases q : H1 y with
        | none => rfl
        | some o => rw [o1 y o q] at e; cases e
      refine (k1.trans k2.of0).upd (by simp) ?_
      rw [o1 _ _ gx]
      trivial
end
end Q

namespace Q
open PySem PySem.Spec PyProof.Rows L2
/-! ### rules as data -/
theorem let_small {c : Nat} (h : letB c = true) : c < 0x110000 := by
  have h1 : c ∈ LET.cps.toList := of_decide_eq_true h
  have h2 : LET.cps.toList.all (fun c => decide (c < 0x110000)) = true := by decide +kernel
  exact of_decide_eq_true (List.all_eq_true.mp h2 c h1)
theorem IsNm.ok {x : Str} (h : IsNm x) : PyData.strOk x = true := by
  unfold PyData.strOk
  rw [Array.all_eq_true_iff_forall_mem]
  intro c hc
  exact decide_eq_true (let_small (h.al c (by simpa using hc)))
def Fm.data : Fm → PyData
  | .non => .none
  | .int i => .int i
  | .name x => .str x
  | .cyc x => .tuple [.str "cyclic", .str x]
  | .op w f g => .tuple [.str w.word, f.data, g.data]
  | .ite c f g => .tuple [.str "if", c.data, f.data, g.data]
theorem FmAt.dp {K : PySem.W.Frag} {H : Hp} : ∀ {f : Fm} {v : V}, FmAt K H f v → Dp K H v f.data
  | .non, _, h => by cases h; exact .non
  | .int i, _, h => by cases h; exact .int i
  | .name x, _, h => by cases h; exact .str x
  | .cyc x, _, h => by
    obtain ⟨a, rfl, h⟩ := h
    exact .tup h (.cons (.str _) (.cons (.str _) .nil))
  | .op w f g, _, h => by
    obtain ⟨a, x, y, rfl, h, h1, h2⟩ := h
    exact .tup h (.cons (.str _) (.cons h1.dp (.cons h2.dp .nil)))
  | .ite c f g, _, h => by
    obtain ⟨a, x, y, z, rfl, h, h1, h2, h3⟩ := h
    exact .tup h (.cons (.str _) (.cons h1.dp (.cons h2.dp (.cons h3.dp .nil))))
theorem word_ok (w : Op3) : PyData.strOk w.word = true := by cases w <;> decide +kernel
theorem Fm.lay : ∀ {f : Fm}, f.In IsNm → f.data.canLay0 = true ∧ f.data.depth ≤ f.dep
  | .non, _ => ⟨rfl, Nat.le_refl _⟩
  | .int _, _ => ⟨rfl, Nat.le_refl _⟩
  | .name x, h => by
    have h' : IsNm x := h
    exact ⟨by simp only [Fm.data, PyData.canLay0]; exact h'.ok, by simp only [Fm.data, PyData.depth]; exact Nat.zero_le _⟩
  | .cyc x, h => by
    have h' : IsNm x := h
    refine ⟨?_, ?_⟩
    · simp only [Fm.data, PyData.canLay0, PyData.canLayAll0, h'.ok, Bool.and_true]
      decide +kernel
    · simp [Fm.data, PyData.depth, PyData.depthAll, Fm.dep]
  | .op w f g, h => by
    obtain ⟨a1, a2⟩ := Fm.lay h.1
    obtain ⟨b1, b2⟩ := Fm.lay h.2
    refine ⟨?_, ?_⟩
    · simp only [Fm.data, PyData.canLay0, PyData.canLayAll0, word_ok, a1, b1, Bool.and_true]
    · simp only [Fm.data, PyData.depth, PyData.depthAll, Fm.dep]
      omega
  | .ite c f g, h => by
    obtain ⟨a1, a2⟩ := Fm.lay h.1
    obtain ⟨b1, b2⟩ := Fm.lay h.2.1
    obtain ⟨c1, c2⟩ := Fm.lay h.2.2
    refine ⟨?_, ?_⟩
    · simp only [Fm.data, PyData.canLay0, PyData.canLayAll0, a1, b1, c1, Bool.and_true]
      decide +kernel
    · simp only [Fm.data, PyData.depth, PyData.depthAll, Fm.dep]
      omega
def Ans.data : Ans → PyData
  | .non => .none
  | .int i => .int i
  | .cyc => .str "cyclic"
theorem Ans.dp {K : PySem.W.Frag} {H : Hp} (a : Ans) : Dp K H a.v a.data := by
  cases a
  · exact .non
  · exact .int _
  · exact .str _
theorem Ans.lay (a : Ans) : a.data.canLay0 = true ∧ a.data.depth = 0 := by
  cases a
  · exact ⟨rfl, rfl⟩
  · exact ⟨rfl, rfl⟩
  · exact ⟨by simp only [Ans.data, PyData.canLay0]; decide +kernel, rfl⟩
def Rule.data : Rule → PyData
  | .inp a => .tuple [.str "input", a.data]
  | .fml f => .tuple [.str "formula", f.data]
/-- a rule whose parts are right -/
def Rule.fit : Rule → Prop
  | .inp a => a ≠ .cyc
  | .fml f => f.dep ≤ 6 ∧ f.In IsNm
theorem RuleAt.dp {K : PySem.W.Frag} {H : Hp} {r : Rule} {v : V} (h : RuleAt K H r v) : Dp K H v r.data := by
  cases r with
  | inp a =>
    obtain ⟨t, rfl, h⟩ := h
    exact .tup h (.cons (.str _) (.cons a.dp .nil))
  | fml f =>
    obtain ⟨t, y, rfl, h, hf⟩ := h
    exact .tup h (.cons (.str _) (.cons hf.dp .nil))
theorem Rule.shaped {r : Rule} (h : r.fit) : SeqAt.shaped r.data = true := by
  unfold SeqAt.shaped
  rw [Bool.and_eq_true, decide_eq_true_iff]
  cases r with
  | inp a =>
    obtain ⟨a1, a2⟩ := a.lay
    refine ⟨?_, ?_⟩
    · simp only [Rule.data, PyData.canLay0, PyData.canLayAll0, a1, Bool.and_true]
      decide +kernel
    · simp only [Rule.data, PyData.depth, PyData.depthAll, a2]
      decide
  | fml f =>
    obtain ⟨a1, a2⟩ := Fm.lay h.2
    have := h.1
    refine ⟨?_, ?_⟩
    · simp only [Rule.data, PyData.canLay0, PyData.canLayAll0, a1, Bool.and_true]
      decide +kernel
    · simp only [Rule.data, PyData.depth, PyData.depthAll]
      omega
/-! ### a new revision -/
def kdrop {α : Type} (l : List (Str × α)) (x : Str) : List (Str × α) := l.filter fun p => decide (p.1 ≠ x)
theorem KvAt.drop {α : Type} {R : α → V → Prop} (x : Str) : ∀ {l : List (Str × α)} {m : List (Key × V)}, KvAt R l m → KvAt R (kdrop l x) (dropK m (Sum.inr x))
  | [], [], _ => trivial
  | (y, a) :: l, (k, v) :: m, z => by
    obtain ⟨rfl, r, t⟩ := z
    unfold kdrop dropK
    by_cases h : y = x
    · subst h
      rw [List.filter_cons_of_neg (by simp), List.filter_cons_of_neg (by simp)]
      exact KvAt.drop y t
    · rw [List.filter_cons_of_pos (by simpa using h), List.filter_cons_of_pos (by simpa using h)]
      exact ⟨rfl, r, KvAt.drop x t⟩
theorem kdrop_no {α : Type} {l : List (Str × α)} {x : Str} (h : l.lookup x = none) : kdrop l x = l := by
  induction l with
  | nil => rfl
  | cons p l ih =>
    obtain ⟨y, a⟩ := p
    rw [lookup_eq] at h
    by_cases e : x = y
    · rw [if_pos e] at h; cases h
    · rw [if_neg e] at h
      unfold kdrop
      rw [List.filter_cons_of_pos (by simpa using fun z => e z.symm)]
      exact congrArg _ (ih h)
theorem dpop_any {Q : V → Hp → Prop} {H : Hp} {a : Addr} {km : List (Key × V)} {k : Key} {z : V} (h : ∀ v Hm, (valV km k ≠ none ∧ Hm = upd H a (.dK (dropK km k))) ∨ (valV km k = none ∧ Hm = H) → Q v Hm) :
    (∀ v, valV km k = some v → Q v (upd H a (.dK (dropK km k)))) ∧ (valV km k = none → Q z H) :=
  ⟨fun v e => h v _ (.inl ⟨by rw [e]; simp, rfl⟩), fun e => h z H (.inr ⟨e, rfl⟩)⟩
/-- the state behind a change of x -/
def CS.change (st : CS) (x : Str) : CS := { st with memos := kdrop st.memos x, ans := [], run := [], kept := [], cyc := [] }
def spChange (K : PySem.W.Frag) : Sp := fun vs H Q _ => ∃ (ca : CA) (st : CS) (ex : List Addr) (x : Str), vs = [.ref ca.c, .str x] ∧ CellsAt K ex H ca st ∧
  ∀ (ca' : CA) (H' : Hp), ca'.c = ca.c → CellsAt K ex H' ca' (st.change x) → (∀ y ∈ ca'.all, y ∈ ca.all ∨ H y = none) → Keep [ca.c, ca.M] H H' → Q .non H'
section
variable {P : Program} {w : World} {K : PySem.W.Frag} {mg : Str → Option Value} {base : Heap}
theorem ok_change (T : Facts w K mg) : OkM P w K mg base 3 "Cells" "_change" ["self", "name"] (spChange K) := by
  refine T.m_Cells__change.F.ok sc_Cells__change (fun vs H Q E h => ?_) (fun cdv A outer s H vs Q E hr h => ?_)
  · obtain ⟨ca, st, ex, x, rfl, _⟩ := h
    rfl
  · obtain ⟨ca, st, ex, x, rfl, hC, k⟩ := h
    refine ⟨_, PSs.nox (pss_cons (ps_expr (pe_dpop2 (pe_fld (pv 0) rfl) (pv 1) pe_non ⟨rfl, rfl, rfl, rfl⟩)) 
      (pss_one (ps_fld (pv 0) (pe_mk0 T.k_Revision (ok_Rev_init T) (hr.mono (by decide))) rfl))), ?_⟩
    obtain ⟨km, m1, m2⟩ := hC.m
    refine ⟨_, rfl, ca.c, _, ca.dx, _, _, rfl, hC.c, T.k_Cells.c, T.n_Cells__memos, lk_memos, ca.M, rfl, .inl ⟨km, .inl m1⟩, _, rfl, km, Sum.inr x, m1, rfl, ?_⟩
    refine dpop_any (z := .non) fun v Hm hm => ?_
    have c1 : CellsAt K ex Hm ca { st with memos := kdrop st.memos x } ∧ Keep [ca.M] H Hm := by
      rcases hm with ⟨_, rfl⟩ | ⟨e, rfl⟩
      · exact ⟨hC.setM (m2.drop x), Keep.refl.upd (by simp) hC.mutM⟩
      · refine ⟨?_, Keep.refl⟩
        rcases m2.get x with ⟨h1, _⟩ | ⟨a, v, _, h2, _⟩
        · rw [kdrop_no h1]; exact hC
        · rw [e] at h2; cases h2
    obtain ⟨c1, k1⟩ := c1
    clear hm m1 m2
    intro v dv nv ndv nev
    refine ⟨v, dv, rfl, upd_same, fun ca0 H2 eV edv fA fRu fKe fCy nod same h1 h2 h3 h4 h5 => ⟨rfl, ?_⟩⟩
    have nn : ∀ {y}, (upd (upd Hm dv (.own v)) v (.ins (He.ga K "Revision") dv [])) y = none → Hm y = none := fun z => upd_none (upd_none z)
    have old : ∀ y, Hm y ≠ none → H2 y = Hm y := fun y hy => by
      have n1 : y ≠ v := fun z => hy (by rw [z]; exact nv)
      have n2 : y ≠ dv := fun z => hy (by rw [z]; exact ndv)
      rw [same y ?_, upd_ne n1, upd_ne n2]
      simp only [List.mem_cons, List.not_mem_nil, or_false, not_or]
      exact ⟨n1, fun z => hy (by rw [z]; exact nn fA), fun z => hy (by rw [z]; exact nn fRu), fun z => hy (by rw [z]; exact nn fKe), fun z => hy (by rw [z]; exact nn fCy)⟩
    have o1 : ∀ y o, Hm y = some o → H2 y = some o := fun y o e => (old y (by rw [e]; exact fun z => by cases z)).trans e
    have k2 : Keep [] Hm H2 := by
      refine ⟨fun y o _ e => o1 y o e, fun y o _ e => o1 y o e, fun y e => ?_⟩
      cases q : Hm y with
      | none => rfl
      | some o => rw [o1 y o q] at e; cases e
    have c2 := c1.keep0 k2
    refine ⟨_, rfl, ca.c, _, ca.dx, _, rfl, c2.c, T.k_Cells.c, T.n_Cells__revision, by show 4 < 1000; decide, ?_⟩
    have inAll : ∀ {y}, y ∈ ca.all → Hm y ≠ none := fun hy => c1.there _ hy
    have fr : ∀ {y z}, Hm y = none → z ∈ ca.all → y ≠ z := fun h1 hz e => inAll hz (by rw [← e]; exact h1)
    have mc : ca.c ∈ ca.all := by simp [CA.all]
    have mR : ca.R ∈ ca.all := by simp [CA.all]
    have mM : ca.M ∈ ca.all := by simp [CA.all, CA.mut]
    have mO : ca.O ∈ ca.all := by simp [CA.all, CA.mut]
    have nod0 := c1.n
    simp only [CA.all, CA.mut, List.nodup_cons, List.mem_cons, List.not_mem_nil, or_false, not_or, List.nodup_nil, and_true, not_false_eq_true] at nod0
    simp only [List.nodup_cons, List.mem_cons, List.not_mem_nil, or_false, not_or, List.nodup_nil, and_true, not_false_eq_true] at nod
    obtain ⟨⟨d1, d2, d3, d4⟩, ⟨d5, d6, d7⟩, ⟨d8, d9⟩, d10⟩ := nod
    obtain ⟨⟨_, e1, e2, e3, _⟩, _, ⟨e4, e5, _⟩, ⟨e6, _⟩, _⟩ := nod0
    obtain ⟨kr, r1, r2⟩ := c2.r
    obtain ⟨km, m1, m2⟩ := c1.m
    have kc : Keep [ca.c] H2 (upd H2 ca.c (.ins (He.ga K "Cells") ca.dx (putF "_revision" (.ref v) (cellsF ca)))) := Keep.refl.upd (by simp) (by rw [c2.c]; trivial)
    have k3 : Keep [ca.c, ca.M] H (upd H2 ca.c (.ins (He.ga K "Cells") ca.dx (putF "_revision" (.ref v) (cellsF ca)))) := ((k1.mono (by simp)).trans k2.of0).trans (kc.mono (by simp))
    refine k ⟨ca.c, ca.dx, ca.R, ca.M, ca.O, v, dv, ca0.A, ca0.Ru, ca0.Ke, ca0.Cy⟩ _ rfl ?_ (fun y hy => ?_) k3
    · refine ⟨?_, ?_, ⟨kr, ?_, r2.imp fun _ _ z => z.keep kc⟩, ⟨km, ?_, m2.imp fun _ _ z => ?_⟩, ?_, ⟨[], ?_, trivial⟩, ?_, ?_, ?_, ?_, fun y hy => ?_⟩
      · show upd H2 ca.c _ ca.c = _
        rw [upd_same]
        rfl
      · show upd H2 ca.c _ v = _
        rw [upd_ne (fr nv mc), h1]
        rfl
      · show upd H2 ca.c _ ca.R = _
        rw [upd_ne (Ne.symm e1)]; exact r1
      · show upd H2 ca.c _ ca.M = _
        rw [upd_ne (Ne.symm e2)]; exact o1 _ _ m1
      · obtain ⟨q, dq, rl, vs, e, q1, n1, q2, n2, q3⟩ := z
        have nq : ∀ y o, y ∉ ex ++ ca.mut → Hm y = some o → y ∉ ex ++ (⟨ca.c, ca.dx, ca.R, ca.M, ca.O, v, dv, ca0.A, ca0.Ru, ca0.Ke, ca0.Cy⟩ : CA).mut := fun y o n e => by
          have en : Hm y ≠ none := by rw [e]; exact fun z => by cases z
          simp only [CA.mut, List.mem_append, List.mem_cons, List.not_mem_nil, or_false, not_or] at n ⊢
          exact ⟨n.1, n.2.1, n.2.2.1, fun z => en (by rw [z]; exact nn fA), fun z => en (by rw [z]; exact nn fRu), fun z => en (by rw [z]; exact nn fKe), fun z => en (by rw [z]; exact nn fCy)⟩
        have qc : q ∉ [ca.c] := fun z => by
          rw [List.mem_singleton.mp z, c1.c] at q1
          have := congrArg (fun o => match o with | some (HO.ins _ _ f) => f.length | _ => 0) q1
          cases this
        have rc : rl ∉ [ca.c] := fun z => by
          rw [List.mem_singleton.mp z, c1.c] at q2
          cases q2
        exact ⟨q, dq, rl, vs, e, kc.k _ _ qc (o1 _ _ q1), nq _ _ n1 q1, kc.k _ _ rc (o1 _ _ q2), nq _ _ n2 q2, (q3.keep k2).keep kc⟩
      · show upd H2 ca.c _ ca.O = _
        rw [upd_ne (Ne.symm e3)]; exact c2.o
      · show upd H2 ca.c _ ca0.A = _
        rw [upd_ne (fr (nn fA) mc)]; exact h2
      · show upd H2 ca.c _ ca0.Ru = _
        rw [upd_ne (fr (nn fRu) mc)]; exact h3
      · show upd H2 ca.c _ ca0.Ke = _
        rw [upd_ne (fr (nn fKe) mc)]; exact h4
      · show upd H2 ca.c _ ca0.Cy = _
        rw [upd_ne (fr (nn fCy) mc)]; exact h5
      · simp only [CA.all, CA.mut, List.nodup_cons, List.mem_cons, List.not_mem_nil, or_false, not_or, List.nodup_nil, and_true, not_false_eq_true]
        exact ⟨⟨(fr nv mc).symm, e1, e2, e3, (fr (nn fA) mc).symm, (fr (nn fRu) mc).symm, (fr (nn fKe) mc).symm, (fr (nn fCy) mc).symm⟩, ⟨fr nv mR, fr nv mM, fr nv mO, d1, d2, d3, d4⟩,
          ⟨e4, e5, (fr (nn fA) mR).symm, (fr (nn fRu) mR).symm, (fr (nn fKe) mR).symm, (fr (nn fCy) mR).symm⟩,
          ⟨e6, (fr (nn fA) mM).symm, (fr (nn fRu) mM).symm, (fr (nn fKe) mM).symm, (fr (nn fCy) mM).symm⟩,
          ⟨(fr (nn fA) mO).symm, (fr (nn fRu) mO).symm, (fr (nn fKe) mO).symm, (fr (nn fCy) mO).symm⟩, ⟨d5, d6, d7⟩, ⟨d8, d9⟩, d10⟩
      · have he := c1.e y hy
        refine ⟨fun z => ?_, fun z => he.2 (k2.n _ (upd_none z))⟩
        simp only [CA.all, CA.mut, List.mem_cons, List.not_mem_nil, or_false, not_or] at z he
        rcases z with rfl | rfl | rfl | rfl | rfl | rfl | rfl | rfl | rfl
        · exact he.1.1 rfl
        · exact he.2 nv
        · exact he.1.2.2.1 rfl
        · exact he.1.2.2.2.1 rfl
        · exact he.1.2.2.2.2.1 rfl
        · exact he.2 (nn fA)
        · exact he.2 (nn fRu)
        · exact he.2 (nn fKe)
        · exact he.2 (nn fCy)
    · have kn := k1.n
      simp only [CA.all, CA.mut, List.mem_cons, List.not_mem_nil, or_false] at hy ⊢
      rcases hy with rfl | rfl | rfl | rfl | rfl | rfl | rfl | rfl | rfl
      · exact .inl (.inl rfl)
      · exact .inr (kn _ nv)
      · exact .inl (.inr (.inr (.inl rfl)))
      · exact .inl (.inr (.inr (.inr (.inl rfl))))
      · exact .inl (.inr (.inr (.inr (.inr (.inl rfl)))))
      · exact .inr (kn _ (nn fA))
      · exact .inr (kn _ (nn fRu))
      · exact .inr (kn _ (nn fKe))
      · exact .inr (kn _ (nn fCy))
end
end Q

namespace Q
open PySem PySem.Spec PyProof.Rows L2
/-! ### a rule is set -/
def kput {α : Type} (l : List (Str × α)) (x : Str) (a : α) : List (Str × α) := if l.lookup x = none then l ++ [(x, a)] else l.map fun p => if p.1 = x then (p.1, a) else p
theorem kput_new {α : Type} {l : List (Str × α)} {x : Str} (a : α) (h : l.lookup x = none) : kput l x a = l ++ [(x, a)] := if_pos h
theorem KvAt.mapPut {α : Type} {R : α → V → Prop} {x : Str} {a : α} {v : V} (r : R a v) : ∀ {l : List (Str × α)} {m : List (Key × V)}, KvAt R l m → KvAt R (l.map fun p => if p.1 = x then (p.1, a) else p) (m.map fun kv => if kv.1 = Sum.inr x then (kv.1, v) else kv)
  | [], [], _ => trivial
  | (y, b) :: l, (k, u) :: m, z => by
    obtain ⟨rfl, q, t⟩ := z
    rw [List.map_cons, List.map_cons]
    by_cases h : y = x
    · subst h
      rw [if_pos rfl, if_pos rfl]
      exact ⟨rfl, r, KvAt.mapPut r t⟩
    · rw [if_neg h, if_neg (fun e => h (Sum.inr.inj e))]
      exact ⟨rfl, q, KvAt.mapPut r t⟩
theorem KvAt.kput {α : Type} {R : α → V → Prop} {x : Str} {a : α} {v : V} {l : List (Str × α)} {m : List (Key × V)} (h : KvAt R l m) (r : R a v) : KvAt R (kput l x a) (putK m (Sum.inr x) v) := by
  by_cases e : l.lookup x = none
  · rw [kput_new a e]
    exact h.put r e
  · unfold Q.kput putK
    have q : (m.any fun kv => decide (kv.1 = Sum.inr x)) = true := by
      rw [valV_any]
      rcases h.get x with ⟨h1, _⟩ | ⟨b, u, _, h2, _⟩
      · exact absurd h1 e
      · rw [h2]; rfl
    rw [if_neg e, if_pos q]
    exact h.mapPut r
section
variable {K : PySem.W.Frag} {ex : List Addr} {H : Hp} {ca : CA} {st : CS}
theorem CellsAt.setRules (h : CellsAt K ex H ca st) {l : List (Str × Rule)} {kr : List (Key × V)} (r : KvAt (RuleAt K H) l kr) : CellsAt K ex (upd H ca.R (.dK kr)) ca { st with rules := l } := by
  have k : Keep [ca.R] H (upd H ca.R (.dK kr)) := Keep.refl.upd (by simp) h.mutR
  have u : ∀ i {x}, ca.all[i]? = some x → i ≠ 2 → (upd H ca.R (.dK kr)) x = H x := fun i x e n => upd_ne (CA.ne h.n i 2 e rfl n)
  obtain ⟨km, m1, m2⟩ := h.m
  obtain ⟨ka, a1, a2⟩ := h.a
  obtain ⟨kr0, r1, r2⟩ := h.r
  have m3 : KvAt (MemoAt K (ex ++ ca.mut) (upd H ca.R (.dK kr))) st.memos km := m2.imp fun _ _ z => by
    obtain ⟨q, dq, rl, vs, e, q1, n1, q2, n2, q3⟩ := z
    have nR : ∀ y o, H y = some o → (∀ k, o ≠ .dK k) → y ∉ [ca.R] := fun y o e n z => by
      rw [List.mem_singleton.mp z, r1] at e
      cases e
      exact n _ rfl
    exact ⟨q, dq, rl, vs, e, k.k _ _ (nR _ _ q1 fun k z => by cases z) q1, n1, k.k _ _ (nR _ _ q2 fun k z => by cases z) q2, n2, q3.keep k⟩
  exact ⟨(u 0 rfl (by decide)).trans h.c, (u 1 rfl (by decide)).trans h.v, ⟨kr, upd_same, r.imp fun _ _ z => z.keep k⟩, ⟨km, (u 3 rfl (by decide)).trans m1, m3⟩, (u 4 rfl (by decide)).trans h.o, ⟨ka, (u 5 rfl (by decide)).trans a1, a2⟩,
    (u 6 rfl (by decide)).trans h.ru, (u 7 rfl (by decide)).trans h.ke, (u 8 rfl (by decide)).trans h.cy, h.n, h.exU _ _⟩
end
/-- the state behind a rule r for x that differs -/
def CS.set (st : CS) (x : Str) (r : Rule) : CS := CS.change { st with rules := kput st.rules x r } x
/-- whether the rule is as it was -/
def CS.same (st : CS) (x : Str) (r : Rule) : Bool := match st.rules.lookup x with
  | none => false
  | some r' => PyData.eqv r'.data r.data
structure Fits (rules : List (Str × Rule)) (x : Str) : Prop where
  fit : ∀ y r, rules.lookup y = some r → r.fit
  few : rules.length ≤ 24
  new : rules.lookup x = none → rules.length < 24
def Set3 (K : PySem.W.Frag) (H : Hp) (ex : List Addr) (ca : CA) (st : CS) (x : Str) (r : Rule) (Q : VK) : Prop :=
  (st.same x r = true → ∀ H', CellsAt K ex H' ca st → Keep [] H H' → Q .non H') ∧
  (st.same x r = false → ∀ (ca' : CA) (H' : Hp), ca'.c = ca.c → CellsAt K ex H' ca' (st.set x r) → (∀ y ∈ ca'.all, y ∈ ca.all ∨ H y = none) → Keep [ca.c, ca.M, ca.R] H H' → Q .non H')
theorem Set3.later {K : PySem.W.Frag} {H H1 : Hp} {ex : List Addr} {ca : CA} {st : CS} {x : Str} {r : Rule} {Q : VK} (h : Set3 K H ex ca st x r Q) (k : Keep [] H H1) : Set3 K H1 ex ca st x r Q :=
  ⟨fun e H' c k' => h.1 e H' c (k.trans k'), fun e ca' H' e1 c f k' => h.2 e ca' H' e1 c (fun y hy => (f y hy).imp id (k.n y)) (k.of0.trans k')⟩
def spSet (K : PySem.W.Frag) : Sp := fun vs H Q _ => ∃ (ca : CA) (st : CS) (ex : List Addr) (x : Str) (r : Rule) (v : V), vs = [.ref ca.c, .str x, v] ∧ CellsAt K ex H ca st ∧ RuleAt K H r v ∧ r.fit ∧ Fits st.rules x ∧ Set3 K H ex ca st x r Q
def spPut (K : PySem.W.Frag) : Sp := fun vs H Q _ => ∃ (ca : CA) (st : CS) (ex : List Addr) (x : Str) (a : Ans), vs = [.ref ca.c, .str x, a.v] ∧ CellsAt K ex H ca st ∧ IsNm x ∧ InR a.v ∧ Fits st.rules x ∧ Set3 K H ex ca st x (.inp a) Q
def spDefine (K : PySem.W.Frag) : Sp := fun vs H Q _ => ∃ (ca : CA) (st : CS) (ex : List Addr) (x : Str) (f : Fm) (v : V), vs = [.ref ca.c, .str x, v] ∧ CellsAt K ex H ca st ∧ IsNm x ∧ FmAt K H f v ∧ f.dep ≤ 6 ∧ f.In IsNm ∧ Fits st.rules x ∧ Set3 K H ex ca st x (.fml f) Q
section
variable {P : Program} {w : World} {K : PySem.W.Frag} {mg : Str → Option Value} {base : Heap}
theorem ok_set (T : Facts w K mg) : OkM P w K mg base 4 "Cells" "_set" ["self", "name", "rule"] (spSet K) := by
  refine T.m_Cells__set.F.ok sc_Cells__set (fun vs H Q E h => ?_) (fun cdv A outer s H vs Q E hr h => ?_)
  · obtain ⟨ca, st, ex, x, r, v, rfl, _⟩ := h
    rfl
  · obtain ⟨ca, st, ex, x, r, v, rfl, hC, hR, hfit, hF, k⟩ := h
    refine ⟨_, PSs.nox (pss_cons (ps_if (PW.pt (pw_and (pt_cmp (pc_dnotin (hu_of hr) (pv 1) (pe_fld (pv 0) rfl))) (pw_and1 (pt_cmpR op_ge (pe_callB call_lenD (by rfl) T.b_len PySem.boot_len (pa_cons (pe_fld (pv 0) rfl) pa_nil)) (T.e_MOST_CELLS (by rfl)) (nomark _))))) (pss_one ps_never) pss_nil) 
      (pss_cons (ps_if (pt_cmpR (op_eqD hr.units) (pe_dget1 (hu_of hr) (pe_fld (pv 0) rfl) (pv 1) ⟨rfl, rfl, rfl, rfl⟩) (pv 2) (nomark _)) (pss_one ps_retN) pss_nil) 
      (pss_cons (ps_dput (hu_of hr) (pe_fld (pv 0) rfl) (pv 1) (pv 2) rfl) 
      (pss_one (ps_expr (pe_me T.m_Cells__change (ok_change T) (hr.mono (by decide)) (pv 0) (pa_cons (pv 1) pa_nil))))))), ?_⟩
    obtain ⟨kr, r1, r2⟩ := hC.r
    have hlen : kr.length = st.rules.length := r2.len
    -- the last part: the rule is stored, and x has changed
    have last : st.same x r = false → spChange K [.ref ca.c, .str x] (upd H ca.R (.dK (putK kr (Sum.inr x) v))) (fun _ H' => Q .non H') E0 := fun e => by
      have k1 : Keep [ca.R] H (upd H ca.R (.dK (putK kr (Sum.inr x) v))) := Keep.refl.upd (by simp) hC.mutR
      refine ⟨ca, _, ex, x, rfl, hC.setRules (r2.kput hR), fun ca' H' e1 c2 f2 k2 => k.2 e ca' H' e1 c2 (fun y hy => (f2 y hy).imp id upd_none) ((k1.mono (by simp)).trans (k2.mono (by intro y hy; simp at hy ⊢; rcases hy with h | h <;> simp [h])))⟩
    rcases r2.get x with ⟨h1, h2⟩ | ⟨r', v', h1, h2, h3⟩
    · refine ⟨_, rfl, _, rfl, ca.c, _, ca.dx, _, _, rfl, hC.c, T.k_Cells.c, T.n_Cells__rules, lk_rules, ca.R, _, rfl, DGet.k (k := Sum.inr x) r1, ?_⟩
      rw [h2]
      refine ⟨_, rfl, _, rfl, ca.c, _, ca.dx, _, _, rfl, hC.c, T.k_Cells.c, T.n_Cells__rules, lk_rules, ca.R, kr, rfl, r1, _, _, rfl, rfl, _, rfl, ifN ?_ ?_⟩
      · have := hF.new h1
        rw [hlen]
        omega
      refine ⟨_, rfl, ca.c, _, ca.dx, _, _, rfl, hC.c, T.k_Cells.c, T.n_Cells__rules, lk_rules, ca.R, rfl, .inl ⟨kr, .inl r1⟩, _, rfl, _, DGet.k (k := Sum.inr x) r1, ?_⟩
      rw [h2]
      refine ⟨_, rfl, _, _, .non, hR.dp, by decide +kernel, Rule.shaped hfit, ?_⟩
      have ef : PyData.eqv .none r.data = false := by cases r <;> rfl
      rw [ef]
      refine ⟨_, rfl, iteF ?_⟩
      refine ⟨_, rfl, _, rfl, ca.c, _, ca.dx, _, _, rfl, hC.c, T.k_Cells.c, T.n_Cells__rules, lk_rules, _, rfl, ca.R, _, rfl, DPut.k (k := Sum.inr x) r1 (small1000 (by rw [hlen]; exact Nat.le_trans hF.few (by decide))), ?_⟩
      have es : st.same x r = false := by unfold CS.same; rw [h1]
      have cR := hC.setRules (r2.kput (x := x) hR)
      exact ⟨_, rfl, ca.c, ca.dx, _, rfl, cR.c, cells_no.2.2.2.2.2.1, _, rfl, last es⟩
    · refine ⟨_, rfl, _, rfl, ca.c, _, ca.dx, _, _, rfl, hC.c, T.k_Cells.c, T.n_Cells__rules, lk_rules, ca.R, _, rfl, DGet.k (k := Sum.inr x) r1, ?_⟩
      rw [h2]
      refine ⟨_, rfl, ?_⟩
      refine ⟨_, rfl, ca.c, _, ca.dx, _, _, rfl, hC.c, T.k_Cells.c, T.n_Cells__rules, lk_rules, ca.R, rfl, .inl ⟨kr, .inl r1⟩, _, rfl, _, DGet.k (k := Sum.inr x) r1, ?_⟩
      rw [h2]
      refine ⟨_, rfl, _, _, h3.dp, hR.dp, Rule.shaped (hF.fit x r' h1), Rule.shaped hfit, _, rfl, ?_⟩
      have es : st.same x r = PyData.eqv r'.data r.data := by unfold CS.same; rw [h1]
      refine ifB (fun e => ?_) (fun e => ?_)
      · exact k.1 (es.trans e) H hC Keep.refl
      · refine ⟨_, rfl, _, rfl, ca.c, _, ca.dx, _, _, rfl, hC.c, T.k_Cells.c, T.n_Cells__rules, lk_rules, _, rfl, ca.R, _, rfl, DPut.k (k := Sum.inr x) r1 (small1000 (by rw [hlen]; exact Nat.le_trans hF.few (by decide))), ?_⟩
        have cR := hC.setRules (r2.kput (x := x) hR)
        exact ⟨_, rfl, ca.c, ca.dx, _, rfl, cR.c, cells_no.2.2.2.2.2.1, _, rfl, last (es.trans e)⟩
end
end Q

namespace Q
open PySem PySem.Spec PyProof.Rows L2
theorem InR.ans {v : V} (h : InR v) : ∃ a : Ans, a ≠ .cyc ∧ v = a.v ∧ inB v = true := by
  cases v with
  | non => exact ⟨.non, (fun z => by cases z), rfl, rfl⟩
  | int i =>
    refine ⟨.int i, (fun z => by cases z), rfl, ?_⟩
    have h' : -1000000 ≤ i ∧ i ≤ 1000000 := h
    show (decide (-1000000 ≤ i) && decide (i ≤ 1000000)) = true
    rw [decide_eq_true h'.1, decide_eq_true h'.2]
    rfl
  | _ => exact h.elim
section
variable {P : Program} {w : World} {K : PySem.W.Frag} {mg : Str → Option Value} {base : Heap}
theorem ok_put (T : Facts w K mg) : OkM P w K mg base 5 "Cells" "put" ["self", "name", "value"] (spPut K) := by
  refine T.m_Cells_put.F.ok sc_Cells_put (fun vs H Q E h => ?_) (fun cdv A outer s H vs Q E hr h => ?_)
  · obtain ⟨ca, st, ex, x, a, rfl, _⟩ := h
    rfl
  · obtain ⟨ca, st, ex, x, a, rfl, hC, hx, ha, hF, k⟩ := h
    refine ⟨_, PSs.nox (pss_cons (ps_if (pt_not (pt_val (pe_cl T.d_is_name (ok_is_name T) (hr.mono (by decide)) (pa_cons (pv 1) pa_nil)))) (pss_one ps_never) pss_nil) 
      (pss_cons (ps_if (pt_not (pt_val (pe_cl T.d_is_in_range (ok_is_in_range T) (hr.mono (by decide)) (pa_cons (pv 2) pa_nil)))) (pss_one ps_never) pss_nil) 
      (pss_one (ps_expr (pe_me T.m_Cells__set (ok_set T) (hr.mono (by decide)) (pv 0) (pa_cons (pv 1) (pa_cons (pe_tup (pa_cons pe_str (pa_cons (pv 2) pa_nil))) pa_nil))))))), ?_⟩
    refine ⟨_, rfl, x, rfl, small1000 (Nat.le_trans hx.l2 (by decide)), fun H1 k1 => ?_⟩
    rw [hx.b]
    obtain ⟨b, hb, eb, inb⟩ := ha.ans
    have hab : a ≠ .cyc := fun z => by rw [z] at ha; exact ha
    refine ⟨_, rfl, _, rfl, a.v, rfl, ?_, ?_⟩
    · cases a with
      | non => exact .inl rfl
      | int i => exact .inr ⟨i, rfl⟩
      | cyc => exact absurd rfl hab
    rw [inb]
    have c1 := hC.keep0 k1
    refine ⟨_, rfl, _, rfl, ca.c, ca.dx, _, rfl, c1.c, cells_no.2.2.2.2.1, _, rfl, _, rfl, by show 2 ≤ sizeLine; decide, fun t ht => ?_⟩
    have k2 : Keep [] H1 (upd H1 t (.tup [.str "input", a.v])) := Keep.refl.new ht
    dsimp only [tNil]
    exact ⟨ca, st, ex, x, .inp a, _, rfl, c1.keep0 k2, ⟨t, rfl, SqT.of upd_same⟩, hab, hF, k.later (k1.trans k2)⟩
theorem ok_define (T : Facts w K mg) : OkM P w K mg base 16 "Cells" "define" ["self", "name", "formula"] (spDefine K) := by
  refine T.m_Cells_define.F.ok sc_Cells_define (fun vs H Q E h => ?_) (fun cdv A outer s H vs Q E hr h => ?_)
  · obtain ⟨ca, st, ex, x, f, v, rfl, _⟩ := h
    rfl
  · obtain ⟨ca, st, ex, x, f, v, rfl, hC, hx, hf, hd, hi, hF, k⟩ := h
    refine ⟨_, PSs.nox (pss_cons (ps_if (pt_not (pt_val (pe_cl T.d_is_name (ok_is_name T) (hr.mono (by decide)) (pa_cons (pv 1) pa_nil)))) (pss_one ps_never) pss_nil) 
      (pss_cons (ps_expr (pe_cl1 T.d_check_formula (ok_check T) (hr.mono (by decide)) (pa_cons (pv 2) pa_nil))) 
      (pss_one (ps_expr (pe_me T.m_Cells__set (ok_set T) (hr.mono (by decide)) (pv 0) (pa_cons (pv 1) (pa_cons (pe_tup (pa_cons pe_str (pa_cons (pv 2) pa_nil))) pa_nil))))))), ?_⟩
    refine ⟨_, rfl, x, rfl, small1000 (Nat.le_trans hx.l2 (by decide)), fun H1 k1 => ?_⟩
    rw [hx.b]
    refine ⟨_, rfl, _, rfl, f, v, _, rfl, hf.keep k1, T.d_check_formula.e _, hd, hi, fun H2 k2 => ?_⟩
    have c1 := hC.keep0 (k1.trans k2)
    refine ⟨_, rfl, ca.c, ca.dx, _, rfl, c1.c, cells_no.2.2.2.2.1, _, rfl, _, rfl, by show 2 ≤ sizeLine; decide, fun t ht => ?_⟩
    have k3 : Keep [] H2 (upd H2 t (.tup [.str "formula", v])) := Keep.refl.new ht
    dsimp only [tNil]
    exact ⟨ca, st, ex, x, .fml f, _, rfl, c1.keep0 k3, ⟨t, v, rfl, SqT.of upd_same, (hf.keep (k1.trans k2)).keep k3⟩, ⟨hd, hi⟩, hF, k.later ((k1.trans k2).trans k3)⟩
end
/-- ask: the name is a cell -/
def spAsk (K : PySem.W.Frag) (rules : List (Str × Rule)) (U : Str → Ans) (rk : Str → Nat) (n : Nat) : Sp := fun vs H Q _ => ∃ (ca : CA) (st : CS) (ex : List Addr) (x : Str), vs = [.ref ca.c, .str x] ∧ CellsAt K ex H ca st ∧ Good rules U st ∧ rk x < n ∧ st.opn = [] ∧ rules.lookup x ≠ none ∧
  ∀ (st' : CS) (H' : Hp), CellsAt K ex H' ca st' → Good rules U st' → st'.opn = [] → ((∃ f, rules.lookup x = some (.fml f)) → st'.ans.lookup x ≠ none) → Keep ca.mut H H' → Q (U x).v H'
def readsV (K : PySem.W.Frag) (H : Hp) (rs : Option Told) (v : V) : Prop := match rs with
  | none => v = .non
  | some l => ∃ a vs, v = .ref a ∧ H a = some (.lst vs) ∧ ToldAt K H l vs
def CS.readsOf (st : CS) (x : Str) : Option Told := (st.memos.lookup x).map fun m => m.reads ++ (match m.last with
  | none => []
  | some y => [(y, Ans.cyc)])
def spReads (K : PySem.W.Frag) : Sp := fun vs H Q _ => ∃ (ca : CA) (st : CS) (ex : List Addr) (x : Str), vs = [.ref ca.c, .str x] ∧ CellsAt K ex H ca st ∧ st.rules.lookup x ≠ none ∧ (∀ m, st.memos.lookup x = some m → m.reads.length ≤ 2000 ∧ m.last = none) ∧
  ∀ (v : V) (H' : Hp), readsV K H' (st.readsOf x) v → Keep [] H H' → Q v H'
section
variable {P : Program} {w : World} {K : PySem.W.Frag} {mg : Str → Option Value} {base : Heap} {rules : List (Str × Rule)} {U : Str → Ans} {rk : Str → Nat} {n k : Nat}
theorem ok_ask (T : Facts w K mg) (ha : OkM P w K mg base k "Cells" "answer" ["self", "name"] (spAns K rules U rk n)) : OkM P w K mg base (k + 1) "Cells" "ask" ["self", "name"] (spAsk K rules U rk n) := by
  refine T.m_Cells_ask.F.ok sc_Cells_ask (fun vs H Q E h => ?_) (fun cdv A outer s H vs Q E hr h => ?_)
  · obtain ⟨ca, st, ex, x, rfl, _⟩ := h
    rfl
  · obtain ⟨ca, st, ex, x, rfl, hC, hG, hn, ho, hx, kk⟩ := h
    refine ⟨_, PSs.nox (pss_cons (ps_if (pt_cmp (pc_dnotin (hu_of hr) (pv 1) (pe_fld (pv 0) rfl))) (pss_one ps_never) pss_nil) 
      (pss_one (ps_ret (pe_me T.m_Cells_answer ha hr (pv 0) (pa_cons (pv 1) pa_nil))))), ?_⟩
    obtain ⟨kr, r1, r2⟩ := hC.r
    refine ⟨_, rfl, _, rfl, ca.c, _, ca.dx, _, _, rfl, hC.c, T.k_Cells.c, T.n_Cells__rules, lk_rules, ca.R, _, rfl, DGet.k (k := Sum.inr x) r1, ?_⟩
    rcases r2.get x with ⟨h1, _⟩ | ⟨r', v', h1, h2, h3⟩
    · rw [hG.rul] at h1; exact absurd h1 hx
    rw [h2]
    refine ⟨_, rfl, _, rfl, ca.c, ca.dx, _, rfl, hC.c, cells_no.1, _, rfl, ?_⟩
    dsimp only [tNil]
    refine ⟨ca, st, ex, x, n, rfl, hC, hG, Nat.le_refl _, hn, by rw [OpnOk, ho]; simp, fun st' H' h1 h2 h3 h4 h5 => kk st' H' h1 h2 (h3.opn.trans ho) h4 h5⟩
theorem ok_reads (T : Facts w K mg) : OkM P w K mg base 1 "Cells" "reads" ["self", "name"] (spReads K) := by
  refine T.m_Cells_reads.F.ok sc_Cells_reads (fun vs H Q E h => ?_) (fun cdv A outer s H vs Q E hr h => ?_)
  · obtain ⟨ca, st, ex, x, rfl, _⟩ := h
    rfl
  · obtain ⟨ca, st, ex, x, rfl, hC, hx, hl, kk⟩ := h
    refine ⟨_, PSs.nox (pss_cons (ps_if (pt_cmp (pc_dnotin (hu_of hr) (pv 1) (pe_fld (pv 0) rfl))) (pss_one ps_never) pss_nil) 
      (pss_cons (ps_set (i := 2) sc_Cells_reads.nd rfl (Or.inl rfl) (pe_dget1 (hu_of hr) (pe_fld (pv 0) rfl) (pv 1) ⟨rfl, rfl, rfl, rfl⟩)) 
      (pss_cons (ps_if (pt_cmpR op_isN (pv 2) pe_non (nomark _)) (pss_one (ps_ret pe_non)) pss_nil) 
      (pss_cons (ps_if (pt_cmpR op_isN (pe_fld (pv 2) rfl) pe_non (nomark _)) (pss_one (ps_ret (pe_callTy call_list_of (by rfl) T.b_list (by decide +kernel) (pa_cons (pe_fld (pv 2) rfl) pa_nil)))) pss_nil) 
      (pss_one (ps_ret (pe_op op_add (pe_fld (pv 2) rfl) (pe_lst (pa_cons (pe_tup (pa_cons (pe_fld (pv 2) rfl) (pa_cons pe_str pa_nil))) pa_nil))))))))), ?_⟩
    obtain ⟨kr, r1, r2⟩ := hC.r
    obtain ⟨km, m1, m2⟩ := hC.m
    refine ⟨_, rfl, _, rfl, ca.c, _, ca.dx, _, _, rfl, hC.c, T.k_Cells.c, T.n_Cells__rules, lk_rules, ca.R, _, rfl, DGet.k (k := Sum.inr x) r1, ?_⟩
    rcases r2.get x with ⟨h1, _⟩ | ⟨r', v', h1, h2, h3⟩
    · exact absurd h1 hx
    rw [h2]
    refine ⟨_, rfl, _, rfl, ca.c, _, ca.dx, _, _, rfl, hC.c, T.k_Cells.c, T.n_Cells__memos, lk_memos, ca.M, rfl, .inl ⟨km, .inl m1⟩, _, rfl, _, DGet.k (k := Sum.inr x) m1, ?_⟩
    unfold CS.readsOf at kk
    rcases m2.get x with ⟨e1, e2⟩ | ⟨m, v, e1, e2, q, dq, rl, vs, rfl, q1, n1, q2, n2, q3⟩
    · rw [e2]
      rw [e1] at kk
      refine ⟨_, rfl, rfl, _, rfl, ifP rfl (kk _ H rfl Keep.refl)⟩
    · rw [e2]
      rw [e1] at kk
      obtain ⟨l1, l2⟩ := hl m e1
      refine ⟨_, rfl, rfl, _, rfl, ifN (fun z => by cases z) ?_⟩
      have kk' : ∀ (a : Addr) (vs : List V) (H' : Hp), H' a = some (.lst vs) → ToldAt K H' m.reads vs → Keep [] H H' → Q (.ref a) H' := fun a vs H' z1 z2 z3 => kk _ H' ⟨a, vs, rfl, z1, by show ToldAt K H' (m.reads ++ (match m.last with | none => [] | some y => [(y, Ans.cyc)])) vs; rw [l2]; simpa using z2⟩ z3
      refine ⟨_, rfl, q, _, dq, _, _, rfl, q1, T.k_Memo.c, T.n_Memo_last, lk_mlast, rfl, _, rfl, ?_⟩
      rw [l2]
      refine ifP rfl ?_
      refine ⟨_, rfl, q, _, dq, _, _, rfl, q1, T.k_Memo.c, T.n_Memo_reads, lk_mreads, ?_⟩
      refine ⟨rl, vs, rfl, .inl (SqL.of q2), fun l hl => ?_⟩
      have kl : Keep [] H (upd H l (.lst vs)) := Keep.refl.new hl
      exact kk' l vs _ upd_same (q3.keep kl) kl
end
end Q

namespace Q
open PySem PySem.Spec PyProof.Rows L2
/-! ### the law's own reading of a formula -/
def spSum : Sp := fun vs H Q _ => ∃ (w : Op3) (a b : Ans), vs = [.str w.word, a.v, b.v] ∧ w ≠ .or ∧ a ≠ .cyc ∧ b ≠ .cyc ∧ Q (tog w a b).v H
/-- the law's answer: done, or the name to be asked -/
def NxtAt (K : PySem.W.Frag) (H : Hp) (U : Str → Ans) (L : Told) (j used : Nat) (f : Fm) (t : Addr) : Prop :=
  (used + (wor U f).2.length ≤ j ∧ SqT K H t [.str "done", (wor U f).1.v, .int ((used + (wor U f).2.length : Nat) : Int)]) ∨
  (j < used + (wor U f).2.length ∧ ∃ (x : Str) (a : Ans) (i : Int), L[j]? = some (x, a) ∧ SqT K H t [.str "ask", .str x, .int i])
theorem NxtAt.keep {K : PySem.W.Frag} {H H1 : Hp} {M : List Addr} {U : Str → Ans} {L : Told} {j used : Nat} {f : Fm} {t : Addr} (h : NxtAt K H U L j used f t) (k : Keep M H H1) : NxtAt K H1 U L j used f t := by
  rcases h with ⟨h1, h2⟩ | ⟨h1, x, a, i, h2, h3⟩
  · exact .inl ⟨h1, k.tup h2⟩
  · exact .inr ⟨h1, x, a, i, h2, k.tup h3⟩
def toldV (L : Told) (j : Nat) : List V := (L.take j).map fun p => p.2.v
theorem toldV_len {L : Told} {j : Nat} (h : j ≤ L.length) : (toldV L j).length = j := by
  unfold toldV
  rw [List.length_map, List.length_take]
  omega
def spNext (K : PySem.W.Frag) (d : Nat) : Sp := fun vs H Q _ => ∃ (U : Str → Ans) (a : Addr) (f : Fm) (v : V) (L : Told) (j used : Nat), vs = [v, .ref a, .int (used : Int)] ∧ (∀ x, U x ≠ .cyc) ∧ FmAt K H f v ∧ f.dep ≤ d ∧
  H a = some (.lst (toldV L j)) ∧ j ≤ L.length ∧ L.length ≤ 1000 ∧ used ≤ j ∧ (wor U f).2 <+: L.drop used ∧ ∀ t H', Keep [] H H' → NxtAt K H' U L j used f t → Q (.ref t) H'
theorem pre_app {α : Type} {A B L : List α} {u : Nat} (h : A ++ B <+: L.drop u) : A <+: L.drop u ∧ B <+: L.drop (u + A.length) := by
  obtain ⟨r, h⟩ := h
  rw [List.append_assoc] at h
  refine ⟨⟨_, h⟩, r, ?_⟩
  rw [← List.drop_drop, ← h, List.drop_left]
theorem pre_one {α : Type} {x : α} {L : List α} {u : Nat} (h : [x] <+: L.drop u) : L[u]? = some x := by
  obtain ⟨r, h⟩ := h
  have : (L.drop u)[0]? = some x := by rw [← h]; rfl
  rw [List.getElem?_drop] at this
  exact this
theorem toldV_at {L : Told} {j u : Nat} {x : Str} {a : Ans} (h : L[u]? = some (x, a)) (hu : u < j) : (toldV L j)[u]? = some a.v := by
  unfold toldV
  rw [List.getElem?_map, List.getElem?_take_of_lt hu, h]
  rfl
section
variable {P : Program} {w : World} {K : PySem.W.Frag} {mg : Str → Option Value} {base : Heap}
theorem ok_sum (T : Facts w K mg) : Ok P w K mg base 1 "_law_sum" ["_law_word", "_law_one", "_law_other"] spSum := by
  refine T.d__law_sum.F.ok sc__law_sum (fun vs H Q E h => ?_) (fun cdv A outer s H vs Q E hr h => ?_)
  · obtain ⟨w3, a, b, rfl, _⟩ := h
    rfl
  · obtain ⟨w3, a, b, rfl, hw, ha, hb, k⟩ := h
    refine ⟨_, PSs.nox (pss_cons (ps_if (pt_cmpR op_isN (pv 1) pe_non (nomark _)) (pss_one (ps_ret (pv 2))) pss_nil) 
      (pss_cons (ps_if (pt_cmpR op_isN (pv 2) pe_non (nomark _)) (pss_one (ps_ret (pv 1))) pss_nil) 
      (pss_cons (ps_if (pt_cmpR op_eq (pv 0) pe_str (nomark _)) (pss_one (ps_ret (pe_ifExp (pt_cmpR op_lt (pv 1) (pv 2) (nomark _)) (pv 1) (pv 2)))) pss_nil) 
      (pss_cons (ps_set (i := 3) sc__law_sum.nd rfl (Or.inl rfl) (pe_op op_add (pv 1) (pv 2))) 
      (pss_cons (ps_if (pt_cmpR op_gt (pv 3) pe_int (nomark _)) (pss_one (ps_ret pe_int)) pss_nil) 
      (pss_one (ps_ret (pe_ifExp (pt_cmpR op_lt (pv 3) (pe_un un_neg pe_int) (nomark _)) (pe_un un_neg pe_int) (pv 3))))))))), ?_⟩
    cases a with
    | cyc => exact absurd rfl ha
    | non => exact ⟨_, rfl, rfl, _, rfl, ifP rfl ⟨_, rfl, k⟩⟩
    | int i =>
      refine ⟨_, rfl, rfl, _, rfl, ifN (fun z => by cases z) ?_⟩
      cases b with
      | cyc => exact absurd rfl hb
      | non => exact ⟨_, rfl, rfl, _, rfl, ifP rfl ⟨_, rfl, k⟩⟩
      | int j =>
        refine ⟨_, rfl, rfl, _, rfl, ifN (fun z => by cases z) ?_⟩
        refine ⟨_, rfl, rfl, _, rfl, ?_⟩
        cases w3 with
        | plus =>
          refine ifN (fun z => absurd (V.str.inj z) (by decide +kernel)) ?_
          refine ⟨_, rfl, _, rfl, _, _, rfl, rfl, ?_⟩
          have e : (tog .plus (.int i) (.int j)).v = .int (lim (i + j)) := rfl
          rw [e] at k
          unfold lim at k
          refine ⟨_, rfl, _, _, rfl, rfl, _, rfl, ifD (fun z => ?_) (fun z => ?_)⟩
          · rw [if_pos (show i + j > 1000000 from z)] at k
            exact k
          · rw [if_neg (show ¬ i + j > 1000000 from z)] at k
            refine ⟨_, rfl, _, rfl, _, _, rfl, rfl, _, rfl, ifD (fun z2 => ?_) (fun z2 => ?_)⟩
            · rw [if_pos (show i + j < -1000000 from z2)] at k
              exact ⟨_, rfl, k⟩
            · rw [if_neg (show ¬ i + j < -1000000 from z2)] at k
              exact ⟨_, rfl, k⟩
        | least =>
          refine ifP rfl ?_
          have e : (tog .least (.int i) (.int j)).v = .int (if j < i then j else i) := rfl
          rw [e] at k
          refine ⟨_, rfl, _, rfl, _, _, rfl, rfl, _, rfl, ifD (fun z => ?_) (fun z => ?_)⟩
          · have z' : i < j := z
            rw [if_neg (by omega)] at k
            exact ⟨_, rfl, k⟩
          · have z' : ¬ i < j := z
            by_cases q : j < i
            · rw [if_pos q] at k
              exact ⟨_, rfl, k⟩
            · rw [if_neg q] at k
              have : i = j := by omega
              rw [this] at k
              exact ⟨_, rfl, k⟩
        | or => exact absurd rfl hw
theorem ok_next (T : Facts w K mg) : ∀ d : Nat, Ok P w K mg base (d + 2) "_law_next" ["_law_formula_here", "_law_told", "_law_used"] (spNext K d) := by
  intro d
  induction d with
  | zero =>
    refine T.d__law_next.F.ok sc__law_next (fun vs H Q E h => ?_) (fun cdv A outer s H vs Q E hr h => ?_)
    · obtain ⟨U, a, f, v, L, j, used, rfl, _⟩ := h
      rfl
    · obtain ⟨U, a, f, v, L, j, used, rfl, hnc, hf, hd, ha, hj, hL, hu, hpre, k⟩ := h
      refine ⟨_, PSs.nox (pss_cons (ps_if (PW.pt (pw_or (pt_val (pe_callB call_isi (by rfl) T.b_isinstance (by decide +kernel) (pa_cons (pv 0) (pa_cons (pe_bltn (v := .ty "str") (u := .type "str") (by rfl) T.b_str (by decide +kernel) rfl) pa_nil)))) (pw_or1 (PW.pt (pw_and (pt_val (pe_callB call_isi (by rfl) T.b_isinstance (by decide +kernel) (pa_cons (pv 0) (pa_cons (pe_bltn (v := .ty "tuple") (u := .type "tuple") (by rfl) T.b_tuple (by decide +kernel) rfl) pa_nil)))) (pw_and1 (pt_cmpR op_eq (pe_ix ix_tup (pv 0) pe_int (fun _ _ => rfl)) pe_str (nomark _)))))))) (pss_cons (ps_if (pt_cmpR op_ge (pv 2) (pe_callB call_len_seq (by rfl) T.b_len PySem.boot_len (pa_cons (pv 1) pa_nil)) (nomark _)) (pss_one (ps_ret (pe_tup (pa_cons pe_str (pa_cons (pe_ifExp (pt_val (pe_callB call_isi (by rfl) T.b_isinstance (by decide +kernel) (pa_cons (pv 0) (pa_cons (pe_bltn (v := .ty "str") (u := .type "str") (by rfl) T.b_str (by decide +kernel) rfl) pa_nil)))) (pv 0) (pe_ix ix_tup (pv 0) pe_int (fun _ _ => rfl))) (pa_cons (pv 2) pa_nil)))))) pss_nil) 
      (pss_cons (ps_if (pt_val (pe_callB call_isi (by rfl) T.b_isinstance (by decide +kernel) (pa_cons (pv 0) (pa_cons (pe_bltn (v := .ty "str") (u := .type "str") (by rfl) T.b_str (by decide +kernel) rfl) pa_nil)))) (pss_one (ps_ret (pe_tup (pa_cons pe_str (pa_cons (pe_ix ix_list (pv 1) (pv 2) (fun _ _ => rfl)) (pa_cons (pe_op op_add (pv 2) pe_int) pa_nil)))))) pss_nil) 
      (pss_one (ps_ret (pe_tup (pa_cons pe_str (pa_cons (pe_callTy call_int1 (by rfl) T.b_int (by decide +kernel) (pa_cons (pe_cmpR op_eq (pe_ix ix_list (pv 1) (pv 2) (fun _ _ => rfl)) pe_str (nomark _)) pa_nil)) (pa_cons (pe_op op_add (pv 2) pe_int) pa_nil)))))))) pss_nil) 
      (pss_cons (ps_if (pt_not (pt_val (pe_callB call_isi (by rfl) T.b_isinstance (by decide +kernel) (pa_cons (pv 0) (pa_cons (pe_bltn (v := .ty "tuple") (u := .type "tuple") (by rfl) T.b_tuple (by decide +kernel) rfl) pa_nil))))) (pss_one (ps_ret (pe_tup (pa_cons pe_str (pa_cons (pv 0) (pa_cons (pv 2) pa_nil)))))) pss_nil) 
      pss_never)), ?_⟩
      cases f with
      | non =>
        cases hf
        refine ⟨_, rfl, _, _, _, _, false, rfl, .ty _, .base .non, kit_ty (by decide +kernel), _, rfl, ?_⟩
        refine ⟨_, rfl, _, _, _, _, false, rfl, .ty _, .base .non, kit_ty (by decide +kernel), _, rfl, ?_⟩
        refine ⟨_, rfl, _, _, _, _, false, rfl, .ty _, .base .non, kit_ty (by decide +kernel), _, rfl, ?_⟩
        refine ⟨_, rfl, _, rfl, by show 3 ≤ sizeLine; decide, fun t ht => k t _ (Keep.refl.new ht) (.inl ⟨hu, SqT.of upd_same⟩)⟩
      | int i =>
        cases hf
        refine ⟨_, rfl, _, _, _, _, false, rfl, .ty _, .base (.int i), kit_ty (by decide +kernel), _, rfl, ?_⟩
        refine ⟨_, rfl, _, _, _, _, false, rfl, .ty _, .base (.int i), kit_ty (by decide +kernel), _, rfl, ?_⟩
        refine ⟨_, rfl, _, _, _, _, false, rfl, .ty _, .base (.int i), kit_ty (by decide +kernel), _, rfl, ?_⟩
        refine ⟨_, rfl, _, rfl, by show 3 ≤ sizeLine; decide, fun t ht => k t _ (Keep.refl.new ht) (.inl ⟨hu, SqT.of upd_same⟩)⟩
      | name x =>
        cases hf
        have hx : L[used]? = some (x, U x) := pre_one hpre
        refine ⟨_, rfl, _, _, _, _, true, rfl, .ty _, .base (.str x), kit_ty (by decide +kernel), _, rfl, ?_⟩
        refine ⟨_, rfl, _, rfl, a, _, rfl, .inl (SqL.of ha), _, _, rfl, rfl, _, rfl, ifD (fun c => ?_) (fun c => ?_)⟩
        · rw [toldV_len hj] at c
          have e : used = j := by omega
          subst e
          refine ⟨_, rfl, _, _, _, _, true, rfl, .ty _, .base (.str x), kit_ty (by decide +kernel), _, rfl, _, rfl, _, rfl, by show 3 ≤ sizeLine; decide, fun t ht => k t _ (Keep.refl.new ht) (.inr ⟨by show used < used + 1; omega, x, U x, _, hx, SqT.of upd_same⟩)⟩
        · rw [toldV_len hj] at c
          have e : used < j := by omega
          refine ⟨_, rfl, _, _, _, _, true, rfl, .ty _, .base (.str x), kit_ty (by decide +kernel), _, rfl, ?_⟩
          refine ⟨_, rfl, _, rfl, _, _, _, (U x).v, rfl, rfl, SqL.of ha, at_of (j := used) (by omega) (toldV_at hx e), _, rfl, _, _, rfl, rfl, by show 3 ≤ sizeLine; decide, fun t ht => k t _ (Keep.refl.new ht) (.inl ⟨by show used + 1 ≤ j; omega, SqT.of upd_same⟩)⟩
      | cyc x => exact absurd hd (by show ¬ 1 ≤ 0; decide)
      | op w3 f g => exact absurd hd (by show ¬ 1 + max _ _ ≤ 0; omega)
      | ite c f g => exact absurd hd (by show ¬ 1 + max _ _ ≤ 0; omega)
  | succ d ih =>
    refine T.d__law_next.F.ok sc__law_next (fun vs H Q E h => ?_) (fun cdv A outer s H vs Q E hr h => ?_)
    · obtain ⟨U, a, f, v, L, j, used, rfl, _⟩ := h
      rfl
    · obtain ⟨U, a, f, v, L, j, used, rfl, hnc, hf, hd, ha, hj, hL, hu, hpre, k⟩ := h
      have hrd : Room (d + 2) _ := hr
      have hr1 : Room 1 _ := hrd.mono (by omega)
      have nc := wor_nc hnc
      have oks := ok_sum (P := P) (base := base) T
      refine ⟨_, PSs.nox (pss_cons (ps_if (PW.pt (pw_or (pt_val (pe_callB call_isi (by rfl) T.b_isinstance (by decide +kernel) (pa_cons (pv 0) (pa_cons (pe_bltn (v := .ty "str") (u := .type "str") (by rfl) T.b_str (by decide +kernel) rfl) pa_nil)))) (pw_or1 (PW.pt (pw_and (pt_val (pe_callB call_isi (by rfl) T.b_isinstance (by decide +kernel) (pa_cons (pv 0) (pa_cons (pe_bltn (v := .ty "tuple") (u := .type "tuple") (by rfl) T.b_tuple (by decide +kernel) rfl) pa_nil)))) (pw_and1 (pt_cmpR op_eq (pe_ix ix_tup (pv 0) pe_int (fun _ _ => rfl)) pe_str (nomark _)))))))) (pss_cons (ps_if (pt_cmpR op_ge (pv 2) (pe_callB call_len_seq (by rfl) T.b_len PySem.boot_len (pa_cons (pv 1) pa_nil)) (nomark _)) (pss_one (ps_ret (pe_tup (pa_cons pe_str (pa_cons (pe_ifExp (pt_val (pe_callB call_isi (by rfl) T.b_isinstance (by decide +kernel) (pa_cons (pv 0) (pa_cons (pe_bltn (v := .ty "str") (u := .type "str") (by rfl) T.b_str (by decide +kernel) rfl) pa_nil)))) (pv 0) (pe_ix ix_tup (pv 0) pe_int (fun _ _ => rfl))) (pa_cons (pv 2) pa_nil)))))) pss_nil) 
      (pss_cons (ps_if (pt_val (pe_callB call_isi (by rfl) T.b_isinstance (by decide +kernel) (pa_cons (pv 0) (pa_cons (pe_bltn (v := .ty "str") (u := .type "str") (by rfl) T.b_str (by decide +kernel) rfl) pa_nil)))) (pss_one (ps_ret (pe_tup (pa_cons pe_str (pa_cons (pe_ix ix_list (pv 1) (pv 2) (fun _ _ => rfl)) (pa_cons (pe_op op_add (pv 2) pe_int) pa_nil)))))) pss_nil) 
      (pss_one (ps_ret (pe_tup (pa_cons pe_str (pa_cons (pe_callTy call_int1 (by rfl) T.b_int (by decide +kernel) (pa_cons (pe_cmpR op_eq (pe_ix ix_list (pv 1) (pv 2) (fun _ _ => rfl)) pe_str (nomark _)) pa_nil)) (pa_cons (pe_op op_add (pv 2) pe_int) pa_nil)))))))) pss_nil) 
      (pss_cons (ps_if (pt_not (pt_val (pe_callB call_isi (by rfl) T.b_isinstance (by decide +kernel) (pa_cons (pv 0) (pa_cons (pe_bltn (v := .ty "tuple") (u := .type "tuple") (by rfl) T.b_tuple (by decide +kernel) rfl) pa_nil))))) (pss_one (ps_ret (pe_tup (pa_cons pe_str (pa_cons (pv 0) (pa_cons (pv 2) pa_nil)))))) pss_nil) 
      (pss_cons (ps_set (i := 3) sc__law_next.nd rfl (Or.inl rfl) (pe_cl T.d__law_next ih hrd (pa_cons (pe_ix ix_tup (pv 0) pe_int (fun _ _ => rfl)) (pa_cons (pv 1) (pa_cons (pv 2) pa_nil))))) 
      (pss_cons (ps_if (PW.pt (pw_or (pt_cmpR op_eq (pe_ix ix_tup (pv 3) pe_int (fun _ _ => rfl)) pe_str (nomark _)) (pw_or1 (pt_cmpR op_eq (pe_ix ix_tup (pv 3) pe_int (fun _ _ => rfl)) pe_str (nomark _))))) (pss_one (ps_ret (pv 3))) pss_nil) 
      (pss_cons (ps_set (i := 4) sc__law_next.nd rfl (Or.inl rfl) (pe_ix ix_tup (pv 0) pe_int (fun _ _ => rfl))) 
      (pss_cons (ps_if (pt_cmpR op_eq (pv 4) pe_str (nomark _)) (pss_one (ps_ret (pe_ifExp (pt_cmpR op_isN (pe_ix ix_tup (pv 3) pe_int (fun _ _ => rfl)) pe_non (nomark _)) (pe_cl T.d__law_next ih hrd (pa_cons (pe_ix ix_tup (pv 0) pe_int (fun _ _ => rfl)) (pa_cons (pv 1) (pa_cons (pe_ix ix_tup (pv 3) pe_int (fun _ _ => rfl)) pa_nil)))) (pv 3)))) pss_nil) 
      (pss_cons (ps_if (pt_cmpR op_eq (pv 4) pe_str (nomark _)) (pss_one (ps_ret (pe_cl T.d__law_next ih hrd (pa_cons (pe_ix ix_tup (pv 0) (pe_ifExp (PW.pt (pw_or (pt_cmpR op_isN (pe_ix ix_tup (pv 3) pe_int (fun _ _ => rfl)) pe_non (nomark _)) (pw_or1 (pt_cmpR op_eq (pe_ix ix_tup (pv 3) pe_int (fun _ _ => rfl)) pe_int (nomark _))))) pe_int pe_int) (fun _ _ => rfl)) (pa_cons (pv 1) (pa_cons (pe_ix ix_tup (pv 3) pe_int (fun _ _ => rfl)) pa_nil)))))) pss_nil) 
      (pss_cons (ps_set (i := 5) sc__law_next.nd rfl (Or.inl rfl) (pe_cl T.d__law_next ih hrd (pa_cons (pe_ix ix_tup (pv 0) pe_int (fun _ _ => rfl)) (pa_cons (pv 1) (pa_cons (pe_ix ix_tup (pv 3) pe_int (fun _ _ => rfl)) pa_nil))))) 
      (pss_cons (ps_if (PW.pt (pw_or (pt_cmpR op_eq (pe_ix ix_tup (pv 5) pe_int (fun _ _ => rfl)) pe_str (nomark _)) (pw_or1 (pt_cmpR op_eq (pe_ix ix_tup (pv 5) pe_int (fun _ _ => rfl)) pe_str (nomark _))))) (pss_one (ps_ret (pv 5))) pss_nil) 
      (pss_one (ps_ret (pe_tup (pa_cons pe_str (pa_cons (pe_cl T.d__law_sum oks hr1 (pa_cons (pv 4) (pa_cons (pe_ix ix_tup (pv 3) pe_int (fun _ _ => rfl)) (pa_cons (pe_ix ix_tup (pv 5) pe_int (fun _ _ => rfl)) pa_nil)))) (pa_cons (pe_ix ix_tup (pv 5) pe_int (fun _ _ => rfl)) pa_nil))))))))))))))), ?_⟩
      cases f with
      | non =>
        cases hf
        refine ⟨_, rfl, _, _, _, _, false, rfl, .ty _, .base .non, kit_ty (by decide +kernel), _, rfl, ?_⟩
        refine ⟨_, rfl, _, _, _, _, false, rfl, .ty _, .base .non, kit_ty (by decide +kernel), _, rfl, ?_⟩
        refine ⟨_, rfl, _, _, _, _, false, rfl, .ty _, .base .non, kit_ty (by decide +kernel), _, rfl, ?_⟩
        refine ⟨_, rfl, _, rfl, by show 3 ≤ sizeLine; decide, fun t ht => k t _ (Keep.refl.new ht) (.inl ⟨hu, SqT.of upd_same⟩)⟩
      | int i =>
        cases hf
        refine ⟨_, rfl, _, _, _, _, false, rfl, .ty _, .base (.int i), kit_ty (by decide +kernel), _, rfl, ?_⟩
        refine ⟨_, rfl, _, _, _, _, false, rfl, .ty _, .base (.int i), kit_ty (by decide +kernel), _, rfl, ?_⟩
        refine ⟨_, rfl, _, _, _, _, false, rfl, .ty _, .base (.int i), kit_ty (by decide +kernel), _, rfl, ?_⟩
        refine ⟨_, rfl, _, rfl, by show 3 ≤ sizeLine; decide, fun t ht => k t _ (Keep.refl.new ht) (.inl ⟨hu, SqT.of upd_same⟩)⟩
      | name x =>
        cases hf
        have hx : L[used]? = some (x, U x) := pre_one hpre
        refine ⟨_, rfl, _, _, _, _, true, rfl, .ty _, .base (.str x), kit_ty (by decide +kernel), _, rfl, ?_⟩
        refine ⟨_, rfl, _, rfl, a, _, rfl, .inl (SqL.of ha), _, _, rfl, rfl, _, rfl, ifD (fun c => ?_) (fun c => ?_)⟩
        · rw [toldV_len hj] at c
          have e : used = j := by omega
          subst e
          refine ⟨_, rfl, _, _, _, _, true, rfl, .ty _, .base (.str x), kit_ty (by decide +kernel), _, rfl, _, rfl, _, rfl, by show 3 ≤ sizeLine; decide, fun t ht => k t _ (Keep.refl.new ht) (.inr ⟨by show used < used + 1; omega, x, U x, _, hx, SqT.of upd_same⟩)⟩
        · rw [toldV_len hj] at c
          have e : used < j := by omega
          refine ⟨_, rfl, _, _, _, _, true, rfl, .ty _, .base (.str x), kit_ty (by decide +kernel), _, rfl, ?_⟩
          refine ⟨_, rfl, _, rfl, _, _, _, (U x).v, rfl, rfl, SqL.of ha, at_of (j := used) (by omega) (toldV_at hx e), _, rfl, _, _, rfl, rfl, by show 3 ≤ sizeLine; decide, fun t ht => k t _ (Keep.refl.new ht) (.inl ⟨by show used + 1 ≤ j; omega, SqT.of upd_same⟩)⟩
      | cyc x =>
        obtain ⟨b, rfl, hT⟩ := hf
        have hx : L[used]? = some (x, U x) := pre_one hpre
        refine ⟨_, rfl, _, _, _, _, false, rfl, .ty _, ty_tup hT, kit_ty (by decide +kernel), _, rfl, ?_⟩
        refine ⟨_, rfl, _, _, _, _, true, rfl, .ty _, ty_tup hT, kit_ty (by decide +kernel), _, rfl, ?_⟩
        refine ⟨_, rfl, _, _, _, _, rfl, rfl, hT, rfl, rfl, _, rfl, ifP rfl ?_⟩
        refine ⟨_, rfl, _, rfl, a, _, rfl, .inl (SqL.of ha), _, _, rfl, rfl, _, rfl, ifD (fun c => ?_) (fun c => ?_)⟩
        · rw [toldV_len hj] at c
          have e : used = j := by omega
          subst e
          refine ⟨_, rfl, _, _, _, _, false, rfl, .ty _, ty_tup hT, kit_ty (by decide +kernel), _, rfl, ?_⟩
          refine ⟨_, rfl, _, _, _, _, rfl, rfl, hT, rfl, _, rfl, by show 3 ≤ sizeLine; decide, fun t ht => k t _ (Keep.refl.new ht) (.inr ⟨by show used < used + 1; omega, x, U x, _, hx, SqT.of upd_same⟩)⟩
        · rw [toldV_len hj] at c
          have e : used < j := by omega
          refine ⟨_, rfl, _, _, _, _, false, rfl, .ty _, ty_tup hT, kit_ty (by decide +kernel), _, rfl, ?_⟩
          refine ⟨_, rfl, _, rfl, _, _, _, (U x).v, rfl, rfl, SqL.of ha, at_of (j := used) (by omega) (toldV_at hx e), scal_str _ _, .inr ⟨_, rfl, ?_⟩⟩
          rw [decide_eq_false (show ¬ (U x).v = V.str "cyclic" from fun z => hnc x (v_cyc.mp z))]
          refine ⟨_, rfl, _, _, rfl, rfl, by show 3 ≤ sizeLine; decide, fun t ht => k t _ (Keep.refl.new ht) (.inl ⟨by show used + 1 ≤ j; omega, ?_⟩)⟩
          have ew : (wor U (.cyc x)).1 = .int 0 := by
            show Ans.int (if U x = .cyc then 1 else 0) = _
            rw [if_neg (hnc x)]
          rw [ew]
          exact SqT.of upd_same
      | op w3 f g =>
        obtain ⟨b, x, y, rfl, hT, hf, hg⟩ := hf
        have hdf : f.dep ≤ d := by have : 1 + max f.dep g.dep ≤ d + 1 := hd; omega
        have hdg : g.dep ≤ d := by have : 1 + max f.dep g.dep ≤ d + 1 := hd; omega
        refine ⟨_, rfl, _, _, _, _, false, rfl, .ty _, ty_tup hT, kit_ty (by decide +kernel), _, rfl, ?_⟩
        refine ⟨_, rfl, _, _, _, _, true, rfl, .ty _, ty_tup hT, kit_ty (by decide +kernel), _, rfl, ?_⟩
        refine ⟨_, rfl, _, _, _, _, rfl, rfl, hT, rfl, rfl, _, rfl, ifN (fun z => word_cyc w3 (V.str.inj z)) ?_⟩
        refine ⟨_, rfl, _, _, _, _, true, rfl, .ty _, ty_tup hT, kit_ty (by decide +kernel), _, rfl, ?_⟩
        refine ⟨_, rfl, _, _, _, _, rfl, rfl, hT, rfl, _, rfl, _, rfl, ?_⟩
        have pf : (wor U f).2 <+: L.drop used := by
          unfold wor at hpre
          rw [if_neg (nc f)] at hpre
          by_cases hor : w3 = .or
          · rw [if_pos hor] at hpre
            by_cases hn : (wor U f).1 = .non
            · rw [if_pos hn] at hpre; exact (pre_app hpre).1
            · rw [if_neg hn] at hpre; exact hpre
          · rw [if_neg hor, if_neg (nc g)] at hpre; exact (pre_app hpre).1
        dsimp only [tNil]
        refine ⟨U, a, f, x, L, j, used, rfl, hnc, hf, hdf, ha, hj, hL, hu, pf, fun t1 H1 k1 n1 => ?_⟩
        have ha1 := k1.k _ _ (by simp) ha
        have hT1 := k1.tup hT
        have hg1 := hg.keep k1
        rcases n1 with ⟨e1, s1⟩ | ⟨e1, z, za, zi, e2, s1⟩
        · refine ⟨_, rfl, _, _, _, _, rfl, rfl, s1, rfl, rfl, _, rfl, ifN (fun z => absurd (V.str.inj z) (by decide +kernel)) ?_⟩
          refine ⟨_, rfl, _, _, _, _, rfl, rfl, s1, rfl, scal_str _ _, _, rfl, ifN (fun z => nc f (v_cyc.mp z)) ?_⟩
          refine ⟨_, rfl, _, _, _, _, rfl, rfl, hT1, rfl, ?_⟩
          refine ⟨_, rfl, rfl, _, rfl, ?_⟩
          by_cases hor : w3 = .or
          · subst hor
            refine ifP rfl ?_
            refine ⟨_, rfl, _, _, _, _, rfl, rfl, s1, rfl, rfl, _, rfl, ifD (fun z => ?_) (fun z => ?_)⟩
            · have ew : wor U (.op .or f g) = ((wor U g).1, (wor U f).2 ++ (wor U g).2) := by
                show (if (wor U f).1 = .cyc then _ else _) = _
                rw [if_neg (nc f), if_pos rfl, if_pos (v_non.mp z)]
              rw [ew] at hpre
              refine ⟨_, rfl, _, _, _, _, rfl, rfl, hT1, rfl, _, rfl, _, rfl, _, _, _, _, rfl, rfl, s1, rfl, ?_⟩
              dsimp only [tNil]
              refine ⟨U, a, g, y, L, j, used + (wor U f).2.length, rfl, hnc, hg1, hdg, ha1, hj, hL, e1, (pre_app hpre).2, fun t2 H2 k2 n2 => k t2 H2 (k1.trans k2) ?_⟩
              unfold NxtAt
              rw [ew, List.length_append, ← Nat.add_assoc]
              exact n2
            · have ew : wor U (.op .or f g) = wor U f := by
                show (if (wor U f).1 = .cyc then _ else _) = _
                rw [if_neg (nc f), if_pos rfl, if_neg (fun q => z (v_non.mpr q))]
              refine ⟨_, rfl, k t1 H1 k1 ?_⟩
              unfold NxtAt
              rw [ew]
              exact .inl ⟨e1, s1⟩
          · refine ifN (fun z => hor (by cases w3 <;> first | rfl | exact absurd (V.str.inj z) (by decide +kernel))) ?_
            have ew : wor U (.op w3 f g) = (tog w3 (wor U f).1 (wor U g).1, (wor U f).2 ++ (wor U g).2) := by
              show (if (wor U f).1 = .cyc then _ else _) = _
              rw [if_neg (nc f), if_neg hor, if_neg (nc g)]
            rw [ew] at hpre
            refine ⟨_, rfl, rfl, _, rfl, ifN (fun z => word_if w3 (V.str.inj z)) ?_⟩
            refine ⟨_, rfl, _, _, _, _, rfl, rfl, hT1, rfl, _, rfl, _, rfl, _, _, _, _, rfl, rfl, s1, rfl, ?_⟩
            dsimp only [tNil]
            refine ⟨U, a, g, y, L, j, used + (wor U f).2.length, rfl, hnc, hg1, hdg, ha1, hj, hL, e1, (pre_app hpre).2, fun t2 H2 k2 n2 => ?_⟩
            rcases n2 with ⟨e3, s2⟩ | ⟨e3, z, za, zi, e4, s2⟩
            · have s1' := k2.tup s1
              refine ⟨_, rfl, _, _, _, _, rfl, rfl, s2, rfl, rfl, _, rfl, ifN (fun z => absurd (V.str.inj z) (by decide +kernel)) ?_⟩
              refine ⟨_, rfl, _, _, _, _, rfl, rfl, s2, rfl, scal_str _ _, _, rfl, ifN (fun z => nc g (v_cyc.mp z)) ?_⟩
              refine ⟨_, rfl, _, rfl, _, _, _, _, rfl, rfl, s1', rfl, _, rfl, _, _, _, _, rfl, rfl, s2, rfl, ?_⟩
              dsimp only [tNil]
              refine ⟨w3, _, _, rfl, hor, nc f, nc g, ?_⟩
              refine ⟨_, rfl, _, _, _, _, rfl, rfl, s2, rfl, by show 3 ≤ sizeLine; decide, fun t ht => k t _ ((k1.trans k2).trans (Keep.refl.new ht)) (.inl ⟨?_, ?_⟩)⟩
              · rw [ew, List.length_append, ← Nat.add_assoc]; exact e3
              · rw [ew, List.length_append, ← Nat.add_assoc]; exact SqT.of upd_same
            · refine ⟨_, rfl, _, _, _, _, rfl, rfl, s2, rfl, rfl, _, rfl, ifP rfl ?_⟩
              refine ⟨_, rfl, k t2 H2 (k1.trans k2) (.inr ⟨?_, z, za, zi, e4, s2⟩)⟩
              rw [ew, List.length_append, ← Nat.add_assoc]; exact e3
        · refine ⟨_, rfl, _, _, _, _, rfl, rfl, s1, rfl, rfl, _, rfl, ifP rfl ?_⟩
          refine ⟨_, rfl, k t1 H1 k1 (.inr ⟨?_, z, za, zi, e2, s1⟩)⟩
          refine Nat.lt_of_lt_of_le e1 (Nat.add_le_add_left ?_ _)
          show (wor U f).2.length ≤ (wor U (.op w3 f g)).2.length
          conv => rhs; unfold wor
          rw [if_neg (nc f)]
          split
          · split
            · show _ ≤ ((wor U f).2 ++ (wor U g).2).length
              rw [List.length_append]; omega
            · exact Nat.le_refl _
          · rw [if_neg (nc g)]
            show _ ≤ ((wor U f).2 ++ (wor U g).2).length
            rw [List.length_append]; omega
      | ite c f g =>
        obtain ⟨b, x, y, z, rfl, hT, hc, hf, hg⟩ := hf
        have hdd : 1 + max c.dep (max f.dep g.dep) ≤ d + 1 := hd
        refine ⟨_, rfl, _, _, _, _, false, rfl, .ty _, ty_tup hT, kit_ty (by decide +kernel), _, rfl, ?_⟩
        refine ⟨_, rfl, _, _, _, _, true, rfl, .ty _, ty_tup hT, kit_ty (by decide +kernel), _, rfl, ?_⟩
        refine ⟨_, rfl, _, _, _, _, rfl, rfl, hT, rfl, rfl, _, rfl, ifN (fun z => absurd (V.str.inj z) (by decide +kernel)) ?_⟩
        refine ⟨_, rfl, _, _, _, _, true, rfl, .ty _, ty_tup hT, kit_ty (by decide +kernel), _, rfl, ?_⟩
        refine ⟨_, rfl, _, _, _, _, rfl, rfl, hT, rfl, _, rfl, _, rfl, ?_⟩
        have ew1 : ((wor U c).1 = .non ∨ (wor U c).1 = .int 0) → wor U (.ite c f g) = ((wor U g).1, (wor U c).2 ++ (wor U g).2) := fun hn => by
          show (if (wor U c).1 = .cyc then _ else _) = _
          rw [if_neg (nc c), if_pos hn]
        have ew2 : ¬ ((wor U c).1 = .non ∨ (wor U c).1 = .int 0) → wor U (.ite c f g) = ((wor U f).1, (wor U c).2 ++ (wor U f).2) := fun hn => by
          show (if (wor U c).1 = .cyc then _ else _) = _
          rw [if_neg (nc c), if_neg hn]
        have pf : (wor U c).2 <+: L.drop used ∧ (wor U c).2.length ≤ (wor U (.ite c f g)).2.length := by
          by_cases hn : (wor U c).1 = .non ∨ (wor U c).1 = .int 0
          · rw [ew1 hn] at hpre ⊢
            exact ⟨(pre_app hpre).1, by show _ ≤ ((wor U c).2 ++ (wor U g).2).length; rw [List.length_append]; omega⟩
          · rw [ew2 hn] at hpre ⊢
            exact ⟨(pre_app hpre).1, by show _ ≤ ((wor U c).2 ++ (wor U f).2).length; rw [List.length_append]; omega⟩
        dsimp only [tNil]
        refine ⟨U, a, c, x, L, j, used, rfl, hnc, hc, by omega, ha, hj, hL, hu, pf.1, fun t1 H1 k1 n1 => ?_⟩
        have ha1 := k1.k _ _ (by simp) ha
        have hT1 := k1.tup hT
        rcases n1 with ⟨e1, s1⟩ | ⟨e1, z, za, zi, e2, s1⟩
        · refine ⟨_, rfl, _, _, _, _, rfl, rfl, s1, rfl, rfl, _, rfl, ifN (fun z => absurd (V.str.inj z) (by decide +kernel)) ?_⟩
          refine ⟨_, rfl, _, _, _, _, rfl, rfl, s1, rfl, scal_str _ _, _, rfl, ifN (fun z => nc c (v_cyc.mp z)) ?_⟩
          refine ⟨_, rfl, _, _, _, _, rfl, rfl, hT1, rfl, ?_⟩
          refine ⟨_, rfl, rfl, _, rfl, ifN (fun z => absurd (V.str.inj z) (by decide +kernel)) ?_⟩
          refine ⟨_, rfl, rfl, _, rfl, ifP rfl ?_⟩
          have sz : scal (wor U c).1.v (.int 0) = true := by
            rcases scal_zero (wor U c).1 with h | h
            · exact h
            · exact absurd h (nc c)
          have go3 : (wor U c).1 = .non ∨ (wor U c).1 = .int 0 → spNext K d [z, .ref a, .int ((used + (wor U c).2.length : Nat) : Int)] H1 Q E0 := fun hn => by
            have hp := hpre
            rw [ew1 hn] at hp
            refine ⟨U, a, g, z, L, j, used + (wor U c).2.length, rfl, hnc, hg.keep k1, by omega, ha1, hj, hL, e1, (pre_app hp).2, fun t2 H2 k2 n2 => k t2 H2 (k1.trans k2) ?_⟩
            unfold NxtAt
            rw [ew1 hn, List.length_append, ← Nat.add_assoc]
            exact n2
          have go2 : ¬ ((wor U c).1 = .non ∨ (wor U c).1 = .int 0) → spNext K d [y, .ref a, .int ((used + (wor U c).2.length : Nat) : Int)] H1 Q E0 := fun hn => by
            have hp := hpre
            rw [ew2 hn] at hp
            refine ⟨U, a, f, y, L, j, used + (wor U c).2.length, rfl, hnc, hf.keep k1, by omega, ha1, hj, hL, e1, (pre_app hp).2, fun t2 H2 k2 n2 => k t2 H2 (k1.trans k2) ?_⟩
            unfold NxtAt
            rw [ew2 hn, List.length_append, ← Nat.add_assoc]
            exact n2
          refine ⟨_, rfl, _, rfl, _, _, _, _, rfl, rfl, s1, rfl, rfl, _, rfl, ifD (fun z1 => ?_) (fun z1 => ⟨_, rfl, _, _, _, _, rfl, rfl, s1, rfl, sz, _, rfl, ifD (fun z2 => ?_) (fun z2 => ?_)⟩)⟩
          · exact ⟨_, _, _, _, rfl, rfl, hT1, rfl, _, rfl, _, rfl, _, _, _, _, rfl, rfl, s1, rfl, go3 (.inl (v_non.mp z1))⟩
          · exact ⟨_, _, _, _, rfl, rfl, hT1, rfl, _, rfl, _, rfl, _, _, _, _, rfl, rfl, s1, rfl, go3 (.inr (v_zero.mp z2))⟩
          · exact ⟨_, _, _, _, rfl, rfl, hT1, rfl, _, rfl, _, rfl, _, _, _, _, rfl, rfl, s1, rfl, go2 fun h => h.elim (fun q => z1 (v_non.mpr q)) (fun q => z2 (v_zero.mpr q))⟩
        · refine ⟨_, rfl, _, _, _, _, rfl, rfl, s1, rfl, rfl, _, rfl, ifP rfl ?_⟩
          exact ⟨_, rfl, k t1 H1 k1 (.inr ⟨Nat.lt_of_lt_of_le e1 (Nat.add_le_add_left pf.2 _), z, za, zi, e2, s1⟩)⟩
end
end Q

namespace Q
open PySem PySem.Spec PyProof.Rows L2
/-! ### the law's own sameness: alike data answer True -/
def Sc (v : V) : Prop := v = .non ∨ (∃ i, v = .int i) ∨ ∃ x, v = .str x
def Sm (K : PySem.W.Frag) (H : Hp) : Nat → V → V → Prop
  | 0, v, u => v = u ∧ Sc v
  | n + 1, v, u => (v = u ∧ Sc v) ∨ ∃ (a b : Addr) (xs ys : List V), v = .ref a ∧ u = .ref b ∧ SqT K H a xs ∧ SqT K H b ys ∧ xs.length = ys.length ∧ xs.length ≤ 1000 ∧ ∀ (i : Nat) (x y : V), xs[i]? = some x → ys[i]? = some y → Sm K H n x y
theorem Sm.keep {K : PySem.W.Frag} {H H1 : Hp} {M : List Addr} (k : Keep M H H1) : ∀ {n : Nat} {v u : V}, Sm K H n v u → Sm K H1 n v u
  | 0, _, _, h => h
  | n + 1, _, _, h => by
    rcases h with h | ⟨a, b, xs, ys, e1, e2, h1, h2, h3, h4, h5⟩
    · exact .inl h
    · exact .inr ⟨a, b, xs, ys, e1, e2, k.tup h1, k.tup h2, h3, h4, fun i x y q1 q2 => Sm.keep k (h5 i x y q1 q2)⟩
theorem Ans.sc (a : Ans) : Sc a.v := by
  cases a
  · exact .inl rfl
  · exact .inr (.inl ⟨_, rfl⟩)
  · exact .inr (.inr ⟨_, rfl⟩)
def spSame (K : PySem.W.Frag) (n : Nat) : Sp := fun vs H Q _ => ∃ v u, vs = [v, u] ∧ Sm K H n v u ∧ ∀ H', Keep [] H H' → Q (.bl true) H'
theorem all_true (n : Nat) : (List.replicate n true).all id = true := by
  induction n with
  | zero => rfl
  | succ n ih => rw [List.replicate_succ, List.all_cons, ih]; rfl
section
variable {P : Program} {w : World} {K : PySem.W.Frag} {mg : Str → Option Value} {base : Heap}
theorem ok_same (T : Facts w K mg) : ∀ n : Nat, Ok P w K mg base (n + 1) "_law_same" ["_law_actual", "_law_due"] (spSame K n) := by
  intro n
  induction n with
  | zero =>
    refine T.d__law_same.F.ok sc__law_same (fun vs H Q E h => ?_) (fun cdv A outer s H vs Q E hr h => ?_)
    · obtain ⟨v, u, rfl, _⟩ := h
      rfl
    · obtain ⟨v, u, rfl, ⟨rfl, hs⟩, k⟩ := h
      refine ⟨_, PSs.nox (pss_cons (ps_if (pt_cmpR op_isN (pv 1) pe_non (nomark _)) (pss_one (ps_ret (pe_cmpR op_isN (pv 0) pe_non (nomark _)))) pss_nil) 
      (pss_cons (ps_if (PW.pt (pw_or (pt_cmpR op_ne (pe_callB call_isi (by rfl) T.b_isinstance (by decide +kernel) (pa_cons (pv 1) (pa_cons (pe_bltn (v := .ty "tuple") (u := .type "tuple") (by rfl) T.b_tuple (by decide +kernel) rfl) pa_nil))) (pe_callB call_isi (by rfl) T.b_isinstance (by decide +kernel) (pa_cons (pv 0) (pa_cons (pe_bltn (v := .ty "tuple") (u := .type "tuple") (by rfl) T.b_tuple (by decide +kernel) rfl) pa_nil))) (nomark _)) (pw_or1 (pt_cmpR op_ne (pe_callB call_isi (by rfl) T.b_isinstance (by decide +kernel) (pa_cons (pv 1) (pa_cons (pe_bltn (v := .ty "list") (u := .type "list") (by rfl) T.b_list (by decide +kernel) rfl) pa_nil))) (pe_callB call_isi (by rfl) T.b_isinstance (by decide +kernel) (pa_cons (pv 0) (pa_cons (pe_bltn (v := .ty "list") (u := .type "list") (by rfl) T.b_list (by decide +kernel) rfl) pa_nil))) (nomark _))))) (pss_one (ps_ret pe_bl)) pss_nil) 
      (pss_cons (ps_if (PW.pt (pw_or (pt_val (pe_callB call_isi (by rfl) T.b_isinstance (by decide +kernel) (pa_cons (pv 1) (pa_cons (pe_bltn (v := .ty "tuple") (u := .type "tuple") (by rfl) T.b_tuple (by decide +kernel) rfl) pa_nil)))) (pw_or1 (pt_val (pe_callB call_isi (by rfl) T.b_isinstance (by decide +kernel) (pa_cons (pv 1) (pa_cons (pe_bltn (v := .ty "list") (u := .type "list") (by rfl) T.b_list (by decide +kernel) rfl) pa_nil))))))) pss_never pss_nil) 
      (pss_cons (ps_if (PW.pt (pw_or (pt_cmpR op_ne (pe_callB call_isi (by rfl) T.b_isinstance (by decide +kernel) (pa_cons (pv 1) (pa_cons (pe_bltn (v := .ty "bool") (u := .type "bool") (by rfl) T.b_bool (by decide +kernel) rfl) pa_nil))) (pe_callB call_isi (by rfl) T.b_isinstance (by decide +kernel) (pa_cons (pv 0) (pa_cons (pe_bltn (v := .ty "bool") (u := .type "bool") (by rfl) T.b_bool (by decide +kernel) rfl) pa_nil))) (nomark _)) (pw_or1 (pt_cmpR op_ne (pe_callB call_isi (by rfl) T.b_isinstance (by decide +kernel) (pa_cons (pv 1) (pa_cons (pe_bltn (v := .ty "str") (u := .type "str") (by rfl) T.b_str (by decide +kernel) rfl) pa_nil))) (pe_callB call_isi (by rfl) T.b_isinstance (by decide +kernel) (pa_cons (pv 0) (pa_cons (pe_bltn (v := .ty "str") (u := .type "str") (by rfl) T.b_str (by decide +kernel) rfl) pa_nil))) (nomark _))))) (pss_one (ps_ret pe_bl)) pss_nil) 
      (pss_one (ps_ret (pe_and (pe_cmpR op_eq (pe_callB call_isi (by rfl) T.b_isinstance (by decide +kernel) (pa_cons (pv 1) (pa_cons (pe_bltn (v := .ty "int") (u := .type "int") (by rfl) T.b_int (by decide +kernel) rfl) pa_nil))) (pe_callB call_isi (by rfl) T.b_isinstance (by decide +kernel) (pa_cons (pv 0) (pa_cons (pe_bltn (v := .ty "int") (u := .type "int") (by rfl) T.b_int (by decide +kernel) rfl) pa_nil))) (nomark _)) (pe_one (pe_cmpR op_eq (pv 0) (pv 1) (nomark _)))))))))), ?_⟩
      rcases hs with rfl | ⟨i, rfl⟩ | ⟨x, rfl⟩
      · refine ⟨_, rfl, rfl, _, rfl, ifP rfl ?_⟩
        exact ⟨_, rfl, rfl, k H Keep.refl⟩
      · refine ⟨_, rfl, rfl, _, rfl, ifN (fun z => by cases z) ?_⟩
        refine ⟨_, rfl, _, _, _, _, false, rfl, .ty _, .base (.int i), kit_ty (by decide +kernel), _, rfl, _, _, _, _, false, rfl, .ty _, .base (.int i), kit_ty (by decide +kernel), rfl, _, rfl, ifnP rfl ?_⟩
        refine ⟨_, rfl, _, _, _, _, false, rfl, .ty _, .base (.int i), kit_ty (by decide +kernel), _, rfl, _, _, _, _, false, rfl, .ty _, .base (.int i), kit_ty (by decide +kernel), rfl, _, rfl, ifnP rfl ?_⟩
        refine ⟨_, rfl, _, _, _, _, false, rfl, .ty _, .base (.int i), kit_ty (by decide +kernel), _, rfl, ?_⟩
        refine ⟨_, rfl, _, _, _, _, false, rfl, .ty _, .base (.int i), kit_ty (by decide +kernel), _, rfl, ?_⟩
        refine ⟨_, rfl, _, _, _, _, false, rfl, .ty _, .base (.int i), kit_ty (by decide +kernel), _, rfl, _, _, _, _, false, rfl, .ty _, .base (.int i), kit_ty (by decide +kernel), rfl, _, rfl, ifnP rfl ?_⟩
        refine ⟨_, rfl, _, _, _, _, false, rfl, .ty _, .base (.int i), kit_ty (by decide +kernel), _, rfl, _, _, _, _, false, rfl, .ty _, .base (.int i), kit_ty (by decide +kernel), rfl, _, rfl, ifnP rfl ?_⟩
        refine ⟨_, rfl, _, _, _, _, true, rfl, .ty _, .base (.int i), kit_ty (by decide +kernel), _, rfl, _, _, _, _, true, rfl, .ty _, .base (.int i), kit_ty (by decide +kernel), rfl, _, rfl, ifP rfl ?_⟩
        refine ⟨_, rfl, _, rfl, rfl, ?_⟩
        rw [decide_eq_true (show (.int i : V) = .int i from rfl)]
        exact k H Keep.refl
      · refine ⟨_, rfl, rfl, _, rfl, ifN (fun z => by cases z) ?_⟩
        refine ⟨_, rfl, _, _, _, _, false, rfl, .ty _, .base (.str x), kit_ty (by decide +kernel), _, rfl, _, _, _, _, false, rfl, .ty _, .base (.str x), kit_ty (by decide +kernel), rfl, _, rfl, ifnP rfl ?_⟩
        refine ⟨_, rfl, _, _, _, _, false, rfl, .ty _, .base (.str x), kit_ty (by decide +kernel), _, rfl, _, _, _, _, false, rfl, .ty _, .base (.str x), kit_ty (by decide +kernel), rfl, _, rfl, ifnP rfl ?_⟩
        refine ⟨_, rfl, _, _, _, _, false, rfl, .ty _, .base (.str x), kit_ty (by decide +kernel), _, rfl, ?_⟩
        refine ⟨_, rfl, _, _, _, _, false, rfl, .ty _, .base (.str x), kit_ty (by decide +kernel), _, rfl, ?_⟩
        refine ⟨_, rfl, _, _, _, _, false, rfl, .ty _, .base (.str x), kit_ty (by decide +kernel), _, rfl, _, _, _, _, false, rfl, .ty _, .base (.str x), kit_ty (by decide +kernel), rfl, _, rfl, ifnP rfl ?_⟩
        refine ⟨_, rfl, _, _, _, _, true, rfl, .ty _, .base (.str x), kit_ty (by decide +kernel), _, rfl, _, _, _, _, true, rfl, .ty _, .base (.str x), kit_ty (by decide +kernel), rfl, _, rfl, ifnP rfl ?_⟩
        refine ⟨_, rfl, _, _, _, _, false, rfl, .ty _, .base (.str x), kit_ty (by decide +kernel), _, rfl, _, _, _, _, false, rfl, .ty _, .base (.str x), kit_ty (by decide +kernel), rfl, _, rfl, ifP rfl ?_⟩
        refine ⟨_, rfl, _, rfl, rfl, ?_⟩
        rw [decide_eq_true (show (.str x : V) = .str x from rfl)]
        exact k H Keep.refl
  | succ n ih =>
    refine T.d__law_same.F.ok sc__law_same (fun vs H Q E h => ?_) (fun cdv A outer s H vs Q E hr h => ?_)
    · obtain ⟨v, u, rfl, _⟩ := h
      rfl
    · obtain ⟨v, u, rfl, hs, k⟩ := h
      have hrd : Room (n + 1) _ := hr
      refine ⟨_, PSs.nox (pss_cons (ps_if (pt_cmpR op_isN (pv 1) pe_non (nomark _)) (pss_one (ps_ret (pe_cmpR op_isN (pv 0) pe_non (nomark _)))) pss_nil) 
      (pss_cons (ps_if (PW.pt (pw_or (pt_cmpR op_ne (pe_callB call_isi (by rfl) T.b_isinstance (by decide +kernel) (pa_cons (pv 1) (pa_cons (pe_bltn (v := .ty "tuple") (u := .type "tuple") (by rfl) T.b_tuple (by decide +kernel) rfl) pa_nil))) (pe_callB call_isi (by rfl) T.b_isinstance (by decide +kernel) (pa_cons (pv 0) (pa_cons (pe_bltn (v := .ty "tuple") (u := .type "tuple") (by rfl) T.b_tuple (by decide +kernel) rfl) pa_nil))) (nomark _)) (pw_or1 (pt_cmpR op_ne (pe_callB call_isi (by rfl) T.b_isinstance (by decide +kernel) (pa_cons (pv 1) (pa_cons (pe_bltn (v := .ty "list") (u := .type "list") (by rfl) T.b_list (by decide +kernel) rfl) pa_nil))) (pe_callB call_isi (by rfl) T.b_isinstance (by decide +kernel) (pa_cons (pv 0) (pa_cons (pe_bltn (v := .ty "list") (u := .type "list") (by rfl) T.b_list (by decide +kernel) rfl) pa_nil))) (nomark _))))) (pss_one (ps_ret pe_bl)) pss_nil) 
      (pss_cons (ps_if (PW.pt (pw_or (pt_val (pe_callB call_isi (by rfl) T.b_isinstance (by decide +kernel) (pa_cons (pv 1) (pa_cons (pe_bltn (v := .ty "tuple") (u := .type "tuple") (by rfl) T.b_tuple (by decide +kernel) rfl) pa_nil)))) (pw_or1 (pt_val (pe_callB call_isi (by rfl) T.b_isinstance (by decide +kernel) (pa_cons (pv 1) (pa_cons (pe_bltn (v := .ty "list") (u := .type "list") (by rfl) T.b_list (by decide +kernel) rfl) pa_nil))))))) (pss_one (ps_ret (pe_and (pe_cmpR op_eq (pe_callB call_len_seq (by rfl) T.b_len PySem.boot_len (pa_cons (pv 0) pa_nil)) (pe_callB (show CallR _ _ (fun xs H Q => ∃ p ys, xs = [.ref p] ∧ (SqL K H p ys ∨ SqT K H p ys) ∧ Q (.int ys.length) H) from call_len_seq) (by rfl) T.b_len PySem.boot_len (pa_cons (pv 1) pa_nil)) (nomark _)) (pe_one (pe_callB (cr_all rfl) (by rfl) T.b_all (by decide +kernel) (pa_cons (pe_lc (own := [("_law_k", 2)]) (g := gName 2) (by rfl) sc__law_same.nd (pi_range1 (by rfl) T.b_range (pa_cons (pe_callB (show CallR _ _ (fun xs H Q => ∃ p ys, xs = [.ref p] ∧ (SqL K H p ys ∨ SqT K H p ys) ∧ Q (.int ys.length) H) from call_len_seq) (by rfl) T.b_len PySem.boot_len (pa_cons (pv 1) pa_nil)) pa_nil)) (blkOk_by (N := ["_law_actual", "_law_due", "_law_k"]) (sc := defScope s__law_same) (own := [("_law_k", 2)]) (by decide +kernel)) (fun _ _ _ _ _ => pg_name (i := 2) sc__law_same.nd rfl (Or.inl rfl)) (fun _ _ _ _ _ => pts_nil) (fun _ _ _ _ _ => (pe_cl T.d__law_same ih hrd (pa_cons (pe_ix (show IxR _ (rIxT K) from ix_tup) (pv 0) (pv 2) (fun _ _ => rfl)) (pa_cons (pe_ix (show IxR _ (rIxT K) from ix_tup) (pv 1) (pv 2) (fun _ _ => rfl)) pa_nil))))) pa_nil)))))) pss_nil) 
      (pss_cons (ps_if (PW.pt (pw_or (pt_cmpR op_ne (pe_callB call_isi (by rfl) T.b_isinstance (by decide +kernel) (pa_cons (pv 1) (pa_cons (pe_bltn (v := .ty "bool") (u := .type "bool") (by rfl) T.b_bool (by decide +kernel) rfl) pa_nil))) (pe_callB call_isi (by rfl) T.b_isinstance (by decide +kernel) (pa_cons (pv 0) (pa_cons (pe_bltn (v := .ty "bool") (u := .type "bool") (by rfl) T.b_bool (by decide +kernel) rfl) pa_nil))) (nomark _)) (pw_or1 (pt_cmpR op_ne (pe_callB call_isi (by rfl) T.b_isinstance (by decide +kernel) (pa_cons (pv 1) (pa_cons (pe_bltn (v := .ty "str") (u := .type "str") (by rfl) T.b_str (by decide +kernel) rfl) pa_nil))) (pe_callB call_isi (by rfl) T.b_isinstance (by decide +kernel) (pa_cons (pv 0) (pa_cons (pe_bltn (v := .ty "str") (u := .type "str") (by rfl) T.b_str (by decide +kernel) rfl) pa_nil))) (nomark _))))) (pss_one (ps_ret pe_bl)) pss_nil) 
      (pss_one (ps_ret (pe_and (pe_cmpR op_eq (pe_callB call_isi (by rfl) T.b_isinstance (by decide +kernel) (pa_cons (pv 1) (pa_cons (pe_bltn (v := .ty "int") (u := .type "int") (by rfl) T.b_int (by decide +kernel) rfl) pa_nil))) (pe_callB call_isi (by rfl) T.b_isinstance (by decide +kernel) (pa_cons (pv 0) (pa_cons (pe_bltn (v := .ty "int") (u := .type "int") (by rfl) T.b_int (by decide +kernel) rfl) pa_nil))) (nomark _)) (pe_one (pe_cmpR op_eq (pv 0) (pv 1) (nomark _)))))))))), ?_⟩
      rcases hs with ⟨rfl, hs⟩ | ⟨a, b, xs, ys, rfl, rfl, h1, h2, h3, h4, h5⟩
      · rcases hs with rfl | ⟨i, rfl⟩ | ⟨x, rfl⟩
        · refine ⟨_, rfl, rfl, _, rfl, ifP rfl ?_⟩
          exact ⟨_, rfl, rfl, k H Keep.refl⟩
        · refine ⟨_, rfl, rfl, _, rfl, ifN (fun z => by cases z) ?_⟩
          refine ⟨_, rfl, _, _, _, _, false, rfl, .ty _, .base (.int i), kit_ty (by decide +kernel), _, rfl, _, _, _, _, false, rfl, .ty _, .base (.int i), kit_ty (by decide +kernel), rfl, _, rfl, ifnP rfl ?_⟩
          refine ⟨_, rfl, _, _, _, _, false, rfl, .ty _, .base (.int i), kit_ty (by decide +kernel), _, rfl, _, _, _, _, false, rfl, .ty _, .base (.int i), kit_ty (by decide +kernel), rfl, _, rfl, ifnP rfl ?_⟩
          refine ⟨_, rfl, _, _, _, _, false, rfl, .ty _, .base (.int i), kit_ty (by decide +kernel), _, rfl, ?_⟩
          refine ⟨_, rfl, _, _, _, _, false, rfl, .ty _, .base (.int i), kit_ty (by decide +kernel), _, rfl, ?_⟩
          refine ⟨_, rfl, _, _, _, _, false, rfl, .ty _, .base (.int i), kit_ty (by decide +kernel), _, rfl, _, _, _, _, false, rfl, .ty _, .base (.int i), kit_ty (by decide +kernel), rfl, _, rfl, ifnP rfl ?_⟩
          refine ⟨_, rfl, _, _, _, _, false, rfl, .ty _, .base (.int i), kit_ty (by decide +kernel), _, rfl, _, _, _, _, false, rfl, .ty _, .base (.int i), kit_ty (by decide +kernel), rfl, _, rfl, ifnP rfl ?_⟩
          refine ⟨_, rfl, _, _, _, _, true, rfl, .ty _, .base (.int i), kit_ty (by decide +kernel), _, rfl, _, _, _, _, true, rfl, .ty _, .base (.int i), kit_ty (by decide +kernel), rfl, _, rfl, ifP rfl ?_⟩
          refine ⟨_, rfl, _, rfl, rfl, ?_⟩
          rw [decide_eq_true (show (.int i : V) = .int i from rfl)]
          exact k H Keep.refl
        · refine ⟨_, rfl, rfl, _, rfl, ifN (fun z => by cases z) ?_⟩
          refine ⟨_, rfl, _, _, _, _, false, rfl, .ty _, .base (.str x), kit_ty (by decide +kernel), _, rfl, _, _, _, _, false, rfl, .ty _, .base (.str x), kit_ty (by decide +kernel), rfl, _, rfl, ifnP rfl ?_⟩
          refine ⟨_, rfl, _, _, _, _, false, rfl, .ty _, .base (.str x), kit_ty (by decide +kernel), _, rfl, _, _, _, _, false, rfl, .ty _, .base (.str x), kit_ty (by decide +kernel), rfl, _, rfl, ifnP rfl ?_⟩
          refine ⟨_, rfl, _, _, _, _, false, rfl, .ty _, .base (.str x), kit_ty (by decide +kernel), _, rfl, ?_⟩
          refine ⟨_, rfl, _, _, _, _, false, rfl, .ty _, .base (.str x), kit_ty (by decide +kernel), _, rfl, ?_⟩
          refine ⟨_, rfl, _, _, _, _, false, rfl, .ty _, .base (.str x), kit_ty (by decide +kernel), _, rfl, _, _, _, _, false, rfl, .ty _, .base (.str x), kit_ty (by decide +kernel), rfl, _, rfl, ifnP rfl ?_⟩
          refine ⟨_, rfl, _, _, _, _, true, rfl, .ty _, .base (.str x), kit_ty (by decide +kernel), _, rfl, _, _, _, _, true, rfl, .ty _, .base (.str x), kit_ty (by decide +kernel), rfl, _, rfl, ifnP rfl ?_⟩
          refine ⟨_, rfl, _, _, _, _, false, rfl, .ty _, .base (.str x), kit_ty (by decide +kernel), _, rfl, _, _, _, _, false, rfl, .ty _, .base (.str x), kit_ty (by decide +kernel), rfl, _, rfl, ifP rfl ?_⟩
          refine ⟨_, rfl, _, rfl, rfl, ?_⟩
          rw [decide_eq_true (show (.str x : V) = .str x from rfl)]
          exact k H Keep.refl
      · refine ⟨_, rfl, rfl, _, rfl, ifN (fun z => by cases z) ?_⟩
        refine ⟨_, rfl, _, _, _, _, true, rfl, .ty _, (ty_tup h2), kit_ty (by decide +kernel), _, rfl, _, _, _, _, true, rfl, .ty _, (ty_tup h1), kit_ty (by decide +kernel), rfl, _, rfl, ifnP rfl ?_⟩
        refine ⟨_, rfl, _, _, _, _, false, rfl, .ty _, (ty_tup h2), kit_ty (by decide +kernel), _, rfl, _, _, _, _, false, rfl, .ty _, (ty_tup h1), kit_ty (by decide +kernel), rfl, _, rfl, ifnP rfl ?_⟩
        refine ⟨_, rfl, _, _, _, _, true, rfl, .ty _, (ty_tup h2), kit_ty (by decide +kernel), _, rfl, ?_⟩
        refine ⟨_, rfl, a, xs, rfl, .inr h1, _, rfl, b, ys, rfl, .inr h2, rfl, _, rfl, ifP (by rw [h3]) ?_⟩
        refine ⟨_, rfl, b, ys, rfl, .inr h2, ?_⟩
        have n62 : (1000 : Int) < 2 ^ 62 := by decide
        refine ⟨_, rfl, by omega, by omega, fun D hD => lc_range (n := ((ys.length : Nat) : Int).toNat) (fun i H' => H' D = some (.lst ((List.replicate i true).map V.bl)) ∧ Keep [] H H') ⟨upd_same, Keep.refl.new hD⟩ ?_ ?_⟩
        · rintro i H' hi ⟨q1, q2⟩
          have hi2 : i < ys.length := by omega
          have hi1 : i < xs.length := by omega
          refine ⟨rfl, _, rfl, _, rfl, _, _, _, xs[i], rfl, rfl, q2.tup h1, at_of (j := i) (by omega) (List.getElem?_eq_getElem hi1), _, rfl, _, rfl, _, _, _, ys[i], rfl, rfl, q2.tup h2, at_of (j := i) (by omega) (List.getElem?_eq_getElem hi2), ?_⟩
          dsimp only [tNil]
          refine ⟨_, _, rfl, (h5 i _ _ (List.getElem?_eq_getElem hi1) (List.getElem?_eq_getElem hi2)).keep q2, fun H2 k2 => ?_⟩
          refine ⟨_, k2.k _ _ (by simp) q1, ?_, ?_, (q2.trans k2).new hD⟩
          · rw [List.length_map, List.length_replicate]; exact small1000 (by omega)
          · rw [upd_same, List.replicate_succ', List.map_append]; rfl
        · rintro H' ⟨q1, q2⟩
          refine ⟨D, _, rfl, SqL.of q1, ?_⟩
          rw [all_true]
          exact k H' q2
end
end Q

namespace Q
open PySem PySem.Spec PyProof.Rows L2
/-! ### the law's own state -/
structure LA where
  sd : Addr
  R : Addr
  A : Addr
  D : Addr
  L : Addr
def stF (la : LA) : List (Key × V) := [(.inr "rules", .ref la.R), (.inr "answers", .ref la.A), (.inr "reads", .ref la.D), (.inr "last", .ref la.L)]
theorem lv_rules {la : LA} : valV (stF la) (Sum.inr "rules" : Key) = some (.ref la.R) := by kernel_rfl
theorem lv_answers {la : LA} : valV (stF la) (Sum.inr "answers" : Key) = some (.ref la.A) := by kernel_rfl
theorem lv_reads {la : LA} : valV (stF la) (Sum.inr "reads" : Key) = some (.ref la.D) := by kernel_rfl
theorem lv_last {la : LA} : valV (stF la) (Sum.inr "last" : Key) = some (.ref la.L) := by kernel_rfl
structure LawAt (K : PySem.W.Frag) (H : Hp) (la : LA) (rules : List (Str × Rule)) (ans : List (Str × Ans)) (fs : List Str) (adr : Str → Addr) (tl : Str → Told) : Prop where
  s : H la.sd = some (.dK (stF la))
  r : ∃ kr, H la.R = some (.dK kr) ∧ KvAt (RuleAt K H) rules kr
  a : ∃ ka, H la.A = some (.dK ka) ∧ KvAt (fun (a : Ans) v => v = a.v) ans ka
  d : H la.D = some (.dK (fs.map fun x => (Sum.inr x, .ref (adr x))))
  dd : ∀ x ∈ fs, ∃ vs, H (adr x) = some (.lst vs) ∧ ToldAt K H (tl x) vs
  di : ∀ x ∈ fs, ∀ y ∈ fs, adr x = adr y → x = y
  l : ∃ kl, H la.L = some (.dK kl)
  n : [la.sd, la.R, la.A, la.D, la.L].Nodup
section
variable {K : PySem.W.Frag} {H H1 : Hp} {la : LA} {rules : List (Str × Rule)} {ans : List (Str × Ans)} {fs : List Str} {adr : Str → Addr} {tl : Str → Told}
theorem LawAt.there (h : LawAt K H la rules ans fs adr tl) : H la.sd ≠ none ∧ H la.R ≠ none ∧ H la.A ≠ none ∧ H la.D ≠ none ∧ H la.L ≠ none ∧ ∀ x ∈ fs, H (adr x) ≠ none := by
  obtain ⟨kr, r, _⟩ := h.r
  obtain ⟨ka, a, _⟩ := h.a
  obtain ⟨kl, l⟩ := h.l
  refine ⟨?_, ?_, ?_, ?_, ?_, fun x hx => ?_⟩
  · rw [h.s]; simp
  · rw [r]; simp
  · rw [a]; simp
  · rw [h.d]; simp
  · rw [l]; simp
  · obtain ⟨vs, e, _⟩ := h.dd x hx
    rw [e]; simp
theorem LawAt.keep (h : LawAt K H la rules ans fs adr tl) {M : List Addr} (k : Keep M H H1) (hM : ∀ x ∈ M, x ∉ [la.sd, la.R, la.A, la.D, la.L] ∧ ∀ y ∈ fs, adr y ≠ x) : LawAt K H1 la rules ans fs adr tl := by
  have g : ∀ x o, x ∈ [la.sd, la.R, la.A, la.D, la.L] → H x = some o → H1 x = some o := fun x o hx e => k.k x o (fun z => (hM x z).1 hx) e
  obtain ⟨kr, r, r2⟩ := h.r
  obtain ⟨ka, a, a2⟩ := h.a
  obtain ⟨kl, l⟩ := h.l
  exact ⟨g _ _ (by simp) h.s, ⟨kr, g _ _ (by simp) r, r2.imp fun _ _ z => z.keep k⟩, ⟨ka, g _ _ (by simp) a, a2⟩, g _ _ (by simp) h.d, fun x hx => by
    obtain ⟨vs, e, t⟩ := h.dd x hx
    exact ⟨vs, k.k _ _ (fun z => (hM _ z).2 x hx rfl) e, t.keep k⟩, h.di, ⟨kl, g _ _ (by simp) l⟩, h.n⟩
theorem LawAt.keep0 (h : LawAt K H la rules ans fs adr tl) (k : Keep [] H H1) : LawAt K H1 la rules ans fs adr tl := h.keep k (by simp)
theorem LawAt.mutA (h : LawAt K H la rules ans fs adr tl) : Mut (H la.A) := by obtain ⟨k, e, _⟩ := h.a; rw [e]; trivial
theorem LawAt.mutD (h : LawAt K H la rules ans fs adr tl) : Mut (H la.D) := by rw [h.d]; trivial
theorem LawAt.mutL (h : LawAt K H la rules ans fs adr tl) : Mut (H la.L) := by obtain ⟨k, e⟩ := h.l; rw [e]; trivial
/-- an answer is laid down -/
theorem LawAt.setA (h : LawAt K H la rules ans fs adr tl) {l : List (Str × Ans)} {ka : List (Key × V)} (r : KvAt (fun (x : Ans) v => v = x.v) l ka) : LawAt K (upd H la.A (.dK ka)) la rules l fs adr tl := by
  have k : Keep [la.A] H (upd H la.A (.dK ka)) := Keep.refl.upd (by simp) h.mutA
  obtain ⟨kr, r1, r2⟩ := h.r
  obtain ⟨ka0, a1, _⟩ := h.a
  obtain ⟨kl, l1⟩ := h.l
  have n := h.n
  simp only [List.nodup_cons, List.mem_cons, List.not_mem_nil, or_false, not_or, List.nodup_nil, and_true, not_false_eq_true] at n
  obtain ⟨⟨n1, n2, n3, n4⟩, ⟨n5, n6, n7⟩, ⟨n8, n9⟩, n10⟩ := n
  refine ⟨?_, ⟨kr, ?_, r2.imp fun _ _ z => z.keep k⟩, ⟨ka, upd_same, r⟩, ?_, fun x hx => ?_, h.di, ⟨kl, ?_⟩, h.n⟩
  · rw [upd_ne n2]; exact h.s
  · rw [upd_ne n5]; exact r1
  · rw [upd_ne (Ne.symm n8)]; exact h.d
  · obtain ⟨vs, e, t⟩ := h.dd x hx
    refine ⟨vs, ?_, t.keep k⟩
    rw [upd_ne (fun z => by rw [z, a1] at e; cases e)]
    exact e
  · rw [upd_ne (Ne.symm n9)]; exact l1
/-- the reads of x grow -/
theorem LawAt.setT (h : LawAt K H la rules ans fs adr tl) {x : Str} (hx : x ∈ fs) {t : Told} {vs : List V} (ht : ToldAt K H t vs) : LawAt K (upd H (adr x) (.lst vs)) la rules ans fs adr (fun y => if y = x then t else tl y) := by
  obtain ⟨vs0, e0, t0⟩ := h.dd x hx
  have k : Keep [adr x] H (upd H (adr x) (.lst vs)) := Keep.refl.upd (by simp) (by rw [e0]; trivial)
  obtain ⟨kr, r1, r2⟩ := h.r
  obtain ⟨ka, a1, a2⟩ := h.a
  obtain ⟨kl, l1⟩ := h.l
  have ne : ∀ {y : Addr} {kk : List (Key × V)}, H y = some (.dK kk) → y ≠ adr x := fun e z => by rw [z, e0] at e; cases e
  refine ⟨?_, ⟨kr, ?_, r2.imp fun _ _ z => z.keep k⟩, ⟨ka, ?_, a2⟩, ?_, fun y hy => ?_, h.di, ⟨kl, ?_⟩, h.n⟩
  · rw [upd_ne (ne h.s)]; exact h.s
  · rw [upd_ne (ne r1)]; exact r1
  · rw [upd_ne (ne a1)]; exact a1
  · rw [upd_ne (ne h.d)]; exact h.d
  · by_cases e : y = x
    · subst e
      exact ⟨vs, upd_same, by rw [if_pos rfl]; exact ht.keep k⟩
    · obtain ⟨us, e1, t1⟩ := h.dd y hy
      refine ⟨us, ?_, by rw [if_neg e]; exact t1.keep k⟩
      rw [upd_ne (fun z => e (h.di y hy x hx z))]
      exact e1
  · rw [upd_ne (ne l1)]; exact l1
end
theorem valV_mapS {x : Str} (g : Str → V) : ∀ {fs : List Str}, x ∈ fs → valV (fs.map fun x => ((Sum.inr x : Key), g x)) (Sum.inr x) = some (g x)
  | [], h => nomatch h
  | y :: fs, h => by
    rw [List.map_cons]
    by_cases e : y = x
    · subst e
      exact valV_pos rfl
    · rw [valV_neg (fun z => e (Sum.inr.inj z))]
      exact valV_mapS g ((List.mem_cons.mp h).resolve_left fun z => e z.symm)
def Known (rules : List (Str × Rule)) (ans : List (Str × Ans)) (x : Str) : Prop := ∀ f, rules.lookup x = some (.fml f) → ans.lookup x ≠ none
/-- what is true of answers -/
def Snd (U : Str → Ans) (ans : List (Str × Ans)) : Prop := ∀ y a, ans.lookup y = some a → a = U y
def spLW (K : PySem.W.Frag) : Sp := fun vs H Q _ => ∃ (la : LA) (rules : List (Str × Rule)) (ans : List (Str × Ans)) (fs : List Str) (adr : Str → Addr) (tl : Str → Told) (U : Str → Ans) (rk : Str → Nat) (x : Str), vs = [.ref la.sd, .str x] ∧ LawAt K H la rules ans fs adr tl ∧ Sem rules U rk ∧ Snd U ans ∧
  ∀ t H', Keep [] H H' → (Known rules ans x ∧ SqT K H' t [.bl true, (U x).v]) ∨ ((∃ f, rules.lookup x = some (.fml f) ∧ ans.lookup x = none) ∧ SqT K H' t [.bl false, .non]) → Q (.ref t) H'
section
variable {P : Program} {w : World} {K : PySem.W.Frag} {mg : Str → Option Value} {base : Heap}
theorem ok_lworth (T : Facts w K mg) : Ok P w K mg base 1 "_law_worth" ["_law_state", "_law_name"] (spLW K) := by
  refine T.d__law_worth.F.ok sc__law_worth (fun vs H Q E h => ?_) (fun cdv A outer s H vs Q E hr h => ?_)
  · obtain ⟨la, rules, ans, fs, adr, tl, U, rk, x, rfl, _⟩ := h
    rfl
  · obtain ⟨la, rules, ans, fs, adr, tl, U, rk, x, rfl, hL, hS, hU, k⟩ := h
    refine ⟨_, PSs.nox (pss_cons (ps_if (pt_cmp (pc_dnotin (hu_of hr) (pv 1) (pe_dget (hu_of hr) (pv 0) pe_str (fun _ _ => rfl)))) (pss_one (ps_ret (pe_tup (pa_cons pe_bl (pa_cons pe_non pa_nil))))) pss_nil) 
      (pss_cons (ps_set (i := 2) sc__law_worth.nd rfl (Or.inl rfl) (pe_dget (hu_of hr) (pe_dget (hu_of hr) (pv 0) pe_str (fun _ _ => rfl)) (pv 1) (fun _ _ => rfl))) 
      (pss_cons (ps_if (pt_cmpR op_eq (pe_ix ix_tup (pv 2) pe_int (fun _ _ => rfl)) pe_str (nomark _)) (pss_one (ps_ret (pe_tup (pa_cons pe_bl (pa_cons (pe_ix ix_tup (pv 2) pe_int (fun _ _ => rfl)) pa_nil))))) pss_nil) 
      (pss_cons (ps_if (pt_cmp (pc_din (hu_of hr) (pv 1) (pe_dget (hu_of hr) (pv 0) pe_str (fun _ _ => rfl)))) (pss_one (ps_ret (pe_tup (pa_cons pe_bl (pa_cons (pe_dget (hu_of hr) (pe_dget (hu_of hr) (pv 0) pe_str (fun _ _ => rfl)) (pv 1) (fun _ _ => rfl)) pa_nil))))) pss_nil) 
      (pss_one (ps_ret (pe_tup (pa_cons pe_bl (pa_cons pe_non pa_nil))))))))), ?_⟩
    obtain ⟨kr, r1, r2⟩ := hL.r
    obtain ⟨ka, a1, a2⟩ := hL.a
    have gR : DGet H la.sd (.str "rules") (some (.ref la.R)) := by
      have := DGet.k (k := Sum.inr "rules") hL.s
      rw [lv_rules] at this
      exact this
    have gA : DGet H la.sd (.str "answers") (some (.ref la.A)) := by
      have := DGet.k (k := Sum.inr "answers") hL.s
      rw [lv_answers] at this
      exact this
    have gx := DGet.k (k := Sum.inr x) r1
    have ga := DGet.k (k := Sum.inr x) a1
    have fin : ∀ (u : V) (t : Addr), H t = none → Known rules ans x → u = (U x).v → Q (.ref t) (upd H t (.tup [.bl true, u])) := fun u t ht hk e => k t _ (Keep.refl.new ht) (.inl ⟨hk, by rw [← e]; exact SqT.of upd_same⟩)
    refine ⟨_, rfl, _, rfl, la.sd, _, rfl, gR, la.R, _, rfl, gx, ?_⟩
    rcases r2.get x with ⟨h1, h2⟩ | ⟨r, v, h1, h2, h3⟩
    · rw [h2]
      refine ⟨_, rfl, by show 2 ≤ sizeLine; decide, fun t ht => fin _ t ht (fun f e => by rw [h1] at e; cases e) (by rw [hS.no x h1]; rfl)⟩
    · rw [h2] at gx ⊢
      refine ⟨_, rfl, _, rfl, la.sd, _, rfl, gR, _, rfl, la.R, _, rfl, gx, ?_⟩
      cases r with
      | inp a =>
        obtain ⟨t0, rfl, hT⟩ := h3
        refine ⟨_, rfl, _, _, _, _, rfl, rfl, hT, rfl, rfl, _, rfl, ifP rfl ?_⟩
        refine ⟨_, rfl, _, _, _, _, rfl, rfl, hT, rfl, by show 2 ≤ sizeLine; decide, fun t ht => fin _ t ht (fun f e => by rw [h1] at e; cases e) (by rw [hS.inp x a h1])⟩
      | fml f =>
        obtain ⟨t0, y, rfl, hT, hf⟩ := h3
        refine ⟨_, rfl, _, _, _, _, rfl, rfl, hT, rfl, rfl, _, rfl, ifN (fun z => absurd (V.str.inj z) (by decide +kernel)) ?_⟩
        refine ⟨_, rfl, _, rfl, la.sd, _, rfl, gA, la.A, _, rfl, ga, ?_⟩
        rcases a2.get x with ⟨e1, e2⟩ | ⟨a, v, e1, e2, rfl⟩
        · rw [e2]
          refine ⟨_, rfl, by show 2 ≤ sizeLine; decide, fun t ht => k t _ (Keep.refl.new ht) (.inr ⟨⟨f, h1, e1⟩, SqT.of upd_same⟩)⟩
        · rw [e2] at ga ⊢
          refine ⟨_, rfl, _, rfl, la.sd, _, rfl, gA, _, rfl, la.A, _, rfl, ga, by show 2 ≤ sizeLine; decide, fun t ht => fin _ t ht (fun f e => by rw [e1]; simp) (by rw [hU x a e1])⟩
end
end Q

namespace Q
open PySem PySem.Spec PyProof.Rows L2
theorem wor_len (U : Str → Ans) : ∀ f : Fm, (wor U f).2.length ≤ 3 ^ f.dep
  | .non => Nat.zero_le _
  | .int _ => Nat.zero_le _
  | .name _ => Nat.le_refl _
  | .cyc _ => (by show 1 ≤ 3 ^ 1; decide)
  | .op w f g => by
    have h1 := wor_len U f
    have h2 := wor_len U g
    have p1 : 3 ^ f.dep ≤ 3 ^ (max f.dep g.dep) := Nat.pow_le_pow_right (by decide) (by omega)
    have p2 : 3 ^ g.dep ≤ 3 ^ (max f.dep g.dep) := Nat.pow_le_pow_right (by decide) (by omega)
    have p3 : 3 ^ (Fm.op w f g).dep = 3 ^ (max f.dep g.dep) * 3 := by
      show 3 ^ (1 + max f.dep g.dep) = _
      rw [Nat.add_comm, Nat.pow_succ]
    rw [p3]
    unfold wor
    split
    · omega
    · split
      · split
        · show ((wor U f).2 ++ (wor U g).2).length ≤ _
          rw [List.length_append]; omega
        · omega
      · split
        · show ((wor U f).2 ++ (wor U g).2).length ≤ _
          rw [List.length_append]; omega
        · show ((wor U f).2 ++ (wor U g).2).length ≤ _
          rw [List.length_append]; omega
  | .ite c f g => by
    have h0 := wor_len U c
    have h1 := wor_len U f
    have h2 := wor_len U g
    have p0 : 3 ^ c.dep ≤ 3 ^ (max c.dep (max f.dep g.dep)) := Nat.pow_le_pow_right (by decide) (by omega)
    have p1 : 3 ^ f.dep ≤ 3 ^ (max c.dep (max f.dep g.dep)) := Nat.pow_le_pow_right (by decide) (by omega)
    have p2 : 3 ^ g.dep ≤ 3 ^ (max c.dep (max f.dep g.dep)) := Nat.pow_le_pow_right (by decide) (by omega)
    have p3 : 3 ^ (Fm.ite c f g).dep = 3 ^ (max c.dep (max f.dep g.dep)) * 3 := by
      show 3 ^ (1 + max c.dep (max f.dep g.dep)) = _
      rw [Nat.add_comm, Nat.pow_succ]
    rw [p3]
    unfold wor
    split
    · omega
    · split
      · show ((wor U c).2 ++ (wor U g).2).length ≤ _
        rw [List.length_append]; omega
      · show ((wor U c).2 ++ (wor U f).2).length ≤ _
        rw [List.length_append]; omega
/-- what is read is within the formula, and is worth what is read -/
theorem wor_in {U : Str → Ans} {p : Str → Prop} : ∀ {f : Fm}, f.In p → ∀ x a, (x, a) ∈ (wor U f).2 → p x ∧ a = U x
  | .non, _, _, _, h => nomatch h
  | .int _, _, _, _, h => nomatch h
  | .name y, hp, x, a, h => by
    have h' : (x, a) ∈ [(y, U y)] := h
    rw [List.mem_singleton] at h'
    cases h'
    exact ⟨hp, rfl⟩
  | .cyc y, hp, x, a, h => by
    have h' : (x, a) ∈ [(y, U y)] := h
    rw [List.mem_singleton] at h'
    cases h'
    exact ⟨hp, rfl⟩
  | .op w f g, hp, x, a, h => by
    have h1 := @wor_in U p f hp.1 x a
    have h2 := @wor_in U p g hp.2 x a
    unfold wor at h
    split at h
    · exact h1 h
    · split at h
      · split at h
        · exact (List.mem_append.mp h).elim h1 h2
        · exact h1 h
      · split at h
        · exact (List.mem_append.mp h).elim h1 h2
        · exact (List.mem_append.mp h).elim h1 h2
  | .ite c f g, hp, x, a, h => by
    have h0 := @wor_in U p c hp.1 x a
    have h1 := @wor_in U p f hp.2.1 x a
    have h2 := @wor_in U p g hp.2.2 x a
    unfold wor at h
    split at h
    · exact h0 h
    · split at h
      · exact (List.mem_append.mp h).elim h0 h2
      · exact (List.mem_append.mp h).elim h0 h1
/-- the reads of x so far -/
def tset (tl : Str → Told) (x : Str) (t : Told) : Str → Told := fun y => if y = x then t else tl y
theorem tset_tset (tl : Str → Told) (x : Str) (t u : Told) : tset (tset tl x t) x u = tset tl x u := by
  funext y
  unfold tset
  by_cases e : y = x
  · rw [if_pos e, if_pos e]
  · rw [if_neg e, if_neg e, if_neg e]
theorem tset_self {tl : Str → Told} {x : Str} {t : Told} (h : tl x = t) : tset tl x t = tl := by
  funext y
  unfold tset
  by_cases e : y = x
  · rw [if_pos e, e, h]
  · rw [if_neg e]
def spGo (K : PySem.W.Frag) : Sp := fun vs H Q _ => ∃ (la : LA) (rules : List (Str × Rule)) (ans : List (Str × Ans)) (fs : List Str) (adr : Str → Addr) (tl : Str → Told) (U : Str → Ans) (rk : Str → Nat) (x : Str) (f : Fm) (j : Nat), vs = [.ref la.sd, .str x] ∧
  LawAt K H la rules ans fs adr tl ∧ Sem rules U rk ∧ Snd U ans ∧ x ∈ fs ∧ rules.lookup x = some (.fml f) ∧ f.dep ≤ 4 ∧ ans.lookup x = none ∧ ans.length ≤ 24 ∧ tl x = (wor U f).2.take j ∧ j ≤ (wor U f).2.length ∧
  (∀ H', LawAt K H' la rules (ans ++ [(x, U x)]) fs adr (tset tl x (wor U f).2) → Keep [la.A, adr x] H H' → Q .non H') ∧
  (∀ y j' H', (∃ g, rules.lookup y = some (.fml g)) → ans.lookup y = none → rk y < rk x → j' ≤ (wor U f).2.length → LawAt K H' la rules ans fs adr (tset tl x ((wor U f).2.take j')) → Keep [la.A, adr x] H H' → Q (.str y) H')
theorem told_map {K : PySem.W.Frag} {H : Hp} : ∀ {l : Told} {vs : List V}, ToldAt K H l vs → ∀ (i : Nat) (v : V), vs[i]? = some v → ∃ (t : Addr) (x : Str) (a : Ans), v = .ref t ∧ l[i]? = some (x, a) ∧ SqT K H t [.str x, a.v]
  | [], [], _, _, _, h => by cases h
  | (x, a) :: l, v :: vs, z, 0, u, h => by
    obtain ⟨⟨t, e, h1⟩, _⟩ := z
    cases h
    exact ⟨t, x, a, e, rfl, h1⟩
  | (x, a) :: l, v :: vs, z, i + 1, u, h => told_map z.2 i u h
section
variable {P : Program} {w : World} {K : PySem.W.Frag} {mg : Str → Option Value} {base : Heap}
theorem ok_goon (T : Facts w K mg) : Ok P w K mg base 7 "_law_go_on" ["_law_state", "_law_name"] (spGo K) := by
  refine T.d__law_go_on.F.ok sc__law_go_on (fun vs H Q E h => ?_) (fun cdv A outer s H vs Q E hr h => ?_)
  · obtain ⟨la, rules, ans, fs, adr, tl, U, rk, x, f, j, rfl, _⟩ := h
    rfl
  · obtain ⟨la, rules, ans, fs, adr, tl, U, rk, x, f, j, rfl, hL, hS, hU, hx, hf, hd, hax, hal, htl, hj, k1, k2⟩ := h
    refine ⟨_, PSs.nox (pss_cons (ps_set (i := 2) sc__law_go_on.nd rfl (Or.inl rfl) (pe_dget (hu_of hr) (pe_dget (hu_of hr) (pv 0) pe_str (fun _ _ => rfl)) (pv 1) (fun _ _ => rfl))) 
      (pss_cons (ps_for PassesOwn.never rfl (pi_range1 (by rfl) T.b_range (pa_cons pe_int pa_nil)) (pg_name (i := 3) sc__law_go_on.nd rfl (Or.inl rfl)) (pss_cons (ps_set (i := 4) sc__law_go_on.nd rfl (Or.inl rfl) (pe_cl T.d__law_next (ok_next T 4) (hr.mono (by decide)) (pa_cons (pe_ix ix_tup (pe_dget (hu_of hr) (pe_dget (hu_of hr) (pv 0) pe_str (fun _ _ => rfl)) (pv 1) (fun _ _ => rfl)) pe_int (fun _ _ => rfl)) (pa_cons (pe_lc (own := [("_law_pair", 7)]) (g := gName 7) (by rfl) sc__law_go_on.nd (pi_list (pv 2)) (blkOk_by (N := ["_law_state", "_law_name", "_law_reads", "_law_turn", "_law_told", "_law_answers", "_law_worth_here", "_law_pair"]) (sc := defScope s__law_go_on) (own := [("_law_pair", 7)]) (by decide +kernel)) (fun _ _ _ _ _ => pg_name (i := 7) sc__law_go_on.nd rfl (Or.inl rfl)) (fun _ _ _ _ _ => pts_nil) (fun _ _ _ _ _ => (pe_ix (show IxR _ (rIxT K) from ix_tup) (pv 7) pe_int (fun _ _ => rfl)))) (pa_cons pe_int pa_nil))))) 
      (pss_cons (ps_if (pt_cmpR op_eq (pe_ix ix_tup (pv 4) pe_int (fun _ _ => rfl)) pe_str (nomark _)) (pss_cons (ps_set (i := 5) sc__law_go_on.nd rfl (Or.inl rfl) (pe_dget (hu_of hr) (pv 0) pe_str (fun _ _ => rfl))) 
      (pss_cons (ps_dput (hu_of hr) (pv 5) (pv 1) (pe_ix ix_tup (pv 4) pe_int (fun _ _ => rfl)) rfl) 
      (pss_one (ps_ret pe_non)))) pss_nil) 
      (pss_cons (ps_set (i := 6) sc__law_go_on.nd rfl (Or.inl rfl) (pe_cl T.d__law_worth (ok_lworth T) (hr.mono (by decide)) (pa_cons (pv 0) (pa_cons (pe_ix ix_tup (pv 4) pe_int (fun _ _ => rfl)) pa_nil)))) 
      (pss_cons (ps_if (pt_not (pt_val (pe_ix ix_tup (pv 6) pe_int (fun _ _ => rfl)))) (pss_one (ps_ret (pe_ix ix_tup (pv 4) pe_int (fun _ _ => rfl)))) pss_nil) 
      (pss_one (ps_expr (pe_bm PySem.F.plainAttrs_list PySem.F.slot_list_append PySem.F.type_list_append mt_append (pv 2) (pa_cons (pe_tup (pa_cons (pe_ix ix_tup (pv 4) pe_int (fun _ _ => rfl)) (pa_cons (pe_ix ix_tup (pv 6) pe_int (fun _ _ => rfl)) pa_nil))) pa_nil))))))))) 
      (pss_one (ps_ret pe_non)))), ?_⟩
    obtain ⟨hUx, hin, _⟩ := hS.fml x f hf
    have hlen := wor_len U f
    have h81 : 3 ^ f.dep ≤ 3 ^ 4 := Nat.pow_le_pow_right (by decide) hd
    have h81' : (wor U f).2.length ≤ 81 := Nat.le_trans hlen (Nat.le_trans h81 (by decide))
    generalize hLL : (wor U f).2 = L at *
    have gD : ∀ {H' tl'}, LawAt K H' la rules ans fs adr tl' → DGet H' la.sd (.str "reads") (some (.ref la.D)) := fun h => by
      have := DGet.k (k := Sum.inr "reads") h.s
      rw [lv_reads] at this
      exact this
    have gR : ∀ {H' tl'}, LawAt K H' la rules ans fs adr tl' → DGet H' la.sd (.str "rules") (some (.ref la.R)) := fun h => by
      have := DGet.k (k := Sum.inr "rules") h.s
      rw [lv_rules] at this
      exact this
    have gA : ∀ {H' tl'}, LawAt K H' la rules ans fs adr tl' → DGet H' la.sd (.str "answers") (some (.ref la.A)) := fun h => by
      have := DGet.k (k := Sum.inr "answers") h.s
      rw [lv_answers] at this
      exact this
    have gx : DGet H la.D (.str x) (some (.ref (adr x))) := by
      have := DGet.k (k := Sum.inr x) hL.d
      rw [valV_mapS _ hx] at this
      exact this
    refine ⟨_, rfl, la.sd, _, rfl, gD hL, _, rfl, la.D, _, rfl, gx, ?_⟩
    refine ⟨_, rfl, by decide, by decide, for_range (lo := 0) (n := (400 : Int).toNat) (fun i σ H' => ∃ (a3 a4 a5 a6 a7 : Option V) (j' : Nat), σ = [some (.ref la.sd), some (.str x), some (.ref (adr x)), a3, a4, a5, a6, a7] ∧ i ≤ j' ∧ j' ≤ L.length ∧ LawAt K H' la rules ans fs adr (tset tl x (L.take j')) ∧ Keep [adr x] H H') ⟨none, none, none, none, none, j, rfl, Nat.zero_le _, hj, by rw [tset_self htl]; exact hL, Keep.refl⟩ ?_ ?_⟩
    rotate_left
    · rintro σ H' ⟨a3, a4, a5, a6, a7, j', rfl, h1, h2, _⟩
      have : 400 ≤ j' := h1
      omega
    · rintro i σ H1 hi ⟨a3, a4, a5, a6, a7, j', rfl, hj1, hj2, L1, kk1⟩
      obtain ⟨kr, r1, r2⟩ := L1.r
      obtain ⟨v, hv, t0, y, rfl, hT, hfy⟩ := r2.yes hf
      have gxR : DGet H1 la.R (.str x) (some (.ref t0)) := by
        have := DGet.k (k := Sum.inr x) r1
        rw [hv] at this
        exact this
      obtain ⟨vs, hvs, hts⟩ := L1.dd x hx
      have htx : tset tl x (L.take j') x = L.take j' := if_pos rfl
      rw [htx] at hts
      have hvl : vs.length = j' := by rw [hts.len, List.length_take]; omega
      refine ⟨_, rfl, la.sd, _, rfl, gR L1, _, rfl, la.R, _, rfl, gxR, _, _, _, _, rfl, rfl, hT, rfl, ?_⟩
      refine ⟨_, rfl, adr x, rfl, ⟨_, SqL.of hvs⟩, fun D hD => lc_list (K := K) (a := adr x) (xs := vs) (fun i H' => H' D = some (.lst ((toldV L j').take i)) ∧ Keep [] H1 H')
        ⟨upd_same, Keep.refl.new hD⟩ (fun i H' _ ⟨_, q⟩ => q.lst (SqL.of hvs) (by simp)) ?_ ?_⟩
      · rintro m u H2 hm ⟨q1, q2⟩
        obtain ⟨t, z, a, rfl, e1, e2⟩ := told_map hts m u hm
        have hm' : m < j' := by
          have := (List.getElem?_eq_some_iff.mp hm).1
          omega
        have e3 : (toldV L j')[m]? = some a.v := by
          unfold toldV
          rw [List.getElem?_map, e1]
          rfl
        refine ⟨rfl, _, rfl, _, _, _, _, rfl, rfl, q2.tup e2, rfl, _, q1, ?_, ?_, q2.new hD⟩
        · rw [List.length_take]
          exact small1000 (by omega)
        · rw [upd_same, List.take_add_one, e3]
          rfl
      · rintro H2 ⟨q1, q2⟩
        rw [hvl, List.take_of_length_le (by rw [toldV_len hj2]; exact Nat.le_refl _)] at q1
        dsimp only [tNil]
        refine ⟨U, D, f, y, L, j', 0, rfl, hS.nc, hfy.keep q2, hd, q1, hj2, by omega, Nat.zero_le _, ⟨[], by rw [hLL]; simp⟩, fun t H3 k3 n3 => ?_⟩
        have L3 := (L1.keep0 q2).keep0 k3
        have kk3 : Keep [adr x] H H3 := (kk1.trans q2.of0).trans k3.of0
        rcases n3 with ⟨e1, s1⟩ | ⟨e1, z, za, zi, e2, s1⟩
        · refine ⟨_, rfl, _, _, _, _, rfl, rfl, s1, rfl, rfl, _, rfl, ifP rfl ?_⟩
          obtain ⟨ka, a1, a2⟩ := L3.a
          refine ⟨_, rfl, la.sd, _, rfl, gA L3, ?_⟩
          refine ⟨_, rfl, _, _, _, _, rfl, rfl, s1, rfl, _, rfl, _, rfl, la.A, _, rfl, DPut.k (k := Sum.inr x) a1 (small1000 (by rw [a2.len]; omega)), ?_⟩
          have ej : L.take j' = L := List.take_of_length_le (by rw [hLL] at e1; omega)
          rw [ej] at L3
          have ha' := a2.put (x := x) (a := U x) (v := (wor U f).1.v) (by rw [hUx]) hax
          exact k1 _ (L3.setA ha') ((kk3.mono (by simp)).upd (by simp) L3.mutA)
        · have hzL : (z, za) ∈ (wor U f).2 := by rw [hLL]; exact List.mem_of_getElem? e2
          obtain ⟨hz1, hz2⟩ := wor_in hin z za hzL
          refine ⟨_, rfl, _, _, _, _, rfl, rfl, s1, rfl, rfl, _, rfl, ifN (fun z => absurd (V.str.inj z) (by decide +kernel)) ?_⟩
          refine ⟨_, rfl, _, rfl, _, _, _, _, rfl, rfl, s1, rfl, ?_⟩
          dsimp only [tNil]
          refine ⟨la, rules, ans, fs, adr, _, U, rk, z, rfl, L3, hS, hU, fun t2 H4 k4 w4 => ?_⟩
          have L4 := L3.keep0 k4
          have kk4 : Keep [adr x] H H4 := kk3.trans k4.of0
          have s1' := k4.tup s1
          rcases w4 with ⟨_, s2⟩ | ⟨⟨g, hg, hn⟩, s2⟩
          · refine ⟨_, rfl, _, _, _, _, rfl, rfl, s2, rfl, _, rfl, ?_⟩
            obtain ⟨us, hus, htu⟩ := L4.dd x hx
            rw [htx] at htu
            have hul : us.length = j' := by rw [htu.len, List.length_take]; omega
            refine ⟨_, rfl, .inl ⟨rfl, _, SqL.of hus⟩, _, rfl, _, _, _, _, rfl, rfl, s1', rfl, _, rfl, _, _, _, _, rfl, rfl, s2, rfl, by show 2 ≤ sizeLine; decide, fun t5 ht5 => ?_⟩
            have k5 : Keep [] H4 (upd H4 t5 (.tup [.str z, (U z).v])) := Keep.refl.new ht5
            refine ⟨adr x, _, _, rfl, rfl, k5.k _ _ (by simp) hus, small1000 (by omega), ?_⟩
            have hj3 : j' < L.length := (List.getElem?_eq_some_iff.mp e2).1
            have et : L.take (j' + 1) = L.take j' ++ [(z, U z)] := by
              rw [List.take_add_one, e2, hz2]
              rfl
            have hts5 : ToldAt K (upd H4 t5 (.tup [.str z, (U z).v])) (L.take (j' + 1)) (us ++ [.ref t5]) := by
              rw [et]
              exact (htu.keep k5).snoc (SqT.of upd_same)
            have L5 := (L4.keep0 k5).setT hx hts5
            have L5' : LawAt K _ la rules ans fs adr (tset (tset tl x (L.take j')) x (L.take (j' + 1))) := L5
            rw [tset_tset] at L5'
            exact ⟨_, _, _, _, _, j' + 1, rfl, by omega, by omega, L5', (kk4.trans k5.of0).upd (by simp) (by rw [k5.k _ _ (by simp) hus]; trivial)⟩
          · refine ⟨_, rfl, _, _, _, _, rfl, rfl, s2, rfl, _, rfl, ?_⟩
            refine ⟨_, rfl, _, _, _, _, rfl, rfl, s1', rfl, ?_⟩
            exact k2 z j' H4 ⟨g, hg⟩ hn hz1 hj2 L4 (kk4.mono (by simp))
end
end Q

namespace Q
open PySem PySem.Spec PyProof.Rows L2
theorem Keep.fresh {M M' : List Addr} {H H1 H2 : Hp} (a : Keep M' H H1) (b : Keep M H1 H2) (h : ∀ x ∈ M, H x = none) : Keep M' H H2 :=
  ⟨fun c o n e => b.k c o (fun z => by rw [h c z] at e; cases e) (a.k c o n e), fun c o s e => b.t c o s (a.t c o s e), fun c e => a.n c (b.n c e)⟩
theorem Keep.unlock {M : List Addr} {H H' : Hp} {d : Addr} {u : HO} {od : Obj} (e : H d = some u) (k : Keep M (L2.upd H d (.frz od u)) H') : Keep M H (L2.upd H' d u) := by
  refine ⟨fun c o n q => ?_, fun c o s q => ?_, fun c q => ?_⟩
  · by_cases z : c = d
    · rw [z, upd_same]
      rw [z, e] at q
      exact q
    · rw [upd_ne z]
      exact k.k c o n (by rw [upd_ne z]; exact q)
  · by_cases z : c = d
    · rw [z, upd_same]
      rw [z, e] at q
      exact q
    · rw [upd_ne z]
      exact k.t c o s (by rw [upd_ne z]; exact q)
  · by_cases z : c = d
    · rw [z, upd_same] at q; cases q
    · rw [upd_ne z] at q
      have := k.n c q
      rw [upd_ne z] at this
      exact this
/-! ### no rings among none -/
def spRings : Sp := fun vs H Q _ => ∃ (a : Addr), vs = [.ref a] ∧ H a = some (.dK []) ∧ ∀ l H', H' l = some (.lst []) → Keep [] H H' → Q (.ref l) H'
def isFm (rules : List (Str × Rule)) (x : Str) : Bool := match rules.lookup x with
  | some (.fml _) => true
  | _ => false
theorem isFm_iff {rules : List (Str × Rule)} {x : Str} : isFm rules x = true ↔ ∃ f, rules.lookup x = some (.fml f) := by
  unfold isFm
  split
  · rename_i f h
    exact ⟨fun _ => ⟨f, h⟩, fun _ => rfl⟩
  · rename_i h
    exact ⟨(fun z => by cases z), fun ⟨f, e⟩ => absurd e (h f)⟩
def fmls (rules : List (Str × Rule)) : List Str := (rules.map (·.1)).filter (isFm rules)
def spFrom (K : PySem.W.Frag) : Sp := fun vs H Q _ => ∃ (R : Addr) (rules : List (Str × Rule)) (kr : List (Key × V)) (U : Str → Ans) (rk : Str → Nat), vs = [.ref R] ∧ H R = some (.dK kr) ∧ KvAt (RuleAt K H) rules kr ∧ Sem rules U rk ∧ (rules.map (·.1)).Nodup ∧ (∀ x f, rules.lookup x = some (.fml f) → f.dep ≤ 4) ∧
  ∀ (la : LA) (ans : List (Str × Ans)) (adr : Str → Addr) (tl : Str → Told) (H' : Hp), la.R = R → LawAt K H' la rules ans (fmls rules) adr tl → Snd U ans → (∀ x f, rules.lookup x = some (.fml f) → ans.lookup x ≠ none ∧ tl x = (wor U f).2) →
    H la.sd = none → H la.A = none → H la.D = none → H la.L = none → (∀ x ∈ fmls rules, H (adr x) = none) → Keep [] H H' → Q (.ref la.sd) H'
theorem valV_mapN {x : Str} (g : Str → V) : ∀ {fs : List Str}, x ∉ fs → valV (fs.map fun x => ((Sum.inr x : Key), g x)) (Sum.inr x) = none
  | [], _ => rfl
  | y :: fs, hx => by
    rw [List.map_cons, valV_neg (fun z => hx (by rw [← Sum.inr.inj z]; exact List.mem_cons_self ..))]
    exact valV_mapN g fun z => hx (List.mem_cons_of_mem _ z)
theorem KvAt.nth {α : Type} {R : α → V → Prop} : ∀ {l : List (Str × α)} {m : List (Key × V)}, KvAt R l m → ∀ (i : Nat) (k : Key) (v : V), m[i]? = some (k, v) → ∃ z a, l[i]? = some (z, a) ∧ k = Sum.inr z ∧ R a v
  | [], [], _, i, k, v, h => by cases h
  | (x, a) :: l, (k0, v0) :: m, z, 0, k, v, h => by
    cases h
    exact ⟨x, a, rfl, z.1, z.2.1⟩
  | (x, a) :: l, (k0, v0) :: m, z, i + 1, k, v, h => KvAt.nth z.2.2 i k v h
/-- what is known of answers and reads -/
structure Mid (rules : List (Str × Rule)) (U : Str → Ans) (ans : List (Str × Ans)) (tl : Str → Told) : Prop where
  snd : Snd U ans
  nd : (ans.map (·.1)).Nodup
  key : ∀ x, ans.lookup x ≠ none → x ∈ fmls rules
  tl1 : ∀ x f, rules.lookup x = some (.fml f) → ans.lookup x ≠ none → tl x = (wor U f).2
  tl0 : ∀ x f, rules.lookup x = some (.fml f) → ∃ j, j ≤ (wor U f).2.length ∧ tl x = (wor U f).2.take j
section
variable {K : PySem.W.Frag} {H : Hp} {la : LA} {rules : List (Str × Rule)} {U : Str → Ans} {rk : Str → Nat} {ans : List (Str × Ans)} {fs : List Str} {adr : Str → Addr} {tl : Str → Told}
theorem fmls_len (hS : Sem rules U rk) : (fmls rules).length ≤ 24 := by
  have := List.length_filter_le (isFm rules) (rules.map (·.1))
  rw [List.length_map] at this
  exact Nat.le_trans this hS.few
theorem fmls_mem {x : Str} {f : Fm} (h : rules.lookup x = some (.fml f)) : x ∈ fmls rules :=
  List.mem_filter.mpr ⟨lookup_key.mp (by rw [h]; exact fun z => by cases z), isFm_iff.mpr ⟨f, h⟩⟩
theorem fmls_get {x : Str} (h : x ∈ fmls rules) : ∃ f, rules.lookup x = some (.fml f) := isFm_iff.mp (List.mem_filter.mp h).2
theorem Mid.len (m : Mid rules U ans tl) (hS : Sem rules U rk) : ans.length ≤ (fmls rules).length := by
  have := nodup_len m.nd (m := fmls rules) fun x hx => m.key x (lookup_key.mpr hx)
  rw [List.length_map] at this
  exact this
theorem Mid.answer (m : Mid rules U ans tl) {x : Str} {f : Fm} (hf : rules.lookup x = some (.fml f)) (hn : ans.lookup x = none) : Mid rules U (ans ++ [(x, U x)]) (tset tl x (wor U f).2) := by
  refine ⟨fun y a h => ?_, ?_, fun y h => ?_, fun y g hg h => ?_, fun y g hg => ?_⟩
  · rw [lookup_snoc] at h
    split at h
    · split at h
      · rename_i e
        rw [e]
        cases h
        rfl
      · cases h
    · exact m.snd y a h
  · rw [List.map_append]
    exact nd_snoc m.nd fun z => (lookup_key.mpr z) hn
  · by_cases e : y = x
    · rw [e]; exact fmls_mem hf
    · rw [lookup_snoc] at h
      split at h
      · exact absurd rfl h
      · exact m.key y h
  · unfold tset
    by_cases e : y = x
    · rw [if_pos e]
      rw [e, hf] at hg
      cases hg
      rfl
    · rw [if_neg e]
      rw [lookup_snoc] at h
      split at h
      · exact absurd rfl h
      · exact m.tl1 y g hg h
  · unfold tset
    by_cases e : y = x
    · rw [if_pos e]
      rw [e, hf] at hg
      cases hg
      exact ⟨_, Nat.le_refl _, (List.take_length).symm⟩
    · rw [if_neg e]
      exact m.tl0 y g hg
theorem Mid.stuck (m : Mid rules U ans tl) {x : Str} {f : Fm} (hf : rules.lookup x = some (.fml f)) (hn : ans.lookup x = none) {j : Nat} (hj : j ≤ (wor U f).2.length) : Mid rules U ans (tset tl x ((wor U f).2.take j)) := by
  refine ⟨m.snd, m.nd, m.key, fun y g hg h => ?_, fun y g hg => ?_⟩
  · unfold tset
    by_cases e : y = x
    · rw [e] at h; exact absurd hn h
    · rw [if_neg e]; exact m.tl1 y g hg h
  · unfold tset
    by_cases e : y = x
    · rw [if_pos e]
      rw [e, hf] at hg
      cases hg
      exact ⟨j, hj, rfl⟩
    · rw [if_neg e]; exact m.tl0 y g hg
/-- a formula's list of reads is made -/
theorem LawAt.addF (h : LawAt K H la rules ans fs adr tl) {x : Str} {q : Addr} (hx : x ∉ fs) (hq : H q = none) : LawAt K (upd (upd H q (.lst [])) la.D (.dK (putK (fs.map fun x => ((Sum.inr x : Key), V.ref (adr x))) (Sum.inr x) (.ref q)))) la rules ans (fs ++ [x]) (fun y => if y = x then q else adr y) (tset tl x []) := by
  have k1 : Keep [] H (upd H q (.lst [])) := Keep.refl.new hq
  have h1 := h.keep0 k1
  have k : Keep [la.D] (upd H q (.lst [])) (upd (upd H q (.lst [])) la.D (.dK (putK (fs.map fun x => ((Sum.inr x : Key), V.ref (adr x))) (Sum.inr x) (.ref q)))) := Keep.refl.upd (by simp) h1.mutD
  obtain ⟨kr, r1, r2⟩ := h1.r
  obtain ⟨ka, a1, a2⟩ := h1.a
  obtain ⟨kl, l1⟩ := h1.l
  have th := h.there
  have n := h.n
  simp only [List.nodup_cons, List.mem_cons, List.not_mem_nil, or_false, not_or, List.nodup_nil, and_true, not_false_eq_true] at n
  obtain ⟨⟨n1, n2, n3, n4⟩, ⟨n5, n6, n7⟩, ⟨n8, n9⟩, n10⟩ := n
  have hv : valV (fs.map fun x => ((Sum.inr x : Key), V.ref (adr x))) (Sum.inr x) = none := valV_mapN _ hx
  have nq : ∀ y ∈ fs, adr y ≠ q := fun y hy z => th.2.2.2.2.2 y hy (by rw [z]; exact hq)
  have hqD : q ≠ la.D := fun z => th.2.2.2.1 (by rw [← z]; exact hq)
  have nx : ∀ y ∈ fs, y ≠ x := fun y hy z => hx (by rw [← z]; exact hy)
  refine ⟨?_, ⟨kr, ?_, r2.imp fun _ _ z => z.keep k⟩, ⟨ka, ?_, a2⟩, ?_, fun y hy => ?_, fun y hy z hz => ?_, ⟨kl, ?_⟩, h.n⟩
  · rw [upd_ne n3]; exact h1.s
  · rw [upd_ne n6]; exact r1
  · rw [upd_ne n8]; exact a1
  · rw [upd_same, putK_new _ hv, List.map_append]
    congr 3
    · refine List.map_congr_left fun y hy => ?_
      rw [if_neg (nx y hy)]
    · rw [List.map_singleton, if_pos rfl]
  · rcases List.mem_append.mp hy with hy | hy
    · obtain ⟨vs, e, t⟩ := h1.dd y hy
      refine ⟨vs, ?_, ?_⟩
      · rw [if_neg (nx y hy), upd_ne (fun z => by rw [z, h1.d] at e; cases e)]
        exact e
      · unfold tset
        rw [if_neg (nx y hy)]
        exact t.keep k
    · rw [List.mem_singleton.mp hy]
      refine ⟨[], ?_, ?_⟩
      · rw [if_pos rfl, upd_ne hqD, upd_same]
      · unfold tset
        rw [if_pos rfl]
        trivial
  · intro e
    rcases List.mem_append.mp hy with hy | hy <;> rcases List.mem_append.mp hz with hz | hz
    · rw [if_neg (nx y hy), if_neg (nx z hz)] at e
      exact h.di y hy z hz e
    · rw [List.mem_singleton.mp hz, if_neg (nx y hy), if_pos rfl] at e
      exact absurd e (nq y hy)
    · rw [List.mem_singleton.mp hy, if_neg (nx z hz), if_pos rfl] at e
      exact absurd e.symm (nq z hz)
    · rw [List.mem_singleton.mp hy, List.mem_singleton.mp hz]
  · rw [upd_ne (Ne.symm n10)]; exact l1
theorem LawAt.setL (h : LawAt K H la rules ans fs adr tl) (kl : List (Key × V)) : LawAt K (upd H la.L (.dK kl)) la rules ans fs adr tl := by
  have k : Keep [la.L] H (upd H la.L (.dK kl)) := Keep.refl.upd (by simp) h.mutL
  obtain ⟨kr, r1, r2⟩ := h.r
  obtain ⟨ka, a1, a2⟩ := h.a
  obtain ⟨kl0, l1⟩ := h.l
  have n := h.n
  simp only [List.nodup_cons, List.mem_cons, List.not_mem_nil, or_false, not_or, List.nodup_nil, and_true, not_false_eq_true] at n
  obtain ⟨⟨n1, n2, n3, n4⟩, ⟨n5, n6, n7⟩, ⟨n8, n9⟩, n10⟩ := n
  refine ⟨?_, ⟨kr, ?_, r2.imp fun _ _ z => z.keep k⟩, ⟨ka, ?_, a2⟩, ?_, fun y hy => ?_, h.di, ⟨kl, upd_same⟩, h.n⟩
  · rw [upd_ne n4]; exact h.s
  · rw [upd_ne n7]; exact r1
  · rw [upd_ne n9]; exact a1
  · rw [upd_ne n10]; exact h.d
  · obtain ⟨vs, e, t⟩ := h.dd y hy
    refine ⟨vs, ?_, t.keep k⟩
    rw [upd_ne (fun z => by rw [z, l1] at e; cases e)]
    exact e
end
/-- nothing was answered in a turn: all was answered before it -/
theorem all_of {fs : List Str} {rk : Str → Nat} {ans : List (Str × Ans)} (h : ∀ y ∈ fs, ans.lookup y = none → ∃ z ∈ fs, rk z < rk y ∧ ans.lookup z = none) : ∀ n, ∀ y ∈ fs, rk y < n → ans.lookup y ≠ none
  | 0, y, _, hn => absurd hn (Nat.not_lt_zero _)
  | n + 1, y, hy, hn => fun e => by
    obtain ⟨z, hz, hr, e2⟩ := h y hy e
    exact all_of h n z hz (by omega) e2
theorem lookup_pre {l m : List (Str × Ans)} {x : Str} (h : l <+: m) (e : l.lookup x ≠ none) : m.lookup x ≠ none := by
  obtain ⟨r, rfl⟩ := h
  have := lookup_key.mp e
  exact lookup_key.mpr (by rw [List.map_append]; exact List.mem_append_left _ this)
section
variable {P : Program} {w : World} {K : PySem.W.Frag} {mg : Str → Option Value} {base : Heap}
theorem ok_rings (T : Facts w K mg) : Ok P w K mg base 1 "_law_rings" ["_law_asked"] spRings := by
  refine T.d__law_rings.F.ok sc__law_rings (fun vs H Q E h => ?_) (fun cdv A outer s H vs Q E hr h => ?_)
  · obtain ⟨a, rfl, _⟩ := h
    rfl
  · obtain ⟨a, rfl, ha, k⟩ := h
    refine ⟨_, PSs.nox (pss_cons (ps_set (i := 1) sc__law_rings.nd rfl (Or.inl rfl) (pe_lst pa_nil)) 
      (pss_cons (ps_lock (ps_for PassesOwn.never rfl (pi_keys (pv 0)) (pg_name (i := 2) sc__law_rings.nd rfl (Or.inl rfl)) pss_never)) 
      (pss_one (ps_ret (pv 1))))), ?_⟩
    refine ⟨by show 0 ≤ sizeLine; decide, fun l hl => ?_⟩
    have hal : a ≠ l := ne_of_none ha hl
    have ha1 : (upd H l (.lst [])) a = some (.dK []) := by rw [upd_ne hal]; exact ha
    refine ⟨a, _, ha1, trivial, fun od => ?_⟩
    refine ⟨_, rfl, a, od, rfl, .inl ⟨[], upd_same, for_it walk_keys (fun i σ H' => σ = [some (.ref a), some (.ref l), none, none, none] ∧ H' = upd (upd H l (.lst [])) a (.frz od (.dK []))) ⟨rfl, rfl⟩ (fun i σ H' _ q => by rw [q.2]; exact upd_same) ?_ ?_⟩⟩
    · intro i x σ H1 H2 hi
      exact absurd hi (Nat.not_lt_zero _)
    · rintro σ H' ⟨rfl, rfl⟩
      refine ⟨upd_same, _, rfl, k l _ ?_ (Keep.unlock ha1 Keep.refl |> fun z => (Keep.refl.new hl).trans z)⟩
      rw [upd_ne hal.symm, upd_ne hal.symm]
      exact upd_same
theorem ok_from (T : Facts w K mg) : Ok P w K mg base 8 "_law_from_nothing" ["_law_rules"] (spFrom K) := by
  refine T.d__law_from_nothing.F.ok sc__law_from_nothing (fun vs H Q E h => ?_) (fun cdv A outer s H vs Q E hr h => ?_)
  · obtain ⟨R, rules, kr, U, rk, rfl, _⟩ := h
    rfl
  · obtain ⟨R, rules, kr, U, rk, rfl, r1, r2, hS, hnd, hd, k⟩ := h
    refine ⟨_, PSs.nox (pss_cons (ps_lock (ps_setLc (i := 1) (own := [("_law_name", 6)]) (g := gName 6) (by rfl) sc__law_from_nothing.nd rfl rfl (sw_true rfl rfl rfl (by decide +kernel)) (pi_keys (pv 0)) (blkOk_by (N := ["_law_rules", "_law_formulas", "_law_state", "_law_reads", "_law_last", "_law_answers", "_law_name", "_law_turn", "_law_asked", "_law_before", "_law_other"]) (sc := defScope s__law_from_nothing) (own := [("_law_name", 6)]) (by decide +kernel)) (fun _ _ _ _ _ => pg_name (i := 6) sc__law_from_nothing.nd rfl (Or.inl rfl)) (fun _ _ _ _ _ => (pts_one (pt_cmpR op_eq (pe_ix (show IxR _ (rIxT K) from ix_tup) (pe_dget (hu_of hr) (pv 0) (pv 6) (fun _ _ => rfl)) pe_int (fun _ _ => rfl)) pe_str (nomark _)))) (fun _ _ _ _ _ => (pv 6)))) 
      (pss_cons (ps_set (i := 2) sc__law_from_nothing.nd rfl (Or.inl rfl) (pe_disp (pps_cons pe_str (pv 0) (pps_cons pe_str pe_dnewK (pps_cons pe_str pe_dnewK (pps_cons pe_str pe_dnewK pps_nil)))) (by rfl) (by rfl) (fun z => by cases z) (by decide))) 
      (pss_cons (ps_set (i := 3) sc__law_from_nothing.nd rfl (Or.inl rfl) (pe_dget (hu_of hr) (pv 2) pe_str (fun _ _ => rfl))) 
      (pss_cons (ps_set (i := 4) sc__law_from_nothing.nd rfl (Or.inl rfl) (pe_dget (hu_of hr) (pv 2) pe_str (fun _ _ => rfl))) 
      (pss_cons (ps_set (i := 5) sc__law_from_nothing.nd rfl (Or.inl rfl) (pe_dget (hu_of hr) (pv 2) pe_str (fun _ _ => rfl))) 
      (pss_cons (ps_for PassesOwn.never rfl (pi_list (pv 1)) (pg_name (i := 6) sc__law_from_nothing.nd rfl (Or.inl rfl)) (pss_cons (ps_dput (hu_of hr) (pv 3) (pv 6) (pe_lst pa_nil) rfl) 
      (pss_one (ps_dput (hu_of hr) (pv 4) (pv 6) pe_non rfl)))) 
      (pss_cons (ps_for PassesOwn.never rfl (pi_range1 (by rfl) T.b_range (pa_cons (pe_op op_add (pe_op op_mul (pe_op op_mul pe_int (pe_callB call_len_seq (by rfl) T.b_len PySem.boot_len (pa_cons (pv 1) pa_nil))) (pe_callB call_len_seq (by rfl) T.b_len PySem.boot_len (pa_cons (pv 1) pa_nil))) pe_int) pa_nil)) (pg_name (i := 7) sc__law_from_nothing.nd rfl (Or.inl rfl)) (pss_cons (ps_set (i := 8) sc__law_from_nothing.nd rfl (Or.inl rfl) pe_dnewK) 
      (pss_cons (ps_set (i := 9) sc__law_from_nothing.nd rfl (Or.inl rfl) (pe_callB call_lenD (by rfl) T.b_len PySem.boot_len (pa_cons (pv 5) pa_nil))) 
      (pss_cons (ps_for PassesOwn.never rfl (pi_list (pv 1)) (pg_name (i := 6) sc__law_from_nothing.nd rfl (Or.inl rfl)) (pss_one (ps_if (pt_cmp (pc_dnotin (hu_of hr) (pv 6) (pv 5))) (pss_cons (ps_set (i := 10) sc__law_from_nothing.nd rfl (Or.inl rfl) (pe_cl T.d__law_go_on (ok_goon T) (hr.mono (by decide)) (pa_cons (pv 2) (pa_cons (pv 6) pa_nil)))) 
      (pss_one (ps_if (pt_cmpR op_notN (pv 10) pe_non (nomark _)) (pss_one (ps_dput (hu_of hr) (pv 8) (pv 6) (pv 10) rfl)) pss_nil))) pss_nil))) 
      (pss_one (ps_if (pt_cmpR op_eq (pe_callB call_lenD (by rfl) T.b_len PySem.boot_len (pa_cons (pv 5) pa_nil)) (pv 9) (nomark _)) (pss_one (ps_for PassesOwn.never rfl (pi_list (pe_cl T.d__law_rings (ok_rings T) (hr.mono (by decide)) (pa_cons (pv 8) pa_nil))) (pg_name (i := 6) sc__law_from_nothing.nd rfl (Or.inl rfl)) (pss_cons (ps_dput (hu_of hr) (pv 5) (pv 6) pe_str rfl) 
      (pss_one (ps_dput (hu_of hr) (pv 4) (pv 6) (pe_dget (hu_of hr) (pv 8) (pv 6) (fun _ _ => rfl)) rfl))))) pss_nil)))))) 
      (pss_one (ps_ret (pv 2)))))))))), ?_⟩
    have hF := fmls_len hS
    refine ⟨R, _, r1, trivial, fun od => ?_⟩
    refine ⟨_, rfl, R, od, rfl, .inl ⟨kr, upd_same, fun fl hfl => lc_it walk_keys (fun i H' => H' fl = some (.lst ((((rules.map (·.1)).take i).filter (isFm rules)).map V.str)) ∧ Keep [] (upd H R (.frz od (.dK kr))) H')
      ⟨upd_same, Keep.refl.new hfl⟩ (fun i H' _ q => q.2.k _ _ (by simp) upd_same) ?_ ?_⟩⟩
    · rintro i x H1 H2 hi ⟨q1, q2⟩ ⟨rfl, kk, v, hk, rfl⟩
      obtain ⟨z, r0, e1, rfl, _⟩ := r2.nth i kk v hk
      have ez : (rules.map (·.1))[i]? = some z := by rw [List.getElem?_map, e1]; rfl
      have et : (rules.map (·.1)).take (i + 1) = (rules.map (·.1)).take i ++ [z] := by rw [List.take_add_one, ez]; rfl
      have hlen : (((rules.map (·.1)).take i).filter (isFm rules)).length ≤ 24 := by
        have h1 := List.length_filter_le (isFm rules) ((rules.map (·.1)).take i)
        rw [List.length_take, List.length_map] at h1
        have := hS.few
        omega
      rcases r2.get z with ⟨h1, _⟩ | ⟨r, v', h1, h2, h3⟩
      · exact absurd h1 (lookup_key.mpr (List.mem_of_getElem? ez))
      have g : DGet H2 R (.str z) (some v') := by
        rw [← h2]
        exact .inl ⟨kr, Sum.inr z, .inr ⟨od, q2.k _ _ (by simp) upd_same⟩, rfl, rfl⟩
      have k0 : Keep [R] H H2 := (Keep.refl.upd (by simp) (by rw [r1]; trivial)).trans q2.of0
      cases r with
      | inp a =>
        obtain ⟨t0, rfl, hT⟩ := h3
        refine ⟨rfl, _, rfl, _, rfl, R, _, rfl, g, _, _, _, _, rfl, rfl, k0.tup hT, rfl, rfl, _, rfl, ?_⟩
        rw [decide_eq_false (show ¬ V.str "input" = V.str "formula" from fun z => absurd (V.str.inj z) (by decide +kernel))]
        refine iteF ⟨?_, q2⟩
        have ef : isFm rules z = false := by unfold isFm; rw [h1]
        rw [et, List.filter_append, List.filter_cons_of_neg (by rw [ef]; simp), List.filter_nil, List.append_nil]
        exact q1
      | fml f =>
        obtain ⟨t0, y, rfl, hT, _⟩ := h3
        refine ⟨rfl, _, rfl, _, rfl, R, _, rfl, g, _, _, _, _, rfl, rfl, k0.tup hT, rfl, rfl, _, rfl, ?_⟩
        rw [decide_eq_true (show V.str "formula" = V.str "formula" from rfl)]
        refine iteT ⟨_, rfl, _, q1, by rw [List.length_map]; exact small1000 (by omega), ?_, q2.new hfl⟩
        have ef : isFm rules z = true := isFm_iff.mpr ⟨f, h1⟩
        rw [upd_same, et, List.filter_append, List.filter_cons_of_pos ef, List.filter_nil, List.map_append]
        rfl
    · rintro H1 ⟨q1, q2⟩
      refine ⟨q2.k _ _ (by simp) upd_same, ?_⟩
      have nflR : fl ≠ R := fun z => by rw [z, upd_same] at hfl; cases hfl
      have kf : Keep [] H (upd H1 R (.dK kr)) := Keep.unlock r1 q2
      have hfl0 : H fl = none := upd_none hfl
      have q1' : (upd H1 R (.dK kr)) fl = some (.lst ((fmls rules).map V.str)) := by
        have et : (rules.map (·.1)).take kr.length = rules.map (·.1) := List.take_of_length_le (by rw [List.length_map, r2.len]; exact Nat.le_refl _)
        rw [et] at q1
        rw [upd_ne nflR]
        exact q1
      have rR : (upd H1 R (.dK kr)) R = some (.dK kr) := upd_same
      have r2f := r2.imp (fun _ _ z => z.keep kf)
      generalize upd H1 R (.dK kr) = Hf at kf q1' rR r2f ⊢
      clear q1 q2 hfl
      -- the state
      intro p hp
      refine ⟨_, rfl, ?_⟩
      intro a ha d hd' l hl
      have npa : p ≠ a := ne_of_none upd_same ha
      have ha1 := upd_none ha
      have npd : p ≠ d := ne_of_none (by rw [upd_ne npa]; exact upd_same) hd'
      have nad : a ≠ d := ne_of_none upd_same hd'
      have npl : p ≠ l := ne_of_none (by rw [upd_ne npd, upd_ne npa]; exact upd_same) hl
      have nal : a ≠ l := ne_of_none (by rw [upd_ne nad]; exact upd_same) hl
      have ndl : d ≠ l := ne_of_none upd_same hl
      have hd1 := upd_none (upd_none hd')
      have hl1 := upd_none (upd_none (upd_none hl))
      have nRp : R ≠ p := ne_of_none rR hp
      have nRa : R ≠ a := ne_of_none rR ha1
      have nRd : R ≠ d := ne_of_none rR hd1
      have nRl : R ≠ l := ne_of_none rR hl1
      have gp : (upd (upd (upd (upd Hf p (.dK [])) a (.dK [])) d (.dK [])) l (.dK [])) p = some (.dK []) := by rw [upd_ne npl, upd_ne npd, upd_ne npa]; exact upd_same
      refine ⟨gp, [(.inr "rules", .ref R), (.inr "answers", .ref a), (.inr "reads", .ref d), (.inr "last", .ref l)], rfl, by show 4 ≤ 15; decide, ?_⟩
      have em : mergeK [] [((.inr "rules" : Key), V.ref R), (.inr "answers", .ref a), (.inr "reads", .ref d), (.inr "last", .ref l)] = stF ⟨p, R, a, d, l⟩ := by kernel_rfl
      rw [em]
      have kH4 : Keep [] Hf (upd (upd (upd (upd (upd Hf p (.dK [])) a (.dK [])) d (.dK [])) l (.dK [])) p (.dK (stF ⟨p, R, a, d, l⟩))) := ((((Keep.refl.new hp).new ha1).new hd1).new hl1).new hp
      have hl4 : (upd (upd (upd (upd (upd Hf p (.dK [])) a (.dK [])) d (.dK [])) l (.dK [])) p (.dK (stF ⟨p, R, a, d, l⟩))) l = some (.dK []) := by rw [upd_ne npl.symm]; exact upd_same
      have LA0 : LawAt K (upd (upd (upd (upd (upd Hf p (.dK [])) a (.dK [])) d (.dK [])) l (.dK [])) p (.dK (stF ⟨p, R, a, d, l⟩))) ⟨p, R, a, d, l⟩ rules [] [] (fun _ => 0) (fun _ => []) := by
        refine ⟨upd_same, ⟨kr, kH4.k _ _ (by simp) rR, r2f.imp fun _ _ z => z.keep kH4⟩, ⟨[], ?_, trivial⟩, ?_, by simp, by simp, ⟨[], hl4⟩, ?_⟩
        · show upd _ p _ a = _
          rw [upd_ne npa.symm, upd_ne nal, upd_ne nad]; exact upd_same
        · show upd _ p _ d = _
          rw [upd_ne npd.symm, upd_ne ndl]; exact upd_same
        · simp only [List.nodup_cons, List.mem_cons, List.not_mem_nil, or_false, not_or, List.nodup_nil, and_true, not_false_eq_true]
          exact ⟨⟨nRp.symm, npa, npd, npl⟩, ⟨nRa, nRd, nRl⟩, ⟨nad, nal⟩, ndl⟩
      generalize upd (upd (upd (upd (upd Hf p (.dK [])) a (.dK [])) d (.dK [])) l (.dK [])) p (.dK (stF ⟨p, R, a, d, l⟩)) = H4 at kH4 hl4 LA0 ⊢
      clear gp em ha hd' hl
      have gRd : DGet H4 p (.str "reads") (some (.ref d)) := by
        have := DGet.k (k := Sum.inr "reads") LA0.s
        rw [lv_reads] at this
        exact this
      have gLa : DGet H4 p (.str "last") (some (.ref l)) := by
        have := DGet.k (k := Sum.inr "last") LA0.s
        rw [lv_last] at this
        exact this
      have gAn : DGet H4 p (.str "answers") (some (.ref a)) := by
        have := DGet.k (k := Sum.inr "answers") LA0.s
        rw [lv_answers] at this
        exact this
      refine ⟨_, rfl, p, _, rfl, gRd, ?_⟩
      refine ⟨_, rfl, p, _, rfl, gLa, ?_⟩
      refine ⟨_, rfl, p, _, rfl, gAn, ?_⟩
      have hnF : (fmls rules).Nodup := hnd.filter _
      generalize hfs : fmls rules = fs at *
      have hla : (⟨p, R, a, d, l⟩ : LA).R = R := rfl
      -- the lists of reads
      refine ⟨_, rfl, fl, rfl, ⟨_, SqL.of (kH4.k _ _ (by simp) q1')⟩, for_list (K := K) (a := fl) (xs := fs.map V.str) (fun i σ H' => ∃ (a6 : Option V) (adr : Str → Addr) (tl : Str → Told) (kl : List (Key × V)), σ = [some (.ref R), some (.ref fl), some (.ref p), some (.ref d), some (.ref l), some (.ref a), a6, none, none, none, none] ∧
        LawAt K H' ⟨p, R, a, d, l⟩ rules [] (fs.take i) adr tl ∧ (∀ y ∈ fs.take i, tl y = [] ∧ Hf (adr y) = none) ∧ H' l = some (.dK kl) ∧ kl.length ≤ i ∧ Keep [] Hf H') ⟨none, _, _, [], rfl, LA0, by simp, hl4, Nat.le_refl _, kH4⟩ ?_ ?_ ?_⟩
      · rintro i σ H' _ ⟨_, _, _, _, _, _, _, _, _, kk⟩
        exact kk.lst (SqL.of q1') (by simp)
      · rintro i x σ H5 hx ⟨a6, adr, tl, kl, rfl, L5, hy, hkl, hkl2, k5⟩
        rw [List.getElem?_map] at hx
        cases ez : fs[i]? with
        | none => rw [ez] at hx; cases hx
        | some z =>
          rw [ez] at hx
          cases hx
          have hi : i < fs.length := (List.getElem?_eq_some_iff.mp ez).1
          have et : fs.take (i + 1) = fs.take i ++ [z] := by rw [List.take_add_one, ez]; rfl
          have hz : z ∉ fs.take i := fun hm => by
            obtain ⟨j, hj, e⟩ := List.mem_take_iff_getElem.mp hm
            have e2 : fs[j]? = some z := by rw [List.getElem?_eq_getElem (by omega), e]
            have := (List.getElem?_inj (by omega) hnF).mp (e2.trans ez.symm)
            omega
          refine ⟨by show 0 ≤ sizeLine; decide, fun q hq => ?_⟩
          have hq0 := k5.n q hq
          have L6 := L5.addF hz hq
          have d5 : (upd H5 q (.lst [])) d = some (.dK ((fs.take i).map fun x => ((Sum.inr x : Key), V.ref (adr x)))) := by
            have := L5.d
            rw [upd_ne (ne_of_none this hq)]
            exact this
          have l5 : (upd H5 q (.lst [])) l = some (.dK kl) := by rw [upd_ne (ne_of_none hkl hq)]; exact hkl
          refine ⟨_, rfl, _, rfl, d, _, rfl, DPut.k (k := Sum.inr z) d5 (small1000 (by rw [List.length_map, List.length_take]; omega)), ?_⟩
          have l6 : (upd (upd H5 q (.lst [])) d (.dK (putK ((fs.take i).map fun x => ((Sum.inr x : Key), V.ref (adr x))) (Sum.inr z) (.ref q)))) l = some (.dK kl) := by rw [upd_ne ndl.symm]; exact l5
          have k6 : Keep [] Hf (upd (upd H5 q (.lst [])) d (.dK (putK ((fs.take i).map fun x => ((Sum.inr x : Key), V.ref (adr x))) (Sum.inr z) (.ref q)))) := (k5.new hq0).new hd1
          have L6' : LawAt K (upd (upd H5 q (.lst [])) d (.dK (putK ((fs.take i).map fun x => ((Sum.inr x : Key), V.ref (adr x))) (Sum.inr z) (.ref q)))) ⟨p, R, a, d, l⟩ rules [] (fs.take i ++ [z]) (fun y => if y = z then q else adr y) (tset tl z []) := L6
          generalize upd (upd H5 q (.lst [])) d (.dK (putK ((fs.take i).map fun x => ((Sum.inr x : Key), V.ref (adr x))) (Sum.inr z) (.ref q))) = H6 at l6 k6 L6' ⊢
          refine ⟨_, rfl, _, rfl, l, _, rfl, DPut.k (k := Sum.inr z) l6 (small1000 (by omega)), ?_⟩
          refine ⟨_, fun y => if y = z then q else adr y, tset tl z [], _, rfl, ?_, fun y hy2 => ?_, upd_same, Nat.le_trans (length_putK _ _ _) (by omega), k6.new hl1⟩
          · rw [et]
            exact L6'.setL _
          · rw [et] at hy2
            unfold tset
            dsimp only
            rcases List.mem_append.mp hy2 with h | h
            · have ne : y ≠ z := fun e => hz (by rw [← e]; exact h)
              rw [if_neg ne, if_neg ne]
              exact hy y h
            · rw [List.mem_singleton.mp h, if_pos rfl, if_pos rfl]
              exact ⟨rfl, hq0⟩
      · rintro σ H5 ⟨a6, adr, tl, kl, rfl, L5, hy, hkl, hkl2, k5⟩
        rw [List.take_of_length_le (by rw [List.length_map]; exact Nat.le_refl _)] at L5 hy
        -- the turns
        have hF2 : fs.length ≤ 24 := hF
        have hff : fs.length * fs.length ≤ 24 * 24 := Nat.mul_le_mul hF2 hF2
        have eN : ((2 : Int) * ((fs.map V.str).length : Nat)) * ((fs.map V.str).length : Nat) + 2 = ((2 * (fs.length * fs.length) + 2 : Nat) : Int) := by
          rw [List.length_map, Int.mul_assoc]
          rfl
        have b62 : (2000 : Int) < 2 ^ 62 := by decide
        have hfl5 : H5 fl = some (.lst (fs.map V.str)) := k5.k _ _ (by simp) q1'
        refine ⟨_, rfl, fl, _, rfl, .inl (SqL.of hfl5), _, _, rfl, rfl, .inl ⟨by decide, by decide⟩, _, rfl, fl, _, rfl, .inl (SqL.of hfl5), _, _, rfl, rfl, .inr ⟨by rw [List.length_map]; omega, by rw [List.length_map]; omega⟩, _, _, rfl, rfl, _, rfl, by rw [eN]; omega, by rw [eN]; omega, ?_⟩
        have hfA : Hf a = none := ha1
        have mid0 : Mid rules U [] tl := by
          refine ⟨(fun y a h => by cases h), List.nodup_nil, fun y h => absurd rfl h, fun y f _ h => absurd rfl h, fun y f h => ⟨0, Nat.zero_le _, ?_⟩⟩
          have hm := fmls_mem h
          rw [hfs] at hm
          exact (hy y hm).1
        refine for_range (lo := 0) (n := _) (fun i σ H' => ∃ (a6 a7 a8 a9 a10 : Option V) (ans : List (Str × Ans)) (tl' : Str → Told), σ = [some (.ref R), some (.ref fl), some (.ref p), some (.ref d), some (.ref l), some (.ref a), a6, a7, a8, a9, a10] ∧
          LawAt K H' ⟨p, R, a, d, l⟩ rules ans fs adr tl' ∧ Mid rules U ans tl' ∧ Keep [] Hf H' ∧ ((∀ x ∈ fs, ans.lookup x ≠ none) ∨ i ≤ ans.length)) ⟨_, none, none, none, none, [], tl, rfl, L5, mid0, k5, .inr (Nat.zero_le _)⟩ ?_ ?_
        rotate_left
        · rintro σ H6 ⟨a6, a7, a8, a9, a10, ans, tl', rfl, L6, m6, k6, hp6⟩
          have hall : ∀ x ∈ fs, ans.lookup x ≠ none := by
            rcases hp6 with h | h
            · exact h
            · have h1 := m6.len hS
              rw [hfs] at h1
              rw [eN] at h
              have h2 : ((2 * (fs.length * fs.length) + 2 : Nat) : Int).toNat = 2 * (fs.length * fs.length) + 2 := rfl
              rw [h2] at h
              have h3 : fs.length ≤ fs.length * fs.length := Nat.le_mul_self _
              omega
          refine ⟨_, rfl, k ⟨p, R, a, d, l⟩ ans adr tl' H6 rfl ?_ m6.snd (fun x f h => ?_) (kf.n _ hp) (kf.n _ ha1) (kf.n _ hd1) (kf.n _ hl1) (fun x hx => ?_) (kf.trans k6)⟩
          · exact L6
          · have hm := fmls_mem h
            rw [hfs] at hm
            exact ⟨hall x hm, m6.tl1 x f h (hall x hm)⟩
          · exact kf.n _ (hy x hx).2
        · rintro i σ H6 hi ⟨a6, a7, a8, a9, a10, ans0, tl0, rfl, L6, m6, k6, hp6⟩
          intro q hq
          have hq0 := k6.n q hq
          have th := L6.there
          have qn : q ∉ [p, R, a, d, l] := fun z => by
            simp only [List.mem_cons, List.not_mem_nil, or_false] at z
            rcases z with rfl | rfl | rfl | rfl | rfl
            · exact th.1 hq
            · exact th.2.1 hq
            · exact th.2.2.1 hq
            · exact th.2.2.2.1 hq
            · exact th.2.2.2.2.1 hq
          have qa : ∀ y ∈ fs, adr y ≠ q := fun y hy z => th.2.2.2.2.2 y hy (by rw [z]; exact hq)
          have kq : Keep [] H6 (upd H6 q (.dK [])) := Keep.refl.new hq
          have L7 := L6.keep0 kq
          have k7 : Keep [] Hf (upd H6 q (.dK [])) := k6.trans kq
          have q7 : (upd H6 q (.dK [])) q = some (.dK []) := upd_same
          generalize upd H6 q (.dK []) = H7 at L7 k7 q7 ⊢
          obtain ⟨ka, a1, a2⟩ := L7.a
          refine ⟨_, rfl, a, ka, rfl, a1, ?_⟩
          have eka : ka.length = ans0.length := a2.len
          rw [eka]
          refine ⟨_, rfl, fl, rfl, ⟨_, SqL.of (k7.k _ _ (by simp) q1')⟩, for_list (K := K) (a := fl) (xs := fs.map V.str) (fun i' σ H' => ∃ (a6 a10 : Option V) (ans : List (Str × Ans)) (tl' : Str → Told) (kk : List (Key × V)), σ = [some (.ref R), some (.ref fl), some (.ref p), some (.ref d), some (.ref l), some (.ref a), a6, some (.int (0 + (i : Int))), some (.ref q), some (.int (ans0.length : Nat)), a10] ∧
            LawAt K H' ⟨p, R, a, d, l⟩ rules ans fs adr tl' ∧ Mid rules U ans tl' ∧ Keep [] Hf H' ∧ H' q = some (.dK kk) ∧ (kk = [] ∨ ∃ y ∈ fs, ans0.lookup y = none) ∧ kk.length ≤ i' ∧ ans0 <+: ans ∧ ∀ y ∈ fs.take i', ans.lookup y = none → ∃ z ∈ fs, rk z < rk y ∧ ans0.lookup z = none)
            ⟨_, _, ans0, tl0, [], rfl, L7, m6, k7, q7, .inl rfl, Nat.le_refl _, List.prefix_refl _, by simp⟩ ?_ ?_ ?_⟩
          · rintro i' σ H' _ ⟨_, _, _, _, _, _, _, _, kk, _⟩
            exact kk.lst (SqL.of q1') (by simp)
          · rintro i' x σ H8 hx ⟨a6, a10, ans, tl', kk, rfl, L8, m8, k8, q8, hkk, hkl, hpre, hst⟩
            rw [List.getElem?_map] at hx
            cases ez : fs[i']? with
            | none => rw [ez] at hx; cases hx
            | some z =>
            rw [ez] at hx
            cases hx
            have hzf : z ∈ fs := List.mem_of_getElem? ez
            have et : fs.take (i' + 1) = fs.take i' ++ [z] := by rw [List.take_add_one, ez]; rfl
            have hi' : i' < fs.length := (List.getElem?_eq_some_iff.mp ez).1
            obtain ⟨ka, a1, a2⟩ := L8.a
            have ga := DGet.k (k := Sum.inr z) a1
            refine ⟨_, rfl, _, rfl, a, _, rfl, ga, ?_⟩
            rcases a2.get z with ⟨e1, e2⟩ | ⟨b, v, e1, e2, rfl⟩
            · rw [e2]
              have e0 : ans0.lookup z = none := by
                cases h : ans0.lookup z with
                | none => rfl
                | some b => exact absurd e1 (lookup_pre hpre (by rw [h]; exact fun z => by cases z))
              have hzf' := hzf
              rw [← hfs] at hzf'
              obtain ⟨f, hf⟩ := fmls_get hzf'
              obtain ⟨j, hj, htl⟩ := m8.tl0 z f hf
              have hal := m8.len hS
              rw [hfs] at hal
              refine ⟨_, rfl, _, rfl, _, rfl, ?_⟩
              dsimp only [tNil]
              refine ⟨⟨p, R, a, d, l⟩, rules, ans, fs, adr, tl', U, rk, z, f, j, rfl, L8, hS, m8.snd, hzf, hf, hd z f hf, e1, by omega, htl, hj, fun H9 L9 k9 => ?_, fun y j' H9 hy1 hy2 hy3 hj' L9 k9 => ?_⟩
              · have kf9 : Keep [] Hf H9 := k8.fresh k9 fun x hx => by
                  simp only [List.mem_cons, List.not_mem_nil, or_false] at hx
                  rcases hx with rfl | rfl
                  · exact hfA
                  · exact (hy z hzf).2
                have q9 : H9 q = some (.dK kk) := k9.k _ _ (by
                  simp only [List.mem_cons, List.not_mem_nil, or_false, not_or]
                  simp only [List.mem_cons, List.not_mem_nil, or_false, not_or] at qn
                  exact ⟨qn.2.2.1, fun e => qa z hzf e.symm⟩) q8
                refine ⟨_, rfl, rfl, _, rfl, ifnP rfl ?_⟩
                refine ⟨_, _, _, _, kk, rfl, L9, m8.answer hf e1, kf9, q9, hkk, by omega, hpre.trans (List.prefix_append _ _), fun y hyt hyn => ?_⟩
                rw [lookup_snoc] at hyn
                split at hyn
                · rename_i hyn2
                  rw [et] at hyt
                  rcases List.mem_append.mp hyt with h | h
                  · exact hst y h hyn2
                  · rw [if_pos (List.mem_singleton.mp h)] at hyn; cases hyn
                · rename_i hyn2
                  exact absurd hyn hyn2
              · have kf9 : Keep [] Hf H9 := k8.fresh k9 fun x hx => by
                  simp only [List.mem_cons, List.not_mem_nil, or_false] at hx
                  rcases hx with rfl | rfl
                  · exact hfA
                  · exact (hy z hzf).2
                have q9 : H9 q = some (.dK kk) := k9.k _ _ (by
                  simp only [List.mem_cons, List.not_mem_nil, or_false, not_or]
                  simp only [List.mem_cons, List.not_mem_nil, or_false, not_or] at qn
                  exact ⟨qn.2.2.1, fun e => qa z hzf e.symm⟩) q8
                refine ⟨_, rfl, rfl, _, rfl, ifnN (fun z => by cases z) ?_⟩
                refine ⟨_, rfl, _, rfl, _, rfl, q, _, rfl, DPut.k (k := Sum.inr z) q9 (small1000 (by omega)), ?_⟩
                have kq9 : Keep [q] H9 (upd H9 q (.dK (putK kk (Sum.inr z) (.str y)))) := Keep.refl.upd (by simp) (by rw [q9]; trivial)
                have L10 := L9.keep kq9 (fun x hx => by
                  rw [List.mem_singleton.mp hx]
                  exact ⟨qn, qa⟩)
                have y0 : ans0.lookup y = none := by
                  cases h : ans0.lookup y with
                  | none => rfl
                  | some b => exact absurd hy2 (lookup_pre hpre (by rw [h]; exact fun z => by cases z))
                obtain ⟨g, hg⟩ := hy1
                have hyf := fmls_mem hg
                rw [hfs] at hyf
                refine ⟨_, _, _, _, _, rfl, L10, m8.stuck hf e1 hj', kf9.new hq0, upd_same, .inr ⟨z, hzf, e0⟩, Nat.le_trans (length_putK _ _ _) (by omega), hpre, fun y' hyt hyn => ?_⟩
                rw [et] at hyt
                rcases List.mem_append.mp hyt with h | h
                · exact hst y' h hyn
                · rw [List.mem_singleton.mp h]
                  exact ⟨y, hyf, hy3, y0⟩
            · rw [e2]
              refine ⟨_, rfl, ?_⟩
              refine ⟨_, _, ans, tl', kk, rfl, L8, m8, k8, q8, hkk, by omega, hpre, fun y hyt hyn => ?_⟩
              rw [et] at hyt
              rcases List.mem_append.mp hyt with h | h
              · exact hst y h hyn
              · rw [List.mem_singleton.mp h, e1] at hyn; cases hyn
          · rintro σ H8 ⟨a6, a10, ans, tl', kk, rfl, L8, m8, k8, q8, hkk, hkl, hpre, hst⟩
            rw [List.take_of_length_le (by rw [List.length_map]; exact Nat.le_refl _)] at hst
            obtain ⟨ka2, b1, b2⟩ := L8.a
            refine ⟨_, rfl, a, ka2, rfl, b1, _, rfl, rfl, _, rfl, ifD (fun e => ?_) (fun e => ?_)⟩
            · have e1 : ka2.length = ans0.length := by have := V.int.inj e; omega
              rw [b2.len] at e1
              have e2 : ans0 = ans := hpre.eq_of_length e1.symm
              subst e2
              have hall : ∀ y ∈ fs, ans0.lookup y ≠ none := fun y hy => all_of (rk := rk) hst (rk y + 1) y hy (Nat.lt_succ_self _)
              have hk0 : kk = [] := by
                rcases hkk with h | ⟨y, hy, h⟩
                · exact h
                · exact absurd h (hall y hy)
              subst hk0
              refine ⟨_, rfl, q, rfl, q8, fun l' H9 hl' k9 => ?_⟩
              refine ⟨l', rfl, ⟨_, SqL.of hl'⟩, for_list (K := K) (a := l') (xs := []) (fun i' σ H' => H' = H9 ∧ ∃ a6, σ = [some (.ref R), some (.ref fl), some (.ref p), some (.ref d), some (.ref l), some (.ref a), a6, some (.int (0 + (i : Int))), some (.ref q), some (.int (ans0.length : Nat)), a10]) ⟨rfl, _, rfl⟩ ?_ ?_ ?_⟩
              · rintro i' σ H' _ ⟨rfl, _⟩
                exact SqL.of hl'
              · rintro i' x σ H' hx
                simp at hx
              · rintro σ H' ⟨rfl, a6', rfl⟩
                exact ⟨_, _, _, _, _, ans0, tl', rfl, L8.keep0 k9, m8, k8.trans k9, .inl hall⟩
            · have hne : ka2.length ≠ ans0.length := fun z => e (by rw [z])
              rw [b2.len] at hne
              have hle := hpre.length_le
              refine ⟨_, _, _, _, _, ans, tl', rfl, L8, m8, k8, ?_⟩
              rcases hp6 with h | h
              · exact .inl fun x hx => lookup_pre hpre (h x hx)
              · exact .inr (by omega)
end
end Q

namespace Q
open PySem PySem.Spec PyProof.Rows L2
/-! ### rules that read only names behind them -/
theorem wor_congr {e e' : Str → Ans} : ∀ {f : Fm}, f.In (fun x => e x = e' x) → wor e f = wor e' f
  | .non, _ => rfl
  | .int _, _ => rfl
  | .name x, h => by
    have h' : e x = e' x := h
    unfold wor
    rw [h']
  | .cyc x, h => by
    have h' : e x = e' x := h
    unfold wor
    rw [h']
  | .op w f g, h => by
    unfold wor
    rw [wor_congr h.1, wor_congr h.2]
  | .ite c f g, h => by
    unfold wor
    rw [wor_congr h.1, wor_congr h.2.1, wor_congr h.2.2]
theorem Fm.In.and {p q : Str → Prop} : ∀ {f : Fm}, f.In p → f.In q → f.In (fun x => p x ∧ q x)
  | .non, _, _ => trivial
  | .int _, h, _ => h
  | .name _, h, h' => ⟨h, h'⟩
  | .cyc _, h, h' => ⟨h, h'⟩
  | .op _ _ _, h, h' => ⟨h.1.and h'.1, h.2.and h'.2⟩
  | .ite _ _ _, h, h' => ⟨h.1.and h'.1, h.2.1.and h'.2.1, h.2.2.and h'.2.2⟩
def RuleIn (ns : List Str) : Rule → Prop
  | .inp a => a ≠ .cyc ∧ InR a.v
  | .fml f => f.In (· ∈ ns) ∧ f.dep ≤ 4
def RL : List Str → List (Str × Rule) → Prop
  | _, [] => True
  | n :: ns, (x, r) :: l => x = n ∧ RuleIn ns r ∧ RL ns l
  | [], _ :: _ => False
theorem RL.snoc {x : Str} {r : Rule} : ∀ {ns : List Str} {l : List (Str × Rule)}, RL ns l → ns[l.length]? = some x → RuleIn (ns.drop (l.length + 1)) r → RL ns (l ++ [(x, r)])
  | [], [], _, h, _ => by cases h
  | n :: ns, [], _, h, h' => by
    cases h
    exact ⟨rfl, h', by cases ns <;> trivial⟩
  | n :: ns, (y, s) :: l, z, h, h' => ⟨z.1, z.2.1, RL.snoc z.2.2 h h'⟩
  | [], _ :: _, z, _, _ => z.elim
theorem RL.keys : ∀ {ns : List Str} {l : List (Str × Rule)}, RL ns l → l.map (·.1) = ns.take l.length
  | _, [], _ => by simp
  | n :: ns, (x, r) :: l, z => by
    obtain ⟨rfl, _, t⟩ := z
    rw [List.map_cons, List.length_cons, List.take_succ_cons, RL.keys t]
  | [], _ :: _, z => z.elim
theorem RL.get {x : Str} {r : Rule} : ∀ {ns : List Str} {l : List (Str × Rule)}, RL ns l → l.lookup x = some r → RuleIn ns r ∧ x ∈ ns
  | _, [], _, h => by cases h
  | n :: ns, (y, s) :: l, z, h => by
    obtain ⟨rfl, h1, t⟩ := z
    rw [lookup_eq] at h
    by_cases e : x = y
    · rw [if_pos e] at h
      cases h
      refine ⟨?_, by rw [e]; exact List.mem_cons_self ..⟩
      cases r with
      | inp a => exact h1
      | fml f => exact ⟨h1.1.imp fun _ z => List.mem_cons_of_mem _ z, h1.2⟩
    · rw [if_neg e] at h
      obtain ⟨h2, h3⟩ := RL.get t h
      refine ⟨?_, List.mem_cons_of_mem _ h3⟩
      cases r with
      | inp a => exact h2
      | fml f => exact ⟨h2.1.imp fun _ z => List.mem_cons_of_mem _ z, h2.2⟩
  | [], _ :: _, z, _ => z.elim
def envOf : List (Str × Rule) → Str → Ans
  | [], _ => .non
  | (x, r) :: l, y => if y = x then (match r with
    | .inp a => a
    | .fml f => (wor (envOf l) f).1) else envOf l y
def rkOf : List (Str × Rule) → Str → Nat
  | [], _ => 0
  | (x, _) :: l, y => if y = x then l.length + 1 else rkOf l y
theorem rkOf_le : ∀ (l : List (Str × Rule)) (y : Str), rkOf l y ≤ l.length
  | [], _ => Nat.le_refl _
  | (x, r) :: l, y => by
    unfold rkOf
    have := rkOf_le l y
    split
    · exact Nat.le_refl _
    · rw [List.length_cons]; omega
theorem envOf_nc : ∀ {ns : List Str} {l : List (Str × Rule)}, RL ns l → ∀ y, envOf l y ≠ .cyc
  | _, [], _, y => fun z => by cases z
  | n :: ns, (x, r) :: l, z, y => by
    obtain ⟨rfl, h1, t⟩ := z
    unfold envOf
    have ih := envOf_nc t
    split
    · cases r with
      | inp a => exact h1.1
      | fml f => exact wor_nc ih f
    · exact ih y
  | [], _ :: _, z, _ => z.elim
theorem sem_nil : Sem [] (fun _ => .non) (fun _ => 0) := by
  refine ⟨fun x a h => ?_, fun _ _ => rfl, fun x f h => ?_, fun _ z => ?_, Nat.zero_le _⟩
  · cases h
  · cases h
  · cases z
theorem sem_of : ∀ {ns : List Str} {l : List (Str × Rule)}, ns.Nodup → RL ns l → l.length ≤ 24 → Sem l (envOf l) (rkOf l)
  | _, [], _, _, _ => sem_nil
  | n :: ns, (x, r) :: l, hn, z, hl => by
    have nc := envOf_nc z
    obtain ⟨rfl, h1, t⟩ := z
    obtain ⟨hx, hn'⟩ := List.nodup_cons.mp hn
    rw [List.length_cons] at hl
    have ih := sem_of hn' t (by omega)
    have ne : ∀ {y}, y ≠ x → envOf ((x, r) :: l) y = envOf l y := fun e => by
      show (if _ then _ else _) = _
      rw [if_neg e]
    have nr : ∀ {y}, y ≠ x → rkOf ((x, r) :: l) y = rkOf l y := fun e => by
      show (if _ then _ else _) = _
      rw [if_neg e]
    have cg : ∀ {f : Fm}, f.In (· ∈ ns) → wor (envOf ((x, r) :: l)) f = wor (envOf l) f := fun h => wor_congr (h.imp fun y hy => ne fun e => hx (by rw [← e]; exact hy))
    refine ⟨fun y a h => ?_, fun y h => ?_, fun y f h => ?_, nc, hl⟩
    · rw [lookup_eq] at h
      by_cases e : y = x
      · rw [if_pos e] at h
        cases h
        show (if _ then _ else _) = _
        rw [if_pos e]
      · rw [if_neg e] at h
        rw [ne e]
        exact ih.inp y a h
    · rw [lookup_eq] at h
      by_cases e : y = x
      · rw [if_pos e] at h; cases h
      · rw [if_neg e] at h
        rw [ne e]
        exact ih.no y h
    · rw [lookup_eq] at h
      by_cases e : y = x
      · rw [if_pos e] at h
        cases h
        refine ⟨?_, h1.1.imp fun y' hy' => ?_, by have := h1.2; omega⟩
        · rw [cg h1.1]
          show (if _ then _ else _) = _
          rw [if_pos e]
        · rw [nr (fun q => hx (by rw [← q]; exact hy'))]
          show _ < (if _ then _ else _)
          rw [if_pos e]
          have := rkOf_le l y'
          omega
      · rw [if_neg e] at h
        obtain ⟨q1, q2, q3⟩ := ih.fml y f h
        obtain ⟨q4, _⟩ := t.get h
        rw [ne e, cg q4.1]
        refine ⟨q1, (q4.1.and q2).imp fun y' hy' => ?_, q3⟩
        show rkOf ((x, r) :: l) y' < rkOf ((x, r) :: l) y
        rw [nr e, nr (fun q => hx (by rw [← q]; exact hy'.1))]
        exact hy'.2
  | [], _ :: _, _, z, _ => z.elim
theorem CS.set_new {rules : List (Str × Rule)} {x : Str} {r : Rule} (h : rules.lookup x = none) : (CS.new rules).set x r = CS.new (rules ++ [(x, r)]) := by
  unfold CS.set CS.change
  show CS.mk (kput rules x r) (kdrop [] x) [] [] [] [] [] = _
  rw [kput_new r h]
  rfl
theorem CS.same_new {rules : List (Str × Rule)} {x : Str} {r : Rule} (h : rules.lookup x = none) : (CS.new rules).same x r = false := by
  show (match rules.lookup x with | none => false | some r' => PyData.eqv r'.data r.data) = false
  rw [h]
theorem good_new {rules : List (Str × Rule)} {U : Str → Ans} : Good rules U (CS.new rules) :=
  ⟨rfl, (fun x a h => by cases h), fun _ _ => rfl, (fun x a h => by cases h), ⟨List.nodup_nil, fun x h => by cases h⟩, ⟨List.nodup_nil, fun x h => by cases h⟩, List.nodup_nil, rfl⟩
theorem CellsAt.addEx {K : PySem.W.Frag} {H : Hp} {ca : CA} {st : CS} {l : List Addr} (h : CellsAt K [] H ca st) (hm : st.memos = []) (hl : ∀ x ∈ l, x ∉ ca.all ∧ H x ≠ none) : CellsAt K l H ca st := by
  obtain ⟨km, m1, m2⟩ := h.m
  refine ⟨h.c, h.v, h.r, ⟨km, m1, ?_⟩, h.o, h.a, h.ru, h.ke, h.cy, h.n, hl⟩
  rw [hm] at m2 ⊢
  match km, m2 with
  | [], _ => trivial
theorem FnOk.any {P : Program} {w : World} {K : PySem.W.Frag} {mg : Str → Option Value} {base : Heap} {CX : CXT} {k : Nat} {f : Addr} {fd : FuncData} {ps : List Str} {ι : Type} {sp : ι → Sp} (i0 : ι) (h : ∀ i, FnOk P w K mg base CX k f fd ps (sp i)) :
    FnOk P w K mg base CX k f fd ps (fun vs H Q E => ∃ i, sp i vs H Q E) :=
  ⟨fun vs H Q E ⟨i, q⟩ => (h i).len vs H Q E q, fun A outer s H args us vs Q E hr he hb hv ⟨i, hs⟩ => (h i).run A outer s H args us vs Q E hr he hb hv hs⟩
abbrev SemT := { x : List (Str × Rule) × (Str → Ans) × (Str → Nat) // Sem x.1 x.2.1 x.2.2 }
def spAskE (K : PySem.W.Frag) : Sp := fun vs H Q E => ∃ i : SemT, spAsk K i.1.1 i.1.2.1 i.1.2.2 9 vs H Q E
theorem ok_askE {P : Program} {w : World} {K : PySem.W.Frag} {mg : Str → Option Value} {base : Heap} (T : Facts w K mg) : OkM P w K mg base 103 "Cells" "ask" ["self", "name"] (spAskE K) :=
  FnOk.any ⟨([], fun _ => .non, fun _ => 0), sem_nil⟩ fun i => ok_ask T (ok_ans T i.2 9)
end Q

namespace Q
open PySem PySem.Spec PyProof.Rows L2
def spLaw (K : PySem.W.Frag) : Sp := fun vs H Q _ => ∃ (a : Addr) (ns : List Int), vs = [.ref a] ∧ SqL K H a (ns.map V.int) ∧ ns.length ≤ 63 ∧ ∀ H', Q (.bl true) H'
theorem CS.readsOf_no {st : CS} {x : Str} (h : st.memos.lookup x = none) : st.readsOf x = none := by
  unfold CS.readsOf
  rw [h]
  rfl
theorem CS.readsOf_some {st : CS} {x : Str} {m : Memo} (h : st.memos.lookup x = some m) (hl : m.last = none) : st.readsOf x = some m.reads := by
  unfold CS.readsOf
  rw [h, Option.map_some]
  simp only [hl, List.append_nil]
/-- while the rules are laid down -/
structure Lp (K : PySem.W.Frag) (H : Hp) (p c nl R : Addr) (ns : List Str) (ca : CA) (rules : List (Str × Rule)) (kr : List (Key × V)) : Prop where
  cell : CellsAt K [p, c, nl, R] H ca (CS.new rules)
  pool : PoolAt H p c
  nms : H nl = some (.lst (ns.map V.str))
  dict : H R = some (.dK kr)
  rul : KvAt (RuleAt K H) rules kr
  rl : RL ns rules
theorem Lp.step {K : PySem.W.Frag} {H H1 : Hp} {p c nl R : Addr} {ns : List Str} {ca : CA} {rules : List (Str × Rule)} {kr : List (Key × V)} (h : Lp K H p c nl R ns ca rules kr) (k : Keep [p] H H1) (hp : PoolAt H1 p c) : Lp K H1 p c nl R ns ca rules kr := by
  obtain ⟨i, d, m, e, _⟩ := h.pool.at_
  have n1 : nl ≠ p := fun z => by
    have := h.nms
    rw [z, e] at this
    have := List.map_eq_cons_iff.mp (HO.lst.inj (Option.some.inj this)).symm
    obtain ⟨x, _, _, hx, _⟩ := this
    cases hx
  have n2 : R ≠ p := fun z => by
    have := h.dict
    rw [z, e] at this
    cases this
  exact ⟨h.cell.keep k (by simp), hp, k.k _ _ (by simpa using n1) h.nms, k.k _ _ (by simpa using n2) h.dict, h.rul.imp fun _ _ z => z.keep k, h.rl⟩
theorem Lp.step0 {K : PySem.W.Frag} {H H1 : Hp} {p c nl R : Addr} {ns : List Str} {ca : CA} {rules : List (Str × Rule)} {kr : List (Key × V)} (h : Lp K H p c nl R ns ca rules kr) (k : Keep [] H H1) : Lp K H1 p c nl R ns ca rules kr := h.step k.of0 (h.pool.keep0 k)
theorem RL.len {ns : List Str} {l : List (Str × Rule)} (h : RL ns l) : l.length ≤ ns.length := by
  have := congrArg List.length h.keys
  rw [List.length_map, List.length_take] at this
  omega
theorem RL.new {ns : List Str} {l : List (Str × Rule)} {x : Str} (h : RL ns l) (hn : ns.Nodup) (hx : ns[l.length]? = some x) : l.lookup x = none := by
  cases e : l.lookup x with
  | none => rfl
  | some r =>
    have hk := lookup_key.mp (show l.lookup x ≠ none by rw [e]; exact fun z => by cases z)
    rw [h.keys] at hk
    obtain ⟨j, hj, e2⟩ := List.mem_take_iff_getElem.mp hk
    have e3 : ns[j]? = some x := by rw [List.getElem?_eq_getElem (by omega), e2]
    have := (List.getElem?_inj (by omega) hn).mp (e3.trans hx.symm)
    omega
theorem RL.fits {ns : List Str} {l : List (Str × Rule)} {x : Str} (h : RL ns l) (hnm : ∀ x ∈ ns, IsNm x) (hl : ns.length ≤ 20) : Fits l x := by
  have hlen := h.len
  refine ⟨fun y r e => ?_, by omega, fun _ => by omega⟩
  obtain ⟨h1, _⟩ := h.get e
  cases r with
  | inp a => exact h1.1
  | fml f => exact ⟨by have := h1.2; omega, h1.1.imp hnm⟩
theorem cut_drop {ns : List Str} {k : Nat} (h : k ≤ ns.length) : cutV (ns.map V.str) (some (k : Int)) none = (ns.drop k).map V.str := by
  unfold cutV
  rw [HT.sIx_none, HT.sIx_nat, List.length_map, Nat.min_eq_left h, List.take_of_length_le (by rw [List.length_drop, List.length_map]; exact Nat.le_refl _), List.map_drop]
theorem sm_told {K : PySem.W.Frag} {H : Hp} {L : Told} {vs us : List V} (h1 : ToldAt K H L vs) (h2 : ToldAt K H L us) : ∀ (i : Nat) (x y : V), vs[i]? = some x → us[i]? = some y → Sm K H 1 x y := fun i x y hx hy => by
  obtain ⟨t1, n1, a1, rfl, e1, s1⟩ := told_map h1 i x hx
  obtain ⟨t2, n2, a2, rfl, e2, s2⟩ := told_map h2 i y hy
  rw [e1] at e2
  cases e2
  refine .inr ⟨t1, t2, _, _, rfl, rfl, s1, s2, rfl, by show 2 ≤ 1000; decide, fun j u v hu hv => ?_⟩
  rw [hu] at hv
  cases hv
  match j, hu with
  | 0, hu => cases hu; exact ⟨rfl, .inr (.inr ⟨_, rfl⟩)⟩
  | 1, hu => cases hu; exact ⟨rfl, a1.sc⟩
  | j + 2, hu => exact absurd hu (by simp)
section
variable {P : Program} {w : World} {K : PySem.W.Frag} {mg : Str → Option Value} {base : Heap}
theorem ok_law (T : Facts w K mg) : Ok P w K mg base 200 "law" ["_law_script"] (spLaw K) := by
  refine T.d_law.F.ok sc_law (fun vs H Q E h => ?_) (fun cdv A outer s H vs Q E hr h => ?_)
  · obtain ⟨a, ns, rfl, _⟩ := h
    rfl
  · obtain ⟨sa, cs, rfl, hsa, hcs, k⟩ := h
    refine ⟨_, PSs.nox (pss_cons (ps_set (i := 1) sc_law.nd rfl (Or.inl rfl) (pe_cl T.d__law_pool (ok_pool T) (hr.mono (by decide)) (pa_cons (pv 0) pa_nil))) 
      (pss_cons (ps_set (i := 2) sc_law.nd rfl (Or.inl rfl) (pe_cl T.d__law_names (ok_names T) (hr.mono (by decide)) (pa_cons (pv 1) (pa_cons (pe_op op_add pe_int (pe_cl T.d__law_take (ok_take T) (hr.mono (by decide)) (pa_cons (pv 1) (pa_cons pe_int pa_nil)))) pa_nil)))) 
      (pss_cons (ps_set (i := 3) sc_law.nd rfl (Or.inl rfl) (pe_mk0 T.k_Cells (ok_Cells_init T) (hr.mono (by decide)))) 
      (pss_cons (ps_set (i := 4) sc_law.nd rfl (Or.inl rfl) pe_dnewK) 
      (pss_cons (ps_for PassesOwn.never rfl (pi_range1 (by rfl) T.b_range (pa_cons (pe_op op_sub (pe_callB call_len_seq (by rfl) T.b_len PySem.boot_len (pa_cons (pv 2) pa_nil)) pe_int) pa_nil)) (pg_name (i := 5) sc_law.nd rfl (Or.inl rfl)) (pss_cons (ps_set (i := 6) sc_law.nd rfl (Or.inl rfl) (pe_ix ix_list (pv 2) (pv 5) (fun _ _ => rfl))) 
      (pss_cons (ps_set (i := 7) sc_law.nd rfl (Or.inl rfl) (pe_tup (pa_cons pe_str (pa_cons (pe_cl T.d__law_value (ok_value T) (hr.mono (by decide)) (pa_cons (pv 1) pa_nil)) pa_nil)))) 
      (C8.pss_cut ((ps_if (pt_cmpR op_gt (pe_cl T.d__law_take (ok_take T) (hr.mono (by decide)) (pa_cons (pv 1) (pa_cons pe_int pa_nil))) pe_int (nomark _)) (pss_one (ps_set (i := 7) sc_law.nd rfl (Or.inl rfl) (pe_tup (pa_cons pe_str (pa_cons (pe_cl T.d__law_formula (ok_formula T 5) (hr.mono (by decide)) (pa_cons (pv 1) (pa_cons (pe_slice sl_list (pv 2) (po_some (pe_op op_add (pv 5) pe_int)) po_none) (pa_cons pe_int pa_nil)))) pa_nil))))) pss_nil)) 
      (pss_cons (ps_dput (hu_of hr) (pv 4) (pv 6) (pv 7) rfl) 
      (pss_one (ps_if (pt_cmpR op_eq (pe_ix ix_tup (pv 7) pe_int (fun _ _ => rfl)) pe_str (nomark _)) (pss_one (ps_expr (pe_me T.m_Cells_put (ok_put T) (hr.mono (by decide)) (pv 3) (pa_cons (pv 6) (pa_cons (pe_ix ix_tup (pv 7) pe_int (fun _ _ => rfl)) pa_nil))))) (pss_one (ps_expr (pe_me T.m_Cells_define (ok_define T) (hr.mono (by decide)) (pv 3) (pa_cons (pv 6) (pa_cons (pe_ix ix_tup (pv 7) pe_int (fun _ _ => rfl)) pa_nil)))))))))))) 
      (pss_cons (ps_set (i := 8) sc_law.nd rfl (Or.inl rfl) (pe_cl T.d__law_from_nothing (ok_from T) (hr.mono (by decide)) (pa_cons (pv 4) pa_nil))) 
      (pss_cons (ps_for PassesOwn.never rfl (pi_range1 (by rfl) T.b_range (pa_cons (pe_op op_mul pe_int (pe_callB call_len_seq (by rfl) T.b_len PySem.boot_len (pa_cons (pv 2) pa_nil))) pa_nil)) (pg_name (i := 9) sc_law.nd rfl (Or.inl rfl)) (pss_cons (ps_set (i := 6) sc_law.nd rfl (Or.inl rfl) (pe_ix ix_list (pv 2) (pe_cl T.d__law_take (ok_take T) (hr.mono (by decide)) (pa_cons (pv 1) (pa_cons (pe_op op_sub (pe_callB call_len_seq (by rfl) T.b_len PySem.boot_len (pa_cons (pv 2) pa_nil)) pe_int) pa_nil))) (fun _ _ => rfl))) 
      (pss_cons (ps_if (pt_not (pt_val (pe_cl T.d__law_same (ok_same T 2) (hr.mono (by decide)) (pa_cons (pe_me T.m_Cells_ask (ok_askE T) (hr.mono (by decide)) (pv 3) (pa_cons (pv 6) pa_nil)) (pa_cons (pe_ix ix_tup (pe_cl T.d__law_worth (ok_lworth T) (hr.mono (by decide)) (pa_cons (pv 8) (pa_cons (pv 6) pa_nil))) pe_int (fun _ _ => rfl)) pa_nil))))) (pss_one (ps_ret pe_bl)) pss_nil) 
      (pss_one (ps_if (pt_cmpR op_eq (pe_ix ix_tup (pe_dget (hu_of hr) (pv 4) (pv 6) (fun _ _ => rfl)) pe_int (fun _ _ => rfl)) pe_str (nomark _)) (pss_one (ps_if (pt_cmpR op_notN (pe_me T.m_Cells_reads (ok_reads T) (hr.mono (by decide)) (pv 3) (pa_cons (pv 6) pa_nil)) pe_non (nomark _)) (pss_one (ps_ret pe_bl)) pss_nil)) (pss_one (ps_if (pt_not (pt_val (pe_cl T.d__law_same (ok_same T 2) (hr.mono (by decide)) (pa_cons (pe_callTy call_tuple_of (by rfl) T.b_tuple (by decide +kernel) (pa_cons (pe_me T.m_Cells_reads (ok_reads T) (hr.mono (by decide)) (pv 3) (pa_cons (pv 6) pa_nil)) pa_nil)) (pa_cons (pe_callTy call_tuple_of (by rfl) T.b_tuple (by decide +kernel) (pa_cons (pe_dget (hu_of hr) (pe_dget (hu_of hr) (pv 8) pe_str (fun _ _ => rfl)) (pv 6) (fun _ _ => rfl)) pa_nil)) pa_nil))))) (pss_one (ps_ret pe_bl)) pss_nil))))))) 
      (pss_one (ps_ret pe_bl))))))))), ?_⟩
    refine ⟨_, rfl, sa, cs, rfl, hsa, hcs, fun p c H1 hp0 hc0 hP1 k1 => ?_⟩
    refine ⟨_, rfl, _, rfl, p, c, _, rfl, hP1, ⟨by decide, by decide⟩, fun r H2 hr0 hr1 hP2 k2 => ?_⟩
    obtain ⟨m, rfl⟩ : ∃ m : Nat, r = (m : Int) := ⟨r.toNat, by omega⟩
    refine ⟨_, _, rfl, rfl, p, c, 2 + m, rfl, hP2, by omega, fun nl ns H3 hnl0 hnl hlen hnd hnm hP3 k3 => ?_⟩
    have nlp : nl ≠ p := fun z => hP2.thereP (by rw [← z]; exact hnl0)
    have nlc : nl ≠ c := fun z => hP2.thereC (by rw [← z]; exact hnl0)
    -- Cells()
    intro v dv nv ndv nev
    refine ⟨v, dv, rfl, upd_same, fun ca0 H4 e0 hC0 hnew0 k4 => ⟨rfl, ?_⟩⟩
    have fr0 : ∀ y ∈ ca0.all, H3 y = none := fun y hy => by
      rcases hnew0 y hy with rfl | h
      · exact nv
      · exact upd_none (upd_none h)
    have k34 : Keep [] H3 H4 := ((Keep.refl.new ndv).new nv).fresh k4 fun x hx => by rw [List.mem_singleton.mp hx]; exact nv
    have hP4 := hP3.keep0 k34
    have hnl4 := k34.k _ _ (by simp) hnl
    generalize hcc : ca0.c = cc at e0
    subst e0
    clear k4 hnew0
    -- {}
    intro R hR
    have k45 : Keep [] H4 (upd H4 R (.dK [])) := Keep.refl.new hR
    have hC5 : CellsAt K [p, c, nl, R] (upd H4 R (.dK [])) ca0 (CS.new []) := by
      refine (hC0.keep0 k45).addEx rfl fun x hx => ?_
      have old : ∀ y, H3 y ≠ none → y ∉ ca0.all ∧ (upd H4 R (.dK [])) y ≠ none := fun y hy => ⟨fun z => hy (fr0 y z), fun z => hy (k34.n y (upd_none z))⟩
      simp only [List.mem_cons, List.not_mem_nil, or_false] at hx
      rcases hx with rfl | rfl | rfl | rfl
      · exact old _ hP3.thereP
      · exact old _ hP3.thereC
      · exact old _ (by rw [hnl]; exact fun z => by cases z)
      · exact ⟨fun z => hC0.there _ z hR, by rw [upd_same]; exact fun z => by cases z⟩
    have L5 : Lp K (upd H4 R (.dK [])) p c nl R ns ca0 [] [] := ⟨hC5, hP4.keep0 k45, k45.k _ _ (by simp) hnl4, upd_same, trivial, by cases ns <;> trivial⟩
    generalize upd H4 R (.dK []) = H5 at L5 ⊢
    have hlen20 : ns.length ≤ 20 := by omega
    have hlen2 : 2 ≤ ns.length := by omega
    have b62 : (100 : Int) < 2 ^ 62 := by decide
    clear k45 hR
    refine ⟨_, rfl, nl, _, rfl, .inl (SqL.of L5.nms), _, _, rfl, rfl, _, rfl, by rw [List.length_map]; omega, by rw [List.length_map]; omega, for_range (lo := 0) (n := (((ns.map V.str).length : Int) - 1).toNat) (fun i σ H' => ∃ (a5 a6 a7 : Option V) (ca : CA) (rules : List (Str × Rule)) (kr : List (Key × V)), σ = [some (.ref sa), some (.ref p), some (.ref nl), some (.ref cc), some (.ref R), a5, a6, a7, none, none] ∧
      ca.c = cc ∧ Lp K H' p c nl R ns ca rules kr ∧ rules.length = i) ⟨none, none, none, ca0, [], [], rfl, hcc, L5, rfl⟩ ?_ ?_⟩
    · rintro i σ H6 hi ⟨a5, a6, a7, ca, rules, kr, rfl, hcc6, L6, hlr⟩
      rw [List.length_map] at hi
      have hi2 : i + 1 < ns.length := by omega
      obtain ⟨z, hz⟩ : ∃ z, ns[i]? = some z := ⟨ns[i], List.getElem?_eq_getElem (by omega)⟩
      have hznm : IsNm z := hnm z (List.mem_of_getElem? hz)
      refine ⟨_, rfl, _, rfl, _, _, _, V.str z, rfl, rfl, SqL.of L6.nms, at_of (j := i) (by omega) (by rw [List.getElem?_map, hz]; rfl), ?_⟩
      refine ⟨_, rfl, p, c, rfl, L6.pool, fun v H7 hv hP7 k7 => ?_⟩
      have L7 := L6.step k7 hP7
      obtain ⟨a, hac, rfl, _⟩ := hv.ans
      refine ⟨by show 2 ≤ sizeLine; decide, fun t ht => ?_⟩
      have kt : Keep [] H7 (upd H7 t (.tup [.str "input", a.v])) := Keep.refl.new ht
      have L8 := L7.step0 kt
      have T8 : SqT K (upd H7 t (.tup [.str "input", a.v])) t [.str "input", a.v] := SqT.of upd_same
      generalize upd H7 t (.tup [.str "input", a.v]) = H8 at L8 T8 ⊢
      refine ⟨fun σ H' => ∃ (t : Addr) (r : Rule), σ = [some (.ref sa), some (.ref p), some (.ref nl), some (.ref cc), some (.ref R), some (.int (0 + (i : Int))), some (.str z), some (.ref t), none, none] ∧ RuleAt K H' r (.ref t) ∧ RuleIn (ns.drop (i + 1)) r ∧ Lp K H' p c nl R ns ca rules kr, ?_, ?_⟩
      · refine ⟨_, rfl, p, c, _, rfl, L8.pool, ⟨by decide, by decide⟩, fun r H9 _ _ hP9 k9 => ?_⟩
        have L9 := L8.step k9 hP9
        have T9 := k9.tup T8
        refine ⟨_, _, rfl, rfl, _, rfl, ifD (fun _ => ?_) (fun _ => ?_)⟩
        · have e1 : (0 + (i : Int)) + 1 = ((i + 1 : Nat) : Int) := by omega
          refine ⟨_, rfl, _, rfl, _, rfl, _, _, rfl, rfl, _, rfl, nl, _, rfl, SqL.of L9.nms, fun q hq => ?_⟩
          rw [e1, cut_drop (by omega)]
          dsimp only [tNil]
          have kq : Keep [] H9 (upd H9 q (.lst ((ns.drop (i + 1)).map V.str))) := Keep.refl.new hq
          have L10 := L9.step0 kq
          have hqp : q ≠ p := fun z => L9.pool.thereP (by rw [← z]; exact hq)
          refine ⟨p, c, q, 4, ns.drop (i + 1), rfl, by decide, L10.pool, SqL.of upd_same, hqp, by rw [List.length_drop]; omega, by rw [List.length_drop]; omega, fun f v H11 hf hfd hfi hP11 k11 => ?_⟩
          have L11 := L10.step k11 hP11
          refine ⟨by show 2 ≤ sizeLine; decide, fun t ht => ?_⟩
          have k12 : Keep [] H11 (upd H11 t (.tup [.str "formula", v])) := Keep.refl.new ht
          exact ⟨t, .fml f, rfl, ⟨t, v, rfl, SqT.of upd_same, hf.keep k12⟩, ⟨hfi, hfd⟩, L11.step0 k12⟩
        · exact ⟨t, .inp a, rfl, ⟨t, rfl, T9⟩, ⟨hac, hv⟩, L9⟩
      · rintro σ H9 ⟨t, r, rfl, hRt, hRi, L9⟩
        have hzl : ns[rules.length]? = some z := by rw [hlr]; exact hz
        have hzn : rules.lookup z = none := L9.rl.new hnd hzl
        have hkr : kr.length = rules.length := L9.rul.len
        refine ⟨_, rfl, _, rfl, _, rfl, R, _, rfl, DPut.k (k := Sum.inr z) L9.dict (small1000 (by have := L9.rl.len; omega)), ?_⟩
        have kR : Keep [R] H9 (upd H9 R (.dK (putK kr (Sum.inr z) (.ref t)))) := Keep.refl.upd (by simp) (by rw [L9.dict]; trivial)
        have nRp : p ≠ R := fun e => by
          obtain ⟨_, _, _, e2, _⟩ := L9.pool.at_
          rw [e, L9.dict] at e2; cases e2
        have nRc : c ≠ R := fun e => by
          obtain ⟨_, e2, _⟩ := L9.pool.cs
          rw [e, L9.dict] at e2; cases e2
        have nRn : nl ≠ R := fun e => by
          have e2 := L9.nms
          rw [e, L9.dict] at e2; cases e2
        have C10 := L9.cell.exSet kR (by simp)
        have P10 := L9.pool.keep kR (by simpa using nRp) (by simpa using nRc)
        have N10 := kR.k _ _ (by simpa using nRn) L9.nms
        have D10 : (upd H9 R (.dK (putK kr (Sum.inr z) (.ref t)))) R = some (.dK (putK kr (Sum.inr z) (.ref t))) := upd_same
        have R10 := (L9.rul.put hRt hzn).imp (fun _ _ z => z.keep kR)
        have T10 := hRt.keep kR
        have rl10 : RL ns (rules ++ [(z, r)]) := L9.rl.snoc hzl (by rw [hlr]; exact hRi)
        generalize upd H9 R (.dK (putK kr (Sum.inr z) (.ref t))) = H10 at C10 P10 N10 D10 R10 T10 ⊢
        have fin : ∀ (a5 a6 a7 : Option V), Set3 K H10 [p, c, nl, R] ca (CS.new rules) z r (fun _ H' => ∃ (a5' a6' a7' : Option V) (ca : CA) (rules : List (Str × Rule)) (kr : List (Key × V)), [some (.ref sa), some (.ref p), some (.ref nl), some (.ref cc), some (.ref R), a5, a6, a7, none, none] = [some (V.ref sa), some (.ref p), some (.ref nl), some (.ref cc), some (.ref R), a5', a6', a7', none, none] ∧
            ca.c = cc ∧ Lp K H' p c nl R ns ca rules kr ∧ rules.length = i + 1) := fun a5 a6 a7 => by
          refine ⟨(fun e => by rw [CS.same_new hzn] at e; cases e), fun _ ca' H11 e1 c11 f11 k11 => ?_⟩
          rw [CS.set_new hzn] at c11
          have ne : ∀ x ∈ [p, c, nl, R], x ∉ [ca.c, ca.M, ca.R] := fun x hx h => by
            refine (C10.e x hx).1 ?_
            simp only [List.mem_cons, List.not_mem_nil, or_false] at h
            rcases h with rfl | rfl | rfl <;> simp [CA.all, CA.mut]
          exact ⟨a5, a6, a7, ca', rules ++ [(z, r)], _, rfl, e1.trans hcc6, ⟨c11, P10.keep k11 (ne p (by simp)) (ne c (by simp)), k11.k _ _ (ne nl (by simp)) N10, k11.k _ _ (ne R (by simp)) D10, R10.imp fun _ _ z => z.keep k11, rl10⟩, by rw [List.length_append]; simp [hlr]⟩
        cases r with
        | inp a =>
          obtain ⟨t', e, hT⟩ := T10
          cases e
          refine ⟨_, rfl, _, _, _, _, rfl, rfl, hT, rfl, rfl, _, rfl, ifP rfl ?_⟩
          refine ⟨_, rfl, ca.c, ca.dx, _, by rw [hcc6], C10.c, cells_no.2.2.2.2.2.2.1, _, rfl, _, rfl, _, _, _, _, rfl, rfl, hT, rfl, ?_⟩
          dsimp only [tNil]
          exact ⟨ca, CS.new rules, _, z, a, by rw [hcc6]; rfl, C10, hznm, hRi.2, L9.rl.fits hnm hlen20, fin _ _ _⟩
        | fml f =>
          obtain ⟨t', y, e, hT, hf⟩ := T10
          cases e
          refine ⟨_, rfl, _, _, _, _, rfl, rfl, hT, rfl, rfl, _, rfl, ifN (fun z => absurd (V.str.inj z) (by decide +kernel)) ?_⟩
          refine ⟨_, rfl, ca.c, ca.dx, _, by rw [hcc6], C10.c, cells_no.2.2.2.2.2.2.2.1, _, rfl, _, rfl, _, _, _, _, rfl, rfl, hT, rfl, ?_⟩
          dsimp only [tNil]
          exact ⟨ca, CS.new rules, _, z, f, y, by rw [hcc6]; rfl, C10, hznm, hf, by have := hRi.2; omega, hRi.1.imp fun x hx => hnm x (List.mem_of_mem_drop hx), L9.rl.fits hnm hlen20, fin _ _ _⟩
    · rintro σ H6 ⟨a5, a6, a7, ca, rules, kr, rfl, hcc6, L6, hlr⟩
      rw [List.length_map] at hlr
      have hlr' : rules.length + 1 = ns.length := by omega
      have hS : Sem rules (envOf rules) (rkOf rules) := sem_of hnd L6.rl (by omega)
      have hkn : (rules.map (·.1)).Nodup := by
        rw [L6.rl.keys]
        exact hnd.sublist (List.take_sublist _ _)
      refine ⟨_, rfl, ?_⟩
      dsimp only [tNil]
      refine ⟨R, rules, kr, envOf rules, rkOf rules, rfl, L6.dict, L6.rul, hS, hkn, fun x f h => (L6.rl.get h).1.2, fun la ans adr tl H7 hlaR hLA hsnd hall f1 f2 f3 f4 f5 k7 => ?_⟩
      generalize hU : envOf rules = U at *
      generalize hrk : rkOf rules = rk at *
      have hC7 := L6.cell.more (l := la.sd :: la.A :: la.D :: la.L :: (fmls rules).map adr) k7 (fun x hx => by
        have th := hLA.there
        simp only [List.mem_cons, List.mem_map] at hx
        rcases hx with rfl | rfl | rfl | rfl | ⟨y, hy, rfl⟩
        · exact ⟨f1, th.1⟩
        · exact ⟨f2, th.2.2.1⟩
        · exact ⟨f3, th.2.2.2.1⟩
        · exact ⟨f4, th.2.2.2.2.1⟩
        · exact ⟨f5 y hy, th.2.2.2.2.2 y hy⟩)
      have hlU : ∀ x f, rules.lookup x = some (.fml f) → (wor U f).2.length ≤ 81 := fun x f h => by
        have h4 := (L6.rl.get h).1.2
        exact Nat.le_trans (wor_len U f) (Nat.le_trans (Nat.pow_le_pow_right (by decide) h4) (by decide))
      have nms7 := k7.k _ _ (by simp) L6.nms
      have nRp : R ≠ p := fun e => by
        obtain ⟨_, _, _, e2, _⟩ := L6.pool.at_
        rw [← e, L6.dict] at e2; cases e2
      have pP : p ∉ [la.sd, la.R, la.A, la.D, la.L] := fun h => by
        simp only [List.mem_cons, List.not_mem_nil, or_false] at h
        have hp := L6.pool.thereP
        rcases h with e | e | e | e | e
        · rw [e] at hp; exact hp f1
        · exact nRp (hlaR.symm.trans e.symm)
        · rw [e] at hp; exact hp f2
        · rw [e] at hp; exact hp f3
        · rw [e] at hp; exact hp f4
      have pA : ∀ y ∈ fmls rules, adr y ≠ p := fun y hy e => L6.pool.thereP (by rw [← e]; exact f5 y hy)
      refine ⟨_, rfl, nl, _, rfl, .inl (SqL.of nms7), _, _, rfl, rfl, .inl ⟨by decide, by decide⟩, _, rfl, by rw [List.length_map]; omega, by rw [List.length_map]; omega, for_range (lo := 0) (n := _) (fun i σ H' => ∃ (a5 a6 a7 a9 : Option V) (st : CS), σ = [some (.ref sa), some (.ref p), some (.ref nl), some (.ref cc), some (.ref R), a5, a6, a7, some (.ref la.sd), a9] ∧
        CellsAt K ((la.sd :: la.A :: la.D :: la.L :: (fmls rules).map adr) ++ [p, c, nl, R]) H' ca st ∧ Good rules U st ∧ st.opn = [] ∧ LawAt K H' la rules ans (fmls rules) adr tl ∧ PoolAt H' p c ∧ H' nl = some (.lst (ns.map V.str))) ⟨_, _, _, none, _, rfl, hC7, good_new, rfl, hLA, L6.pool.keep0 k7, nms7⟩ ?_ ?_⟩
      rotate_left
      · rintro σ H' _
        exact k H'
      · rintro i σ H8 hi ⟨a5, a6, a7, a9, st, rfl, C8, g8, o8, LA8, P8, N8⟩
        have ml : (((ns.map V.str).length : Nat) : Int) = ns.length := by rw [List.length_map]
        refine ⟨_, rfl, _, rfl, _, rfl, nl, _, rfl, .inl (SqL.of N8), _, _, rfl, rfl, ?_⟩
        dsimp only [tNil]
        rw [ml]
        refine ⟨p, c, _, rfl, P8, ⟨by omega, by omega⟩, fun r H9 hr0 hr1 P9 k9 => ?_⟩
        have hrn : r.toNat < rules.length := by omega
        obtain ⟨z, hz⟩ : ∃ z, ns[r.toNat]? = some z := ⟨ns[r.toNat], List.getElem?_eq_getElem (by omega)⟩
        have hzl : rules.lookup z ≠ none := lookup_key.mpr (by
          rw [L6.rl.keys]
          exact List.mem_take_iff_getElem.mpr ⟨r.toNat, by omega, Option.some.inj ((List.getElem?_eq_getElem (by omega)).symm.trans hz)⟩)
        have kp9 : ∀ {x : Addr}, x ∉ [p] → ∀ {o}, H8 x = some o → H9 x = some o := fun h o e => k9.k _ _ h e
        have nlp9 : nl ∉ [p] := by simpa using nlp
        have C9 := C8.exSet k9 (by simp)
        have N9 := k9.k _ _ nlp9 N8
        have LA9 := LA8.keep k9 (fun x hx => by
          rw [List.mem_singleton.mp hx]
          exact ⟨pP, pA⟩)
        refine ⟨_, _, _, V.str z, rfl, rfl, SqL.of N9, at_of (j := r.toNat) (by omega) (by rw [List.getElem?_map, hz]; rfl), ?_⟩
        have hrk9 : rk z < 9 := by
          have := rkOf_le rules z
          rw [hrk] at this
          omega
        refine ⟨_, rfl, ca.c, ca.dx, _, by rw [hcc6], C9.c, cells_no.2.2.2.2.2.2.2.2.1, _, rfl, ?_⟩
        dsimp only [tNil]
        refine ⟨⟨(rules, U, rk), hS⟩, ca, st, _, z, by rw [hcc6]; rfl, C9, g8, hrk9, o8, hzl, fun st' H10 c10 g10 o10 n10 k10 => ?_⟩
        have sep : ∀ x ∈ ca.mut, x ∉ ((la.sd :: la.A :: la.D :: la.L :: (fmls rules).map adr) ++ [p, c, nl, R]) := fun x hx h => (C9.e x h).1 (by unfold CA.all; simp [hx])
        have LA10 := LA9.keep k10 (fun x hx => by
          have hs := sep x hx
          simp only [List.mem_append, List.mem_cons, List.mem_map, List.not_mem_nil, or_false, not_or] at hs
          obtain ⟨⟨s1, s2, s3, s4, s5⟩, _, _, _, s9⟩ := hs
          refine ⟨?_, fun y hy e => s5 ⟨y, hy, e⟩⟩
          simp only [List.mem_cons, List.not_mem_nil, or_false, not_or]
          exact ⟨s1, by rw [hlaR]; exact s9, s2, s3, s4⟩)
        have outM : ∀ x ∈ [p, c, nl, R], x ∉ ca.mut := fun x hx h => sep x h (List.mem_append_right _ hx)
        have P10 := P9.keep k10 (outM p (by simp)) (outM c (by simp))
        have N10 := k10.k _ _ (outM nl (by simp)) N9
        refine ⟨_, rfl, _, rfl, ?_⟩
        dsimp only [tNil]
        refine ⟨la, rules, ans, fmls rules, adr, tl, U, rk, z, rfl, LA10, hS, hsnd, fun t H11 k11 w11 => ?_⟩
        rcases w11 with ⟨_, s11⟩ | ⟨⟨f, hf, hn⟩, _⟩
        rotate_left
        · exact absurd hn (hall z f hf).1
        refine ⟨_, _, _, _, rfl, rfl, s11, rfl, ?_⟩
        dsimp only [tNil]
        refine ⟨_, _, rfl, .inl ⟨rfl, Ans.sc _⟩, fun H12 k12 => ?_⟩
        have kk : Keep [] H10 H12 := k11.trans k12
        have c12 := c10.keep0 kk
        have LA12 := LA10.keep0 kk
        have P12 := P10.keep0 kk
        have N12 := kk.k _ _ (by simp) N10
        obtain ⟨kr', r1', r2'⟩ := LA12.r
        rw [hlaR] at r1'
        have gx := DGet.k (k := Sum.inr z) r1'
        rcases r2'.get z with ⟨h1, _⟩ | ⟨r0, v0, h1, h2, h3⟩
        · exact absurd h1 hzl
        rw [h2] at gx
        have back : ∀ H', Keep [] H12 H' → ∃ (a5 a6 a7 a9 : Option V) (st : CS), [some (V.ref sa), some (.ref p), some (.ref nl), some (.ref cc), some (.ref R), _, some (.str z), _, some (.ref la.sd), some (.int (0 + (i : Int)))] = [some (V.ref sa), some (.ref p), some (.ref nl), some (.ref cc), some (.ref R), a5, a6, a7, some (.ref la.sd), a9] ∧
          CellsAt K ((la.sd :: la.A :: la.D :: la.L :: (fmls rules).map adr) ++ [p, c, nl, R]) H' ca st ∧ Good rules U st ∧ st.opn = [] ∧ LawAt K H' la rules ans (fmls rules) adr tl ∧ PoolAt H' p c ∧ H' nl = some (.lst (ns.map V.str)) := fun H' kq => ⟨a5, _, a7, _, st', rfl, c12.keep0 kq, g10, o10, LA12.keep0 kq, P12.keep0 kq, kq.k _ _ (by simp) N12⟩
        refine ⟨_, rfl, ?_⟩
        refine ⟨_, rfl, _, rfl, R, _, rfl, gx, ?_⟩
        cases r0 with
        | inp a =>
          obtain ⟨t0, rfl, hT⟩ := h3
          refine ⟨_, _, _, _, rfl, rfl, hT, rfl, rfl, _, rfl, ifP rfl ?_⟩
          have hno : st'.ans.lookup z = none := by
            cases e : st'.ans.lookup z with
            | none => rfl
            | some b =>
              obtain ⟨_, f, hf⟩ := g10.ans z b e
              rw [h1] at hf
              cases hf
          have hm := g10.mem z hno
          refine ⟨_, rfl, ca.c, ca.dx, _, by rw [hcc6], c12.c, cells_no.2.2.2.2.2.2.2.2.2, _, rfl, ?_⟩
          dsimp only [tNil]
          refine ⟨ca, st', _, z, by rw [hcc6]; rfl, c12, by rw [g10.rul]; exact hzl, fun m e => by (rw [hm] at e; cases e), fun v H13 hv k13 => ?_⟩
          have ev : v = .non := by
            rw [CS.readsOf_no hm] at hv
            exact hv
          subst ev
          refine ⟨rfl, _, rfl, ifnP rfl ?_⟩
          exact back H13 k13
        | fml f =>
          obtain ⟨t0, y, rfl, hT, _⟩ := h3
          refine ⟨_, _, _, _, rfl, rfl, hT, rfl, rfl, _, rfl, ifN (fun z => absurd (V.str.inj z) (by decide +kernel)) ?_⟩
          have hya := n10 ⟨f, h1⟩
          obtain ⟨b, hb⟩ : ∃ b, st'.ans.lookup z = some b := by
            cases e : st'.ans.lookup z with
            | none => exact absurd e hya
            | some b => exact ⟨b, rfl⟩
          obtain ⟨m0, f', hm, hml, hf', hmr⟩ := g10.memo z b hb
          have hf2 : rules.lookup z = some (.fml f') := hf'
          rw [h1] at hf2
          cases hf2
          have hmr : m0.reads = (wor U f).2 := hmr
          refine ⟨_, rfl, ca.c, ca.dx, _, by rw [hcc6], c12.c, cells_no.2.2.2.2.2.2.2.2.2, _, rfl, ?_⟩
          dsimp only [tNil]
          refine ⟨ca, st', _, z, by rw [hcc6]; rfl, c12, by rw [g10.rul]; exact hzl, fun m e => by (rw [hm] at e; cases e; exact ⟨by rw [hmr]; have := hlU z f h1; omega, hml⟩), fun v H13 hv k13 => ?_⟩
          rw [CS.readsOf_some hm hml, hmr] at hv
          obtain ⟨q, vs, rfl, hq, hvs⟩ := hv
          have hvs' : ToldAt K H13 (wor U f).2 vs := hvs
          refine ⟨q, vs, rfl, .inl ⟨SqL.of hq, fun l1 hl1 => ?_⟩⟩
          have k14 : Keep [] H13 (upd H13 l1 (.tup vs)) := Keep.refl.new hl1
          have s14 : SqT K (upd H13 l1 (.tup vs)) l1 vs := SqT.of upd_same
          generalize upd H13 l1 (.tup vs) = H14 at k14 s14 ⊢
          have LA14 := LA12.keep0 (k13.trans k14)
          have gD : DGet H14 la.sd (.str "reads") (some (.ref la.D)) := by
            have := DGet.k (k := Sum.inr "reads") LA14.s
            rw [lv_reads] at this
            exact this
          have hzf := fmls_mem h1
          have gz : DGet H14 la.D (.str z) (some (.ref (adr z))) := by
            have := DGet.k (k := Sum.inr z) LA14.d
            rw [valV_mapS _ hzf] at this
            exact this
          obtain ⟨us, hus, htu⟩ := LA14.dd z hzf
          rw [(hall z f h1).2] at htu
          refine ⟨_, rfl, la.sd, _, rfl, gD, _, rfl, la.D, _, rfl, gz, ?_⟩
          dsimp only [tNil]
          refine ⟨adr z, us, rfl, .inl ⟨SqL.of hus, fun l2 hl2 => ?_⟩⟩
          have k15 : Keep [] H14 (upd H14 l2 (.tup us)) := Keep.refl.new hl2
          have lv := hvs'.len
          have lu := htu.len
          refine ⟨_, _, rfl, .inr ⟨l1, l2, vs, us, rfl, rfl, k15.tup s14, SqT.of upd_same, by rw [lv, lu], by rw [lv]; have := hlU z f h1; omega, sm_told ((hvs'.keep k14).keep k15) (htu.keep k15)⟩, fun H16 k16 => ?_⟩
          refine ⟨_, rfl, ?_⟩
          exact back H16 (((k13.trans k14).trans k15).trans k16)
end
end Q

namespace Q
open PySem PySem.Spec PyProof.Rows L2
def hfa0 : List He.Fa := [.glo "is_name",
  .glo "is_in_range",
  .glo "check_formula",
  .glo "check_parts",
  .glo "limited",
  .glo "together",
  .glo "worth",
  .glo "_law_pool",
  .glo "_law_take",
  .glo "_law_same",
  .glo "_law_names",
  .glo "_law_value",
  .glo "_law_formula",
  .glo "_law_sum",
  .glo "_law_next",
  .glo "_law_worth",
  .glo "_law_go_on",
  .glo "_law_rings",
  .glo "_law_from_nothing",
  .glo "law",
  .meth "Asking" "told",
  .cls "Asking",
  .meth "Asking" "is_same",
  .meth "Cells" "_set",
  .cls "Cells",
  .meth "Cells" "_change",
  .meth "Cells" "put",
  .meth "Cells" "define",
  .meth "Cells" "ask",
  .meth "Cells" "answer"]
def hfa1 : List He.Fa := [.meth "Cells" "_answered",
  .meth "Cells" "_evaluated",
  .meth "Cells" "_close",
  .meth "Cells" "reads",
  .mkr "Asking",
  .glo "Asking",
  .noat "Asking" "cells",
  .noat "Asking" "name",
  .noat "Asking" "reads",
  .noat "Asking" "last",
  .mkr "Memo",
  .cls "Memo",
  .glo "Memo",
  .noat "Memo" "reads",
  .noat "Memo" "last",
  .noat "Memo" "answer",
  .mkr "Revision",
  .cls "Revision",
  .glo "Revision",
  .noat "Revision" "answers",
  .noat "Revision" "run",
  .noat "Revision" "kept",
  .noat "Revision" "cyclic",
  .mkr "Cells",
  .glo "Cells",
  .noat "Cells" "_rules",
  .noat "Cells" "_memos",
  .noat "Cells" "_open",
  .noat "Cells" "_revision",
  .free "isinstance"]
def hfa2 : List He.Fa := [.free "tuple",
  .free "range",
  .free "max",
  .free "min",
  .free "str",
  .free "all",
  .free "len",
  .free "int",
  .free "list",
  .free "bool",
  .int "MOST" 1000000,
  .int "MOST_DEPTH" 6,
  .glo "LENGTHS",
  .str "LETTERS" "abcdefghijklmnopqrstuvwxyz",
  .int "MOST_CELLS" 24]
def hfa : List He.Fa := hfa0 ++ hfa1 ++ hfa2
def hfn0 : List He.DefD := [⟨("is_name", none), "is_name", "is_name", defArgs s_is_name, defBody s_is_name, defScope s_is_name, [], []⟩,
  ⟨("is_in_range", none), "is_in_range", "is_in_range", defArgs s_is_in_range, defBody s_is_in_range, defScope s_is_in_range, [], []⟩,
  ⟨("check_formula", none), "check_formula", "check_formula", defArgs s_check_formula, defBody s_check_formula, defScope s_check_formula, [.adr (He.dflAt ("check_formula", none) 0)], []⟩,
  ⟨("check_parts", none), "check_parts", "check_parts", defArgs s_check_parts, defBody s_check_parts, defScope s_check_parts, [], []⟩,
  ⟨("limited", none), "limited", "limited", defArgs s_limited, defBody s_limited, defScope s_limited, [], []⟩,
  ⟨("together", none), "together", "together", defArgs s_together, defBody s_together, defScope s_together, [], []⟩,
  ⟨("worth", none), "worth", "worth", defArgs s_worth, defBody s_worth, defScope s_worth, [], []⟩,
  ⟨("_law_pool", none), "_law_pool", "_law_pool", defArgs s__law_pool, defBody s__law_pool, defScope s__law_pool, [], []⟩,
  ⟨("_law_take", none), "_law_take", "_law_take", defArgs s__law_take, defBody s__law_take, defScope s__law_take, [], []⟩,
  ⟨("_law_same", none), "_law_same", "_law_same", defArgs s__law_same, defBody s__law_same, defScope s__law_same, [], []⟩,
  ⟨("_law_names", none), "_law_names", "_law_names", defArgs s__law_names, defBody s__law_names, defScope s__law_names, [], []⟩,
  ⟨("_law_value", none), "_law_value", "_law_value", defArgs s__law_value, defBody s__law_value, defScope s__law_value, [], []⟩,
  ⟨("_law_formula", none), "_law_formula", "_law_formula", defArgs s__law_formula, defBody s__law_formula, defScope s__law_formula, [], []⟩,
  ⟨("_law_sum", none), "_law_sum", "_law_sum", defArgs s__law_sum, defBody s__law_sum, defScope s__law_sum, [], []⟩,
  ⟨("_law_next", none), "_law_next", "_law_next", defArgs s__law_next, defBody s__law_next, defScope s__law_next, [], []⟩,
  ⟨("_law_worth", none), "_law_worth", "_law_worth", defArgs s__law_worth, defBody s__law_worth, defScope s__law_worth, [], []⟩,
  ⟨("_law_go_on", none), "_law_go_on", "_law_go_on", defArgs s__law_go_on, defBody s__law_go_on, defScope s__law_go_on, [], []⟩,
  ⟨("_law_rings", none), "_law_rings", "_law_rings", defArgs s__law_rings, defBody s__law_rings, defScope s__law_rings, [], []⟩,
  ⟨("_law_from_nothing", none), "_law_from_nothing", "_law_from_nothing", defArgs s__law_from_nothing, defBody s__law_from_nothing, defScope s__law_from_nothing, [], []⟩,
  ⟨("law", none), "law", "law", defArgs s_law, defBody s_law, defScope s_law, [], []⟩,
  ⟨("Asking", some "told"), "told", "Asking.told", defArgs s_Asking_told, defBody s_Asking_told, defScope s_Asking_told, [], []⟩,
  ⟨("Asking", some "is_same"), "is_same", "Asking.is_same", defArgs s_Asking_is_same, defBody s_Asking_is_same, defScope s_Asking_is_same, [], []⟩,
  ⟨("Cells", some "_set"), "_set", "Cells._set", defArgs s_Cells__set, defBody s_Cells__set, defScope s_Cells__set, [], []⟩,
  ⟨("Cells", some "_change"), "_change", "Cells._change", defArgs s_Cells__change, defBody s_Cells__change, defScope s_Cells__change, [], []⟩,
  ⟨("Cells", some "put"), "put", "Cells.put", defArgs s_Cells_put, defBody s_Cells_put, defScope s_Cells_put, [], []⟩,
  ⟨("Cells", some "define"), "define", "Cells.define", defArgs s_Cells_define, defBody s_Cells_define, defScope s_Cells_define, [], []⟩,
  ⟨("Cells", some "ask"), "ask", "Cells.ask", defArgs s_Cells_ask, defBody s_Cells_ask, defScope s_Cells_ask, [], []⟩,
  ⟨("Cells", some "answer"), "answer", "Cells.answer", defArgs s_Cells_answer, defBody s_Cells_answer, defScope s_Cells_answer, [], []⟩,
  ⟨("Cells", some "_answered"), "_answered", "Cells._answered", defArgs s_Cells__answered, defBody s_Cells__answered, defScope s_Cells__answered, [], []⟩,
  ⟨("Cells", some "_evaluated"), "_evaluated", "Cells._evaluated", defArgs s_Cells__evaluated, defBody s_Cells__evaluated, defScope s_Cells__evaluated, [], []⟩]
def hfn1 : List He.DefD := [⟨("Cells", some "_close"), "_close", "Cells._close", defArgs s_Cells__close, defBody s_Cells__close, defScope s_Cells__close, [], []⟩,
  ⟨("Cells", some "reads"), "reads", "Cells.reads", defArgs s_Cells_reads, defBody s_Cells_reads, defScope s_Cells_reads, [], []⟩,
  ⟨("Asking", some "__init__"), "__init__", "Asking.__init__", defArgs s_Asking___init__, defBody s_Asking___init__, defScope s_Asking___init__, [], []⟩,
  ⟨("Memo", some "__init__"), "__init__", "Memo.__init__", defArgs s_Memo___init__, defBody s_Memo___init__, defScope s_Memo___init__, [], []⟩,
  ⟨("Revision", some "__init__"), "__init__", "Revision.__init__", defArgs s_Revision___init__, defBody s_Revision___init__, defScope s_Revision___init__, [], []⟩,
  ⟨("Cells", some "__init__"), "__init__", "Cells.__init__", defArgs s_Cells___init__, defBody s_Cells___init__, defScope s_Cells___init__, [], []⟩]
def hfn : List He.DefD := hfn0 ++ hfn1
def hts : List He.Tab := [(fun K => He.ga K "LENGTHS", ["plus", "least", "or", "if", "cyclic"])]
def hex (K : PySem.W.Frag) : Bool := (tup0B K (He.dflAt ("check_formula", none) 0 K)) && (He.valsB K (He.ga K "LENGTHS") [("plus", .int 3), ("least", .int 3), ("or", .int 3), ("if", .int 4), ("cyclic", .int 2)]) && (true)
theorem facts_of {w : World} {K : PySem.W.Frag} {h : Heap} {mg : Str → Option Value} (X : K.In h) (G : h.Ns mainGlobals mg) (c0 : He.SaysT hfa hfn hts w K) (m : hex K = true) : Facts w K mg := by
  have c := c0.d
  unfold hex at m
  simp only [Bool.and_eq_true, Bool.and_true] at m
  obtain ⟨f_is_name, F_is_name⟩ := c.def_ 0 rfl
  obtain ⟨f_is_in_range, F_is_in_range⟩ := c.def_ 1 rfl
  obtain ⟨f_check_formula, F_check_formula⟩ := c.def_ 2 rfl
  obtain ⟨f_check_parts, F_check_parts⟩ := c.def_ 3 rfl
  obtain ⟨f_limited, F_limited⟩ := c.def_ 4 rfl
  obtain ⟨f_together, F_together⟩ := c.def_ 5 rfl
  obtain ⟨f_worth, F_worth⟩ := c.def_ 6 rfl
  obtain ⟨f__law_pool, F__law_pool⟩ := c.def_ 7 rfl
  obtain ⟨f__law_take, F__law_take⟩ := c.def_ 8 rfl
  obtain ⟨f__law_same, F__law_same⟩ := c.def_ 9 rfl
  obtain ⟨f__law_names, F__law_names⟩ := c.def_ 10 rfl
  obtain ⟨f__law_value, F__law_value⟩ := c.def_ 11 rfl
  obtain ⟨f__law_formula, F__law_formula⟩ := c.def_ 12 rfl
  obtain ⟨f__law_sum, F__law_sum⟩ := c.def_ 13 rfl
  obtain ⟨f__law_next, F__law_next⟩ := c.def_ 14 rfl
  obtain ⟨f__law_worth, F__law_worth⟩ := c.def_ 15 rfl
  obtain ⟨f__law_go_on, F__law_go_on⟩ := c.def_ 16 rfl
  obtain ⟨f__law_rings, F__law_rings⟩ := c.def_ 17 rfl
  obtain ⟨f__law_from_nothing, F__law_from_nothing⟩ := c.def_ 18 rfl
  obtain ⟨f_law, F_law⟩ := c.def_ 19 rfl
  obtain ⟨f_Asking_told, F_Asking_told⟩ := c.def_ 20 rfl
  obtain ⟨f_Asking_is_same, F_Asking_is_same⟩ := c.def_ 21 rfl
  obtain ⟨f_Cells__set, F_Cells__set⟩ := c.def_ 22 rfl
  obtain ⟨f_Cells__change, F_Cells__change⟩ := c.def_ 23 rfl
  obtain ⟨f_Cells_put, F_Cells_put⟩ := c.def_ 24 rfl
  obtain ⟨f_Cells_define, F_Cells_define⟩ := c.def_ 25 rfl
  obtain ⟨f_Cells_ask, F_Cells_ask⟩ := c.def_ 26 rfl
  obtain ⟨f_Cells_answer, F_Cells_answer⟩ := c.def_ 27 rfl
  obtain ⟨f_Cells__answered, F_Cells__answered⟩ := c.def_ 28 rfl
  obtain ⟨f_Cells__evaluated, F_Cells__evaluated⟩ := c.def_ 29 rfl
  obtain ⟨f_Cells__close, F_Cells__close⟩ := c.def_ 30 rfl
  obtain ⟨f_Cells_reads, F_Cells_reads⟩ := c.def_ 31 rfl
  obtain ⟨f_Asking, F_Asking⟩ := c.def_ 32 rfl
  obtain ⟨f_Memo, F_Memo⟩ := c.def_ 33 rfl
  obtain ⟨f_Revision, F_Revision⟩ := c.def_ 34 rfl
  obtain ⟨f_Cells, F_Cells⟩ := c.def_ 35 rfl
  exact {
    d_is_name := .mkOf (He.glo_ok X G (c.fact 0 rfl)) F_is_name (fun _ _ _ _ _ _ us hl => match us, hl with | [_], _ => rfl)
    d_is_in_range := .mkOf (He.glo_ok X G (c.fact 1 rfl)) F_is_in_range (fun _ _ _ _ _ _ us hl => match us, hl with | [_], _ => rfl)
    d_check_formula := .mkOf 1 rfl (He.glo_ok X G (c.fact 2 rfl)) F_check_formula (fun _ _ _ _ _ _ _ us its h1 h2 => match us, h1, its, h2 with | [_, _], _, [_], _ => ⟨_, rfl, rfl⟩) (fun _ _ _ _ _ _ _ us its h1 h2 => match us, h1, its, h2 with | [_], _, [_], _ => ⟨_, rfl, rfl⟩) m.1
    d_check_parts := .mkOf (He.glo_ok X G (c.fact 3 rfl)) F_check_parts (fun _ _ _ _ _ _ us hl => match us, hl with | [_, _], _ => rfl)
    d_limited := .mkOf (He.glo_ok X G (c.fact 4 rfl)) F_limited (fun _ _ _ _ _ _ us hl => match us, hl with | [_], _ => rfl)
    d_together := .mkOf (He.glo_ok X G (c.fact 5 rfl)) F_together (fun _ _ _ _ _ _ us hl => match us, hl with | [_, _, _], _ => rfl)
    d_worth := .mkOf (He.glo_ok X G (c.fact 6 rfl)) F_worth (fun _ _ _ _ _ _ us hl => match us, hl with | [_, _], _ => rfl)
    d__law_pool := .mkOf (He.glo_ok X G (c.fact 7 rfl)) F__law_pool (fun _ _ _ _ _ _ us hl => match us, hl with | [_], _ => rfl)
    d__law_take := .mkOf (He.glo_ok X G (c.fact 8 rfl)) F__law_take (fun _ _ _ _ _ _ us hl => match us, hl with | [_, _], _ => rfl)
    d__law_same := .mkOf (He.glo_ok X G (c.fact 9 rfl)) F__law_same (fun _ _ _ _ _ _ us hl => match us, hl with | [_, _], _ => rfl)
    d__law_names := .mkOf (He.glo_ok X G (c.fact 10 rfl)) F__law_names (fun _ _ _ _ _ _ us hl => match us, hl with | [_, _], _ => rfl)
    d__law_value := .mkOf (He.glo_ok X G (c.fact 11 rfl)) F__law_value (fun _ _ _ _ _ _ us hl => match us, hl with | [_], _ => rfl)
    d__law_formula := .mkOf (He.glo_ok X G (c.fact 12 rfl)) F__law_formula (fun _ _ _ _ _ _ us hl => match us, hl with | [_, _, _], _ => rfl)
    d__law_sum := .mkOf (He.glo_ok X G (c.fact 13 rfl)) F__law_sum (fun _ _ _ _ _ _ us hl => match us, hl with | [_, _, _], _ => rfl)
    d__law_next := .mkOf (He.glo_ok X G (c.fact 14 rfl)) F__law_next (fun _ _ _ _ _ _ us hl => match us, hl with | [_, _, _], _ => rfl)
    d__law_worth := .mkOf (He.glo_ok X G (c.fact 15 rfl)) F__law_worth (fun _ _ _ _ _ _ us hl => match us, hl with | [_, _], _ => rfl)
    d__law_go_on := .mkOf (He.glo_ok X G (c.fact 16 rfl)) F__law_go_on (fun _ _ _ _ _ _ us hl => match us, hl with | [_, _], _ => rfl)
    d__law_rings := .mkOf (He.glo_ok X G (c.fact 17 rfl)) F__law_rings (fun _ _ _ _ _ _ us hl => match us, hl with | [_], _ => rfl)
    d__law_from_nothing := .mkOf (He.glo_ok X G (c.fact 18 rfl)) F__law_from_nothing (fun _ _ _ _ _ _ us hl => match us, hl with | [_], _ => rfl)
    d_law := .mkOf (He.glo_ok X G (c.fact 19 rfl)) F_law (fun _ _ _ _ _ _ us hl => match us, hl with | [_], _ => rfl)
    m_Asking_told := .mkOf (He.cls_ok (c.fact 21 rfl)) (He.meth_ok (c.fact 20 rfl)) F_Asking_told (fun _ _ _ _ _ _ us hl => match us, hl with | [_, _], _ => rfl)
    m_Asking_is_same := .mkOf (He.cls_ok (c.fact 21 rfl)) (He.meth_ok (c.fact 22 rfl)) F_Asking_is_same (fun _ _ _ _ _ _ us hl => match us, hl with | [_, _], _ => rfl)
    m_Cells__set := .mkOf (He.cls_ok (c.fact 24 rfl)) (He.meth_ok (c.fact 23 rfl)) F_Cells__set (fun _ _ _ _ _ _ us hl => match us, hl with | [_, _, _], _ => rfl)
    m_Cells__change := .mkOf (He.cls_ok (c.fact 24 rfl)) (He.meth_ok (c.fact 25 rfl)) F_Cells__change (fun _ _ _ _ _ _ us hl => match us, hl with | [_, _], _ => rfl)
    m_Cells_put := .mkOf (He.cls_ok (c.fact 24 rfl)) (He.meth_ok (c.fact 26 rfl)) F_Cells_put (fun _ _ _ _ _ _ us hl => match us, hl with | [_, _, _], _ => rfl)
    m_Cells_define := .mkOf (He.cls_ok (c.fact 24 rfl)) (He.meth_ok (c.fact 27 rfl)) F_Cells_define (fun _ _ _ _ _ _ us hl => match us, hl with | [_, _, _], _ => rfl)
    m_Cells_ask := .mkOf (He.cls_ok (c.fact 24 rfl)) (He.meth_ok (c.fact 28 rfl)) F_Cells_ask (fun _ _ _ _ _ _ us hl => match us, hl with | [_, _], _ => rfl)
    m_Cells_answer := .mkOf (He.cls_ok (c.fact 24 rfl)) (He.meth_ok (c.fact 29 rfl)) F_Cells_answer (fun _ _ _ _ _ _ us hl => match us, hl with | [_, _], _ => rfl)
    m_Cells__answered := .mkOf (He.cls_ok (c.fact 24 rfl)) (He.meth_ok (c.fact 30 rfl)) F_Cells__answered (fun _ _ _ _ _ _ us hl => match us, hl with | [_, _, _], _ => rfl)
    m_Cells__evaluated := .mkOf (He.cls_ok (c.fact 24 rfl)) (He.meth_ok (c.fact 31 rfl)) F_Cells__evaluated (fun _ _ _ _ _ _ us hl => match us, hl with | [_, _, _], _ => rfl)
    m_Cells__close := .mkOf (He.cls_ok (c.fact 24 rfl)) (He.meth_ok (c.fact 32 rfl)) F_Cells__close (fun _ _ _ _ _ _ us hl => match us, hl with | [_, _, _], _ => rfl)
    m_Cells_reads := .mkOf (He.cls_ok (c.fact 24 rfl)) (He.meth_ok (c.fact 33 rfl)) F_Cells_reads (fun _ _ _ _ _ _ us hl => match us, hl with | [_, _], _ => rfl)
    k_Asking := .mkOf (He.cls_ok (c.fact 21 rfl)) (He.mkr_ok (c.fact 34 rfl)) (He.glo_ok X G (c.fact 35 rfl)) F_Asking (fun _ _ _ _ _ _ us hl => match us, hl with | [_, _, _], _ => rfl)
    n_Asking_cells := He.noat_ok (c.fact 36 rfl)
    n_Asking_name := He.noat_ok (c.fact 37 rfl)
    n_Asking_reads := He.noat_ok (c.fact 38 rfl)
    n_Asking_last := He.noat_ok (c.fact 39 rfl)
    k_Memo := .mkOf (He.cls_ok (c.fact 41 rfl)) (He.mkr_ok (c.fact 40 rfl)) (He.glo_ok X G (c.fact 42 rfl)) F_Memo (fun _ _ _ _ _ _ us hl => match us, hl with | [_, _, _, _], _ => rfl)
    n_Memo_reads := He.noat_ok (c.fact 43 rfl)
    n_Memo_last := He.noat_ok (c.fact 44 rfl)
    n_Memo_answer := He.noat_ok (c.fact 45 rfl)
    k_Revision := .mkOf (He.cls_ok (c.fact 47 rfl)) (He.mkr_ok (c.fact 46 rfl)) (He.glo_ok X G (c.fact 48 rfl)) F_Revision (fun _ _ _ _ _ _ us hl => match us, hl with | [_], _ => rfl)
    n_Revision_answers := He.noat_ok (c.fact 49 rfl)
    n_Revision_run := He.noat_ok (c.fact 50 rfl)
    n_Revision_kept := He.noat_ok (c.fact 51 rfl)
    n_Revision_cyclic := He.noat_ok (c.fact 52 rfl)
    k_Cells := .mkOf (He.cls_ok (c.fact 24 rfl)) (He.mkr_ok (c.fact 53 rfl)) (He.glo_ok X G (c.fact 54 rfl)) F_Cells (fun _ _ _ _ _ _ us hl => match us, hl with | [_], _ => rfl)
    n_Cells__rules := He.noat_ok (c.fact 55 rfl)
    n_Cells__memos := He.noat_ok (c.fact 56 rfl)
    n_Cells__open := He.noat_ok (c.fact 57 rfl)
    n_Cells__revision := He.noat_ok (c.fact 58 rfl)
    b_isinstance := He.free_ok X G (c.fact 59 rfl)
    b_tuple := He.free_ok X G (c.fact 60 rfl)
    b_range := He.free_ok X G (c.fact 61 rfl)
    b_max := He.free_ok X G (c.fact 62 rfl)
    b_min := He.free_ok X G (c.fact 63 rfl)
    b_str := He.free_ok X G (c.fact 64 rfl)
    b_all := He.free_ok X G (c.fact 65 rfl)
    b_len := He.free_ok X G (c.fact 66 rfl)
    b_int := He.free_ok X G (c.fact 67 rfl)
    b_list := He.free_ok X G (c.fact 68 rfl)
    b_bool := He.free_ok X G (c.fact 69 rfl)
    g_MOST := He.int_ok X G (c.fact 70 rfl)
    g_MOST_DEPTH := He.int_ok X G (c.fact 71 rfl)
    g_LENGTHS := He.glo_ok X G (c.fact 72 rfl)
    t_LENGTHS := c0.tab 0 rfl
    v_LENGTHS := m.2
    g_LETTERS := He.str_ok X G (c.fact 73 rfl)
    g_MOST_CELLS := He.int_ok X G (c.fact 74 rfl) }
def loose0 : List PySem.Str := ["_wall", "__name__", "TongueError", "MOST", "MOST_DEPTH", "LENGTHS", "LETTERS", "BadName", "BadValue", "BadFormula", "is_name", "is_in_range", "check_formula", "check_parts", "limited", "together", "worth", "MOST_CELLS", "NoCell", "TooManyCells", "Ring", "Asking", "Memo", "Revision", "Cells", "_law_pool", "_law_take", "_law_same", "_law_names", "_law_value"]
def loose1 : List PySem.Str := ["_law_formula", "_law_sum", "_law_next", "_law_worth", "_law_go_on", "_law_rings", "_law_from_nothing"]
def loose : List PySem.Str := loose0 ++ loose1
abbrev R : PySem.W.OpenRow := PySem.W.OpenLaw.row PySem.Challenge.rw_tongues_k25_formulas_without_rings
abbrev qv : Program := PySem.W.view R.prog [40]
abbrev hk : PySem.W.Hook := He.hookX 5 hfa hfn hts [] hex
def ob (s : PySem.W.SharedT) : He.AlX := He.obsX 5 hfa hfn hts [] hex (HandSHeadRun.getT s)
theorem ob_eq (s : PySem.W.SharedT) : ob s = hk.obs s.abs := He.obsX_eq (HandSHeadRun.getT_eq s)
theorem run (w : World) : HandSHeadRun.RunEq R qv hk ob 6000 loose w := by
  refine PySem.W.byRow2 "special-get-raises" (P := fun w => HandSHeadRun.RunEq R qv hk ob 6000 loose w) (fun w => ?_) (fun w => ?_) w
  · intro os
    kernel_rfl
  · intro os
    kernel_rfl
end Q

open PySem PySem.W PySem.Calls PyProof.Rows
theorem PySem.Challenge.cw_tongues_k25_formulas_without_rings_holds : PySem.Challenge.rw_tongues_k25_formulas_without_rings.Holds := by
  w_on; o_law
  refine HandSHeadRun.head_any (r := Q.R) (q := Q.qv) (H := Q.hk) (ob := Q.ob) (M := 6000) (loose := Q.loose) (d := HandSHeadRun.topDef Q.R.prog 40) (kwd := []) Q.ob_eq
    (by kernel_rfl) (fun s => by kernel_rfl) Q.run (by kernel_rfl) (by kernel_rfl) (by kernel_rfl) (by rfl) (by first | assumption | decide +kernel) (by decide +kernel) ⟨rfl, rfl, rfl, rfl, rfl, by decide +kernel⟩ ?hw ?hc
  case hw => w_witness2
  case hc =>
    refine L2.walk_ofE (l := PySem.Challenge.rw_tongues_k25_formulas_without_rings) (n := 63) (k := 200) (x := "_law_script") (CX := L2.CX0) rfl (by decide) (by kernel_rfl) ⟨rfl, by decide, by decide⟩ ?F (fun _ _ _ _ z => z)
    intro w mg fa h Y G hmg0
    obtain ⟨K, KX, c⟩ := Y
    have hmg : mg ("law" : PySem.Str) = some (.ref fa) := by
      have e : (HandSHeadRun.topDef Q.R.prog 40).name = ("law" : PySem.Str) := by kernel_rfl
      rw [← e]
      exact hmg0
    have T : Q.Facts w K mg := Q.facts_of KX G c.t c.more
    have e := hmg.symm.trans T.d_law.g
    cases e
    exact ⟨K, Q.fdOf K (He.ga K "law"), Q.spLaw K, KX, fun s v => T.d_law.F.bindsA (ps := ["_law_script"]) (fun _ _ _ _ _ _ us hl => match us, hl with | [_], _ => rfl) s [v] rfl, fun H a ns hl _ hS => ⟨a, ns, rfl, hS, hl, fun _ => rfl⟩, fun base _ _ => Q.ok_law T⟩
