import PyProof.Rows.All
import Wide.All
import OpenK.AllK
import Wide.FinOn
import HandS.ForMost
import HandS.Deep
import HandS.IsInst
import HandS.FStr
import HandS.Wide
import HandS.Style
import HandS.Flow
import HandS.ForExc
import HandS.Codes
import KE.IntTextText
import PyProof.Rows.StrDigitsNeg
import PySem.Challenge.RW_whichran_k81_whole_texts_of_numbers_rows
import HandS.ExcInit
import KE.KSuper
import KE.KExcSuper
import KE.KExcMake
import HandS.CallLocal
import HandS.Steps
import HandS.Lambda
import HandS.EndTab
import PyProof.CollectStr
import PyProof.ListCopy
import HandS.HeadHook2
import KE.KNestM
import KE.KLam
set_option Elab.async false
set_option linter.all false
set_option maxRecDepth 100000
/-! JLay: judgements on plain data over HandS: no heap in the goals. -/
namespace JL
open PySem PySem.Spec PyProof.Rows L2

/-! ### what a piece of syntax does, as a reading -/
def WE (X : Cx) (e : Expr) : TE := fun σ H Q => ∀ pins s, Inv X pins σ H s → wpAny (model X.prog X.w) X.A (eval e X.env) (EP X pins σ Q) X.xe s
def WT (X : Cx) (e : Expr) : TT := fun σ H Q => ∀ pins s, Inv X pins σ H s → wpAny (model X.prog X.w) X.A (isTrue e X.env (eval e X.env)) (TP X pins σ Q) X.xe s
def WW (X : Cx) (e : Expr) : TT := fun σ H Q => ∀ whole pins s, Inv X pins σ H s → wpAny (model X.prog X.w) X.A (isTrue e X.env whole) (TP X pins σ Q) X.xe s
def WA (X : Cx) (es : List Expr) : TA := fun σ H Q => ∀ pos pins s, Inv X pins σ H s → wpAny (model X.prog X.w) X.A (spliced (backTo pos (starEach es X.env))) (AP X pins σ Q) X.xe s
def WS (X : Cx) (st : Stmt) : TS := fun D σ H => ∀ pins s, Inv X pins σ H s → wpAny (model X.prog X.w) X.A (exec st X.env) (SP X pins D) X.xe s
def WB (X : Cx) (sts : List Stmt) : TS := fun D σ H => ∀ pins s, Inv X pins σ H s → wpAny (model X.prog X.w) X.A (execs sts X.env) (SP X pins D) X.xe s
theorem pwe {X : Cx} {e : Expr} : PE X e (WE X e) := ⟨fun pins s _ _ _ I h => h pins s I⟩
theorem pwt {X : Cx} {e : Expr} : PT X e (WT X e) := ⟨fun pins s _ _ _ I h => h pins s I⟩
theorem pww {X : Cx} {e : Expr} : PW X e (WW X e) := ⟨fun wh pins s _ _ _ I h => h wh pins s I⟩
theorem pwa {X : Cx} {es : List Expr} : PA X es (WA X es) := ⟨fun pos pins s _ _ _ I h => h pos pins s I⟩
theorem pws {X : Cx} {st : Stmt} : PS X st (WS X st) := ⟨fun pins s _ _ _ I h => h pins s I⟩
theorem pwb {X : Cx} {sts : List Stmt} : PSs X sts (WB X sts) := ⟨fun pins s _ _ _ I h => h pins s I⟩

/-! ### data in the heap -/
mutual
theorem dp_mono {K : PySem.W.Frag} {H H' : Hp} (e : Same H H') : ∀ {v : V} {d : PyData}, Dp K H v d → Dp K H' v d
  | _, _, .non => .non
  | _, _, .bl b => .bl b
  | _, _, .int i => .int i
  | _, _, .str x => .str x
  | _, _, .lst h a => .lst (e.seq h) (dpa_mono e a)
  | _, _, .tup h a => .tup (by
      rcases h with (h | ⟨o, h⟩) | h
      · exact .inl (.inl (e _ _ h))
      · exact .inl (.inr ⟨o, e _ _ h⟩)
      · exact .inr h) (dpa_mono e a)
theorem dpa_mono {K : PySem.W.Frag} {H H' : Hp} (e : Same H H') : ∀ {vs : List V} {ds : List PyData}, DpAll K H vs ds → DpAll K H' vs ds
  | _, _, .nil => .nil
  | _, _, .cons h t => .cons (dp_mono e h) (dpa_mono e t)
end
theorem dpa_len {K : PySem.W.Frag} {H : Hp} : ∀ {vs : List V} {ds : List PyData}, DpAll K H vs ds → vs.length = ds.length
  | _, _, .nil => rfl
  | _, _, .cons _ t => congrArg (· + 1) (dpa_len t)
theorem dpa_get {K : PySem.W.Frag} {H : Hp} : ∀ {vs : List V} {ds : List PyData} {i : Nat} {d : PyData}, DpAll K H vs ds → ds[i]? = some d → ∃ v, vs[i]? = some v ∧ Dp K H v d
  | _, _, _, _, .nil, h => by simp at h
  | _, _, 0, _, .cons h _, e => by simp at e; subst e; exact ⟨_, rfl, h⟩
  | _, _, i + 1, _, .cons _ t, e => by
    obtain ⟨v, h1, h2⟩ := dpa_get (i := i) t (by simpa using e)
    exact ⟨v, by simpa using h1, h2⟩
theorem dpa_app {K : PySem.W.Frag} {H : Hp} : ∀ {vs ws : List V} {ds es : List PyData}, DpAll K H vs ds → DpAll K H ws es → DpAll K H (vs ++ ws) (ds ++ es)
  | _, _, _, _, .nil, h => h
  | _, _, _, _, .cons h t, h2 => .cons h (dpa_app t h2)
theorem dpa_ints {K : PySem.W.Frag} {H : Hp} : ∀ (l : List Int), DpAll K H (l.map V.int) (l.map PyData.int)
  | [] => .nil
  | i :: l => .cons (.int i) (dpa_ints l)
theorem dpa_strs {K : PySem.W.Frag} {H : Hp} : ∀ (l : List Str), DpAll K H (l.map V.str) (l.map PyData.str)
  | [] => .nil
  | i :: l => .cons (.str i) (dpa_strs l)
theorem of_dpa_strs {K : PySem.W.Frag} {H : Hp} : ∀ {l : List Str} {vs : List V}, DpAll K H vs (l.map PyData.str) → vs = l.map V.str
  | [], _, .nil => rfl
  | i :: l, _, .cons h t => by
    cases h
    rw [of_dpa_strs t]
    rfl
theorem of_dpa_bools {K : PySem.W.Frag} {H : Hp} : ∀ {l : List Bool} {vs : List V}, DpAll K H vs (l.map PyData.bool) → vs = l.map V.bl
  | [], _, .nil => rfl
  | i :: l, _, .cons h t => by
    cases h
    rw [of_dpa_bools t]
    rfl
/-- data without an object of its own -/
def flatD : PyData → Bool
  | .none => true
  | .bool _ => true
  | .int _ => true
  | .str _ => true
  | _ => false
def vOf : PyData → V
  | .bool b => .bl b
  | .int i => .int i
  | .str s => .str s
  | _ => .non
theorem dp_flat {K : PySem.W.Frag} {H : Hp} {v : V} {d : PyData} (h : Dp K H v d) (hf : flatD d = true) : v = vOf d := by
  cases h <;> first | rfl | cases hf

/-! ### slots that hold data -/
abbrev Rho := List (Option PyData)
structure EnvD (K : PySem.W.Frag) (H : Hp) (σ : L2.St) (ρ : Rho) : Prop where
  len : ρ.length = σ.length
  get : ∀ (i : Nat) (d : PyData), ρ[i]? = some (some d) → ∃ v, σ[i]? = some (some v) ∧ Dp K H v d
theorem EnvD.mono {K : PySem.W.Frag} {H H' : Hp} {σ : L2.St} {ρ : Rho} (e : EnvD K H σ ρ) (s : Same H H') : EnvD K H' σ ρ :=
  ⟨e.len, fun i d h => let ⟨v, h1, h2⟩ := e.get i d h; ⟨v, h1, dp_mono s h2⟩⟩
theorem EnvD.set {K : PySem.W.Frag} {H : Hp} {σ : L2.St} {ρ : Rho} (e : EnvD K H σ ρ) {v : V} {d : PyData} (i : Nat) (h : Dp K H v d) : EnvD K H (σ.set i (some v)) (ρ.set i (some d)) := by
  refine ⟨by simpa using e.len, fun j d' hj => ?_⟩
  by_cases hji : j = i
  · subst hji
    by_cases hl : j < ρ.length
    · rw [List.getElem?_set_self hl] at hj
      cases hj
      exact ⟨v, by rw [List.getElem?_set_self (by rw [← e.len]; exact hl)], h⟩
    · rw [List.getElem?_eq_none (by simpa using hl)] at hj
      cases hj
  · rw [List.getElem?_set_ne (Ne.symm hji)] at hj
    obtain ⟨v', h1, h2⟩ := e.get j d' hj
    exact ⟨v', by rw [List.getElem?_set_ne (Ne.symm hji)]; exact h1, h2⟩
/-- fewer slots known -/
theorem EnvD.weak {K : PySem.W.Frag} {H : Hp} {σ : L2.St} {ρ ρ' : Rho} (e : EnvD K H σ ρ) (hl : ρ'.length = ρ.length) (w : ∀ (i : Nat) (d : PyData), ρ'[i]? = some (some d) → ρ[i]? = some (some d)) : EnvD K H σ ρ' :=
  ⟨hl.trans e.len, fun (i : Nat) (d : PyData) h => e.get i d (w i d h)⟩
theorem EnvD.start {K : PySem.W.Frag} {H : Hp} {vs : List V} {ds : List PyData} (N : List Str) (h : DpAll K H vs ds) : EnvD K H (start N vs) (ds.map some ++ List.replicate (N.length - ds.length) none) := by
  have hl := dpa_len h
  refine ⟨by unfold L2.start; rw [← hl]; simp [hl], fun i d hi => ?_⟩
  by_cases hlt : i < ds.length
  · rw [List.getElem?_append_left (by simpa using hlt), List.getElem?_map] at hi
    cases hd : ds[i]? with
    | none => rw [hd] at hi; cases hi
    | some d' =>
      rw [hd] at hi
      simp at hi
      subst hi
      obtain ⟨v, h1, h2⟩ := dpa_get h hd
      refine ⟨v, ?_, h2⟩
      unfold L2.start
      rw [List.getElem?_append_left (by rw [List.length_map, hl]; exact hlt), List.getElem?_map, h1]
      rfl
  · rw [List.getElem?_append_right (by simpa using hlt)] at hi
    have := List.mem_of_getElem? hi
    have := List.eq_of_mem_replicate this
    cases this

/-! ### the judgements -/
def J (X : Cx) (ρ : Rho) (e : Expr) (d : PyData) : Prop := ∀ σ H, EnvD X.K H σ ρ → ∀ Q : VK, (∀ v H2, Same H H2 → Dp X.K H2 v d → Q v H2) → WE X e σ H Q
def JT (X : Cx) (ρ : Rho) (e : Expr) (b : Bool) : Prop := ∀ σ H, EnvD X.K H σ ρ → ∀ Q : Bool → Hp → Prop, (∀ H2, Same H H2 → Q b H2) → WT X e σ H Q
def JW (X : Cx) (ρ : Rho) (e : Expr) (b : Bool) : Prop := ∀ σ H, EnvD X.K H σ ρ → ∀ Q : Bool → Hp → Prop, (∀ H2, Same H H2 → Q b H2) → WW X e σ H Q
def JA (X : Cx) (ρ : Rho) (es : List Expr) (ds : List PyData) : Prop := ∀ σ H, EnvD X.K H σ ρ → ∀ Q : List V → Hp → Prop, (∀ vs H2, Same H H2 → DpAll X.K H2 vs ds → Q vs H2) → WA X es σ H Q
inductive Out where
  | nx (ρ : Rho) | rt (d : PyData) | bk (ρ : Rho) | ct (ρ : Rho)
def Out.Ok (K : PySem.W.Frag) (H : Hp) (D : Ends) : Out → Prop
  | .nx ρ => ∀ σ' H2, Same H H2 → EnvD K H2 σ' ρ → D.nx σ' H2
  | .rt d => ∀ v H2, Same H H2 → Dp K H2 v d → D.rt v H2
  | .bk ρ => ∀ σ' H2, Same H H2 → EnvD K H2 σ' ρ → D.bk σ' H2
  | .ct ρ => ∀ σ' H2, Same H H2 → EnvD K H2 σ' ρ → D.ct σ' H2
theorem Out.Ok.mono {K : PySem.W.Frag} {H H' : Hp} {D : Ends} {o : Out} (h : o.Ok K H D) (e : Same H H') : o.Ok K H' D := by
  cases o with
  | nx ρ => exact fun σ' H2 s => h σ' H2 (e.trans s)
  | rt d => exact fun v H2 s => h v H2 (e.trans s)
  | bk ρ => exact fun σ' H2 s => h σ' H2 (e.trans s)
  | ct ρ => exact fun σ' H2 s => h σ' H2 (e.trans s)
def JS (X : Cx) (ρ : Rho) (st : Stmt) (o : Out) : Prop := ∀ σ H, EnvD X.K H σ ρ → ∀ D : Ends, o.Ok X.K H D → WS X st D σ H
def JB (X : Cx) (ρ : Rho) (sts : List Stmt) (o : Out) : Prop := ∀ σ H, EnvD X.K H σ ρ → ∀ D : Ends, o.Ok X.K H D → WB X sts D σ H

section
variable {X : Cx} {ρ : Rho} {e a b : Expr} {es : List Expr} {d da db : PyData} {ds : List PyData} {te : TE}
theorem J.of (h : PE X e te) (q : ∀ σ H, EnvD X.K H σ ρ → ∀ Q : VK, (∀ v H2, Same H H2 → Dp X.K H2 v d → Q v H2) → te σ H Q) : J X ρ e d :=
  fun σ H E Q k pins s I => h.run pins s σ H Q I (q σ H E Q k)
theorem JT.of {tt : TT} {c : Bool} (h : PT X e tt) (q : ∀ σ H, EnvD X.K H σ ρ → ∀ Q : Bool → Hp → Prop, (∀ H2, Same H H2 → Q c H2) → tt σ H Q) : JT X ρ e c :=
  fun σ H E Q k pins s I => h.run pins s σ H Q I (q σ H E Q k)
theorem JW.of {tt : TT} {c : Bool} (h : PW X e tt) (q : ∀ σ H, EnvD X.K H σ ρ → ∀ Q : Bool → Hp → Prop, (∀ H2, Same H H2 → Q c H2) → tt σ H Q) : JW X ρ e c :=
  fun σ H E Q k wh pins s I => h.run wh pins s σ H Q I (q σ H E Q k)
theorem JS.of {ts : TS} {st : Stmt} {o : Out} (h : PS X st ts) (q : ∀ σ H, EnvD X.K H σ ρ → ∀ D : Ends, o.Ok X.K H D → ts D σ H) : JS X ρ st o :=
  fun σ H E D k pins s I => h.run pins s σ H D I (q σ H E D k)
theorem JB.of {ts : TS} {sts : List Stmt} {o : Out} (h : PSs X sts ts) (q : ∀ σ H, EnvD X.K H σ ρ → ∀ D : Ends, o.Ok X.K H D → ts D σ H) : JB X ρ sts o :=
  fun σ H E D k pins s I => h.run pins s σ H D I (q σ H E D k)
theorem J.cast {d' : PyData} (h : J X ρ e d) (q : d = d') : J X ρ e d' := q ▸ h
theorem JT.cast {c c' : Bool} (h : JT X ρ e c) (q : c = c') : JT X ρ e c' := q ▸ h
theorem JB.cast {sts : List Stmt} {o o' : Out} (h : JB X ρ sts o) (q : o = o') : JB X ρ sts o' := q ▸ h

/-! ### names, constants -/
theorem j_var {x : Str} {pos : Pos} (i : Nat) (hd : ρ[i]? = some (some d)) (hN : X.N[i]? = some x) (hv : Vis X.env.scope x) (h1 : (x == ("__debug__" : Str)) = false := by decide) (h2 : (x == ("__classdict__" : Str)) = false := by decide) : J X ρ (.Name x pos) d :=
  J.of (pe_var hN hv h1 h2) fun σ H E Q k => let ⟨v, h1, h2⟩ := E.get i d hd; ⟨v, h1, k v H (Same.refl H) h2⟩
theorem j_int {i j pos} : J X ρ (.Constant (.int i) j pos) (.int i) := J.of pe_int fun σ H E Q k => k _ H (Same.refl H) (.int i)
theorem j_bl {i j pos} : J X ρ (.Constant (.bool i) j pos) (.bool i) := J.of pe_bl fun σ H E Q k => k _ H (Same.refl H) (.bl i)
theorem j_non {j pos} : J X ρ (.Constant .none j pos) .none := J.of pe_non fun σ H E Q k => k _ H (Same.refl H) .non
theorem j_str {i j pos} : J X ρ (.Constant (.str i) j pos) (.str i) := J.of pe_str fun σ H E Q k => k _ H (Same.refl H) (.str i)
/-- a module's constant: an int, a text -/
theorem j_glob {x : Str} {pos : Pos} {v : V} {u : Value} (hg : Gl X x) (hm : X.mg x = some u) (r : RelV v u) (hd : ∀ H, Dp X.K H v d) (h1 : (x == ("__debug__" : Str)) = false := by decide) : J X ρ (.Name x pos) d :=
  J.of (pe_glob hg hm r h1) fun σ H E Q k => k v H (Same.refl H) (hd H)

/-! ### argument lists, displays -/
theorem ja_nil : JA X ρ [] [] := fun σ H E Q k pos pins s I => pa_nil.run pos pins s σ H Q I (k [] H (Same.refl H) .nil)
theorem ja_cons (h : J X ρ e d) (t : JA X ρ es ds) (hs : starEach (e :: es) X.env = (false, eval e X.env) :: starEach es X.env := by rfl) : JA X ρ (e :: es) (d :: ds) :=
  fun σ H E Q k pos pins s I => (pa_cons pwe pwa hs).run pos pins s σ H Q I
    (h σ H E _ fun v H1 s1 h1 => t σ H1 (E.mono s1) _ fun vs H2 s2 h2 => k (v :: vs) H2 (s1.trans s2) (.cons (dp_mono s2 h1) h2))
theorem j_tup {k pos} (h : JA X ρ es ds) (hl : ds.length ≤ 1000) : J X ρ (.Tuple es k pos) (.tuple ds) :=
  J.of (pe_tup pwa) fun σ H E Q q => h σ H E _ fun vs H1 s1 hv => ⟨Nat.le_of_lt (small1000 (by rw [dpa_len hv]; exact hl)), fun p np =>
    q (.ref p) _ (s1.trans (fun c o hc => by rw [upd_ne (ne_of_none hc np)]; exact hc)) (.tup (.inl (.inl upd_same)) (dpa_mono (fun c o hc => by rw [upd_ne (ne_of_none hc np)]; exact hc) hv))⟩
theorem j_lst {pos} (h : JA X ρ es ds) (hl : ds.length ≤ 1000) : J X ρ (.List es pos) (.list ds) :=
  J.of (pe_lst pwa) fun σ H E Q q => h σ H E _ fun vs H1 s1 hv => ⟨Nat.le_of_lt (small1000 (by rw [dpa_len hv]; exact hl)), fun p np =>
    q (.ref p) _ (s1.trans (fun c o hc => by rw [upd_ne (ne_of_none hc np)]; exact hc)) (.lst (.inl (.inl upd_same)) (dpa_mono (fun c o hc => by rw [upd_ne (ne_of_none hc np)]; exact hc) hv))⟩
end
end JL
/-! JOps: what operators, comparisons, built-ins do on plain data. -/
namespace JL
open PySem PySem.Spec PyProof.Rows L2

def lim : Nat := 100000
theorem lim_size {n : Nat} (h : n ≤ lim) : n ≤ sizeLine := Nat.le_trans h (by decide)

def binD : Operator → PyData → PyData → Option PyData
  | .Add, .int i, .int j => some (.int (i + j))
  | .Add, .str s, .str t => if s.length + t.length ≤ lim then some (.str (s ++ t)) else none
  | .Sub, .int i, .int j => some (.int (i - j))
  | .Mult, .int i, .int j => if i.natAbs.log2 + j.natAbs.log2 < 1000000 then some (.int (i * j)) else none
  | .FloorDiv, .int i, .int j => if 0 < j ∧ j.natAbs.log2 < 9000 then some (.int (i / j)) else none
  | .Mod, .int i, .int j => if j ≠ 0 then some (.int (i.fmod j)) else none
  | _, _, _ => none
def isNoneD : PyData → Bool
  | .none => true
  | _ => false
def cmpD : CmpOp → PyData → PyData → Option Bool
  | .Eq, a, b => if SeqAt.shaped a && SeqAt.shaped b then some (PyData.eqv a b) else none
  | .NotEq, a, b => if SeqAt.shaped a && SeqAt.shaped b then some (!PyData.eqv a b) else none
  | .Lt, .int i, .int j => some (decide (i < j))
  | .LtE, .int i, .int j => some (decide (i ≤ j))
  | .Gt, .int i, .int j => some (decide (j < i))
  | .GtE, .int i, .int j => some (decide (j ≤ i))
  | .LtE, .str s, .str t => some (!decide (t.cps.toList < s.cps.toList))
  | .Is, a, .none => some (isNoneD a)
  | .IsNot, a, .none => some (!isNoneD a)
  | .In, .str c, .str z => match c.cps.toList with
    | [k] => some (decide (k ∈ z.cps.toList))
    | _ => none
  | .NotIn, .str c, .str z => match c.cps.toList with
    | [k] => some (!decide (k ∈ z.cps.toList))
    | _ => none
  | .In, d, .list ds => if SeqAt.shaped d && SeqAt.shaped (.list ds) then some (ds.any fun z => PyData.eqv z d) else none
  | .NotIn, d, .list ds => if SeqAt.shaped d && SeqAt.shaped (.list ds) then some (!ds.any fun z => PyData.eqv z d) else none
  | .In, d, .tuple ds => if SeqAt.shaped d && SeqAt.shaped (.tuple ds) then some (ds.any fun z => PyData.eqv z d) else none
  | .NotIn, d, .tuple ds => if SeqAt.shaped d && SeqAt.shaped (.tuple ds) then some (!ds.any fun z => PyData.eqv z d) else none
  | _, _, _ => none

def rBin (K : PySem.W.Frag) (f : PyData → PyData → Option PyData) : R2 := fun x y H Q => ∃ d e r, Dp K H x d ∧ Dp K H y e ∧ f d e = some r ∧ Q (vOf r) H
def rCmp (K : PySem.W.Frag) (f : PyData → PyData → Option Bool) : R2 := fun x y H Q => ∃ d e r, Dp K H x d ∧ Dp K H y e ∧ f d e = some r ∧ Q (.bl r) H
theorem binD_flat {op : Operator} {a b r : PyData} (h : binD op a b = some r) : flatD r = true := by
  unfold binD at h
  split at h <;> first | (cases h; rfl) | (split at h <;> first | (cases h; rfl) | cases h) | cases h
section
variable {X : Cx}
theorem op_binD (op : Operator) : OpR X (binaryOp op) (rBin X.K (binD op)) := by
  intro pins s σ H x y v u Q I rx ry h
  obtain ⟨d, e, r, hd, he, hf, q⟩ := h
  unfold binD at hf
  split at hf
  · cases hf; cases hd; cases he
    exact op_add pins s σ H _ _ v u Q I rx ry ⟨_, _, rfl, rfl, q⟩
  · split at hf
    · rename_i hz
      cases hf; cases hd; cases he
      exact op_add_str pins s σ H _ _ v u Q I rx ry ⟨_, _, rfl, rfl, lim_size hz, q⟩
    · cases hf
  · cases hf; cases hd; cases he
    exact op_sub pins s σ H _ _ v u Q I rx ry ⟨_, _, rfl, rfl, q⟩
  · split at hf
    · rename_i hz
      cases hf; cases hd; cases he
      exact op_mulW pins s σ H _ _ v u Q I rx ry ⟨_, _, rfl, rfl, hz, q⟩
    · cases hf
  · split at hf
    · rename_i hz
      cases hf; cases hd; cases he
      exact op_fdivW pins s σ H _ _ v u Q I rx ry ⟨_, _, rfl, rfl, hz, q⟩
    · cases hf
  · split at hf
    · rename_i hz
      cases hf; cases hd; cases he
      exact op_modN pins s σ H _ _ v u Q I rx ry ⟨_, _, rfl, rfl, hz, q⟩
    · cases hf
  · cases hf
theorem op_inT (hu : X.A.units + 65 < cLine) : OpR X (compareOp .In) (fun x y H Q => ∃ d ds, Dp X.K H x d ∧ Dp X.K H y (.tuple ds) ∧ SeqAt.shaped d = true ∧ SeqAt.shaped (.tuple ds) = true ∧ Q (.bl (ds.any fun z => PyData.eqv z d)) H) := by
  intro pins s σ H x y v u Q I rx ry h
  obtain ⟨d, ds, hd, he, sd, se, q⟩ := h
  obtain ⟨as, r1⟩ := Dp.reads I d x v hd rx
  obtain ⟨bs, r2⟩ := Dp.reads I (.tuple ds) y u he ry
  exact SeqAt.in_tuple_reads r2 r1 (SeqAt.canLay_of_shaped se) (SeqAt.canLay_of_shaped sd) (room_in_shaped sd hu) ⟨.bl _, H, I, rfl, q⟩
theorem op_notInT (hu : X.A.units + 65 < cLine) : OpR X (compareOp .NotIn) (fun x y H Q => ∃ d ds, Dp X.K H x d ∧ Dp X.K H y (.tuple ds) ∧ SeqAt.shaped d = true ∧ SeqAt.shaped (.tuple ds) = true ∧ Q (.bl (!ds.any fun z => PyData.eqv z d)) H) := by
  intro pins s σ H x y v u Q I rx ry h
  obtain ⟨d, ds, hd, he, sd, se, q⟩ := h
  obtain ⟨as, r1⟩ := Dp.reads I d x v hd rx
  obtain ⟨bs, r2⟩ := Dp.reads I (.tuple ds) y u he ry
  exact SeqAt.notIn_tuple_reads r2 r1 (SeqAt.canLay_of_shaped se) (SeqAt.canLay_of_shaped sd) (room_in_shaped sd hu) ⟨.bl _, H, I, rfl, q⟩
theorem isN_dp {K : PySem.W.Frag} {H : Hp} {x : V} {d : PyData} (h : Dp K H x d) : decide (x = .non) = isNoneD d := by
  cases h <;> first | rfl | exact decide_eq_false (fun z => nomatch z)
theorem str_one {c : Str} {k : Nat} (h : c.cps.toList = [k]) : c = ⟨#[k]⟩ := by
  obtain ⟨a⟩ := c
  have e : a = #[k] := by rw [← Array.toArray_toList (xs := a)]; rw [show a.toList = [k] from h]
  rw [e]
theorem op_cmpD (hu : X.A.units + 65 < cLine) (op : CmpOp) : OpR X (compareOp op) (rCmp X.K (cmpD op)) := by
  intro pins s σ H x y v u Q I rx ry h
  obtain ⟨d, e, r, hd, he, hf, q⟩ := h
  unfold cmpD at hf
  split at hf
  · split at hf
    · rename_i hz
      cases hf
      rw [Bool.and_eq_true] at hz
      exact op_eqD (by omega) pins s σ H _ _ v u Q I rx ry ⟨_, _, hd, he, hz.1, hz.2, q⟩
    · cases hf
  · split at hf
    · rename_i hz
      cases hf
      rw [Bool.and_eq_true] at hz
      exact op_neD (by omega) pins s σ H _ _ v u Q I rx ry ⟨_, _, hd, he, hz.1, hz.2, q⟩
    · cases hf
  · cases hf; cases hd; cases he
    exact op_lt pins s σ H _ _ v u Q I rx ry ⟨_, _, rfl, rfl, q⟩
  · cases hf; cases hd; cases he
    exact op_le pins s σ H _ _ v u Q I rx ry ⟨_, _, rfl, rfl, q⟩
  · cases hf; cases hd; cases he
    exact op_gt pins s σ H _ _ v u Q I rx ry ⟨_, _, rfl, rfl, q⟩
  · cases hf; cases hd; cases he
    exact op_ge pins s σ H _ _ v u Q I rx ry ⟨_, _, rfl, rfl, q⟩
  · cases hf; cases hd; cases he
    exact op_le_str pins s σ H _ _ v u Q I rx ry ⟨_, _, rfl, rfl, q⟩
  · cases hf; cases he
    refine op_isN pins s σ H _ _ v u Q I rx ry ⟨rfl, ?_⟩
    rw [isN_dp hd]
    exact q
  · cases hf; cases he
    refine op_notN pins s σ H _ _ v u Q I rx ry ⟨rfl, ?_⟩
    rw [isN_dp hd]
    exact q
  · cases hd; cases he
    split at hf
    · rename_i hk
      cases hf
      exact op_in_sign pins s σ H _ _ v u Q I rx ry ⟨_, _, by rw [str_one hk], rfl, q⟩
    · cases hf
  · cases hd; cases he
    split at hf
    · rename_i hk
      cases hf
      exact op_notIn_sign pins s σ H _ _ v u Q I rx ry ⟨_, _, by rw [str_one hk], rfl, q⟩
    · cases hf
  · split at hf
    · rename_i hz
      cases hf
      rw [Bool.and_eq_true] at hz
      exact op_inD hu pins s σ H _ _ v u Q I rx ry ⟨_, _, hd, he, hz.1, hz.2, q⟩
    · cases hf
  · split at hf
    · rename_i hz
      cases hf
      rw [Bool.and_eq_true] at hz
      exact op_notInD hu pins s σ H _ _ v u Q I rx ry ⟨_, _, hd, he, hz.1, hz.2, q⟩
    · cases hf
  · split at hf
    · rename_i hz
      cases hf
      rw [Bool.and_eq_true] at hz
      exact op_inT hu pins s σ H _ _ v u Q I rx ry ⟨_, _, hd, he, hz.1, hz.2, q⟩
    · cases hf
  · split at hf
    · rename_i hz
      cases hf
      rw [Bool.and_eq_true] at hz
      exact op_notInT hu pins s σ H _ _ v u Q I rx ry ⟨_, _, hd, he, hz.1, hz.2, q⟩
    · cases hf
  · cases hf
end

/-! ### built-ins -/
inductive Bi where
  | len | abs | all | any | int | str | tuple | max2 | min2 | repr
  deriving DecidableEq
def allB : List PyData → Option (List Bool)
  | [] => some []
  | .bool b :: r => (allB r).map (b :: ·)
  | _ :: _ => none
theorem allB_map : ∀ {ds : List PyData} {bs : List Bool}, allB ds = some bs → ds = bs.map PyData.bool
  | [], bs, h => by
    cases h
    rfl
  | d :: r, bs, h => by
    cases d with
    | bool b =>
      cases e : allB r with
      | none => simp [allB, e] at h
      | some bs' =>
        simp [allB, e] at h
        subst h
        rw [allB_map e]
        rfl
    | _ => simp [allB] at h
def biD : Bi → List PyData → Option PyData
  | .len, [.str s] => if s.length ≤ lim then some (.int s.length) else none
  | .len, [.list ds] => some (.int ds.length)
  | .len, [.tuple ds] => some (.int ds.length)
  | .abs, [.int i] => some (.int (if i < 0 then -i else i))
  | .all, [.list ds] => (allB ds).map fun bs => .bool (bs.all id)
  | .any, [.list ds] => (allB ds).map fun bs => .bool (bs.any id)
  | .int, [.int i] => some (.int i)
  | .int, [.bool b] => some (.int (if b then 1 else 0))
  | .int, [.str s] => if s.length ≤ 640 then (PySem.intText? s).map .int else none
  | .str, [.int i] => if i.natAbs.log2 < 1920 then some (.str (toString i)) else none
  | .tuple, [.list ds] => some (.tuple ds)
  | .tuple, [.tuple ds] => some (.tuple ds)
  | .max2, [.int i, .int j] => some (.int (if j > i then j else i))
  | .min2, [.int i, .int j] => some (.int (if j < i then j else i))
  | _, _ => none
def biVal : Bi → Value
  | .len => .builtin "len" | .abs => .builtin "abs" | .all => .builtin "all" | .any => .builtin "any" | .int => .type "int" | .str => .type "str" | .tuple => .type "tuple"
  | .max2 => .builtin "max" | .min2 => .builtin "min" | .repr => .builtin "repr"
theorem same_upd {H : Hp} {p : Addr} {o : HO} (h : H p = none) : Same H (upd H p o) := fun c u hc => by rw [upd_ne (ne_of_none hc h)]; exact hc
def rBi (K : PySem.W.Frag) (f : Bi) : List V → Hp → VK → Prop := fun xs H Q => ∃ ds r, DpAll K H xs ds ∧ biD f ds = some r ∧ ∀ v H2, Same H H2 → Dp K H2 v r → Q v H2
theorem dpa1 {K : PySem.W.Frag} {H : Hp} {vs : List V} {d : PyData} (h : DpAll K H vs [d]) : ∃ v, vs = [v] ∧ Dp K H v d := by
  cases h with
  | cons a t => cases t; exact ⟨_, rfl, a⟩
theorem dpa2 {K : PySem.W.Frag} {H : Hp} {vs : List V} {d e : PyData} (h : DpAll K H vs [d, e]) : ∃ v w, vs = [v, w] ∧ Dp K H v d ∧ Dp K H w e := by
  cases h with
  | cons a t => cases t with
    | cons b t => cases t; exact ⟨_, _, rfl, a, b⟩
section
variable {X : Cx}
theorem call_biD (hc : X.calm = true) (f : Bi) : CallR X (biVal f) (rBi X.K f) := by
  intro pins s σ H xs us Q I r h
  obtain ⟨ds, d, hds, hf, q⟩ := h
  have fin : ∀ w, Dp X.K H w d → Q w H := fun w hw => q w H (Same.refl H) hw
  unfold biD at hf
  split at hf
  · obtain ⟨v, rfl, hv⟩ := dpa1 hds
    split at hf
    · rename_i hz
      cases hf; cases hv
      exact call_len pins s σ H _ us Q I r ⟨_, _, rfl, ⟨lim_size hz, rfl⟩, fin _ (.int _)⟩
    · cases hf
  · obtain ⟨v, rfl, hv⟩ := dpa1 hds
    cases hf
    cases hv with
    | lst hs ha => exact call_len pins s σ H _ us Q I r ⟨_, _, rfl, .inl ⟨_, hs, rfl⟩, by rw [dpa_len ha]; exact fin _ (.int _)⟩
  · obtain ⟨v, rfl, hv⟩ := dpa1 hds
    cases hf
    cases hv with
    | tup hs ha => exact call_len pins s σ H _ us Q I r ⟨_, _, rfl, .inr ⟨_, hs, rfl⟩, by rw [dpa_len ha]; exact fin _ (.int _)⟩
  · obtain ⟨v, rfl, hv⟩ := dpa1 hds
    cases hf; cases hv
    exact call_abs pins s σ H _ us Q I r ⟨_, rfl, fin _ (.int _)⟩
  · obtain ⟨v, rfl, hv⟩ := dpa1 hds
    obtain ⟨bs, hb, rfl⟩ := Option.map_eq_some_iff.mp hf
    have e := allB_map hb
    subst e
    cases hv with
    | lst hs ha =>
      have e2 := of_dpa_bools ha
      subst e2
      exact cr_all hc pins s σ H _ us Q I r ⟨_, _, rfl, hs, fin _ (.bl _)⟩
  · obtain ⟨v, rfl, hv⟩ := dpa1 hds
    obtain ⟨bs, hb, rfl⟩ := Option.map_eq_some_iff.mp hf
    have e := allB_map hb
    subst e
    cases hv with
    | lst hs ha =>
      have e2 := of_dpa_bools ha
      subst e2
      exact cr_any hc pins s σ H _ us Q I r ⟨_, _, rfl, hs, fin _ (.bl _)⟩
  · obtain ⟨v, rfl, hv⟩ := dpa1 hds
    cases hf; cases hv
    exact call_int1 pins s σ H _ us Q I r (.inl ⟨_, rfl, fin _ (.int _)⟩)
  · obtain ⟨v, rfl, hv⟩ := dpa1 hds
    cases hf; cases hv
    exact call_int1 pins s σ H _ us Q I r (.inr ⟨_, rfl, fin _ (.int _)⟩)
  · obtain ⟨v, rfl, hv⟩ := dpa1 hds
    split at hf
    · rename_i hz
      obtain ⟨n, hn, rfl⟩ := Option.map_eq_some_iff.mp hf
      cases hv
      exact call_int_str pins s σ H _ us Q I r ⟨_, _, rfl, hn, hz, fin _ (.int _)⟩
    · cases hf
  · obtain ⟨v, rfl, hv⟩ := dpa1 hds
    split at hf
    · rename_i hz
      cases hf; cases hv
      exact call_str_int pins s σ H _ us Q I r ⟨_, rfl, hz, fin _ (.str _)⟩
    · cases hf
  · obtain ⟨v, rfl, hv⟩ := dpa1 hds
    cases hf
    cases hv with
    | lst hs ha => exact call_tuple_of pins s σ H _ us Q I r ⟨_, _, rfl, .inl ⟨hs, fun l hl => q _ _ (same_upd hl) (.tup (.inl (.inl upd_same)) (dpa_mono (same_upd hl) ha))⟩⟩
  · obtain ⟨v, rfl, hv⟩ := dpa1 hds
    cases hf
    cases hv with
    | tup hs ha => exact call_tuple_of pins s σ H _ us Q I r ⟨_, _, rfl, .inr ⟨hs, fin _ (.tup hs ha)⟩⟩
  · obtain ⟨v, w', rfl, hv, hw⟩ := dpa2 hds
    cases hf; cases hv; cases hw
    exact call_max2 hc pins s σ H _ us Q I r ⟨_, _, rfl, fin _ (.int _)⟩
  · obtain ⟨v, w', rfl, hv, hw⟩ := dpa2 hds
    cases hf; cases hv; cases hw
    exact call_min2 hc pins s σ H _ us Q I r ⟨_, _, rfl, fin _ (.int _)⟩
  · cases hf
end

/-! ### isinstance -/
def tyD : PyData → String
  | .none => "NoneType" | .bool _ => "bool" | .int _ => "int" | .str _ => "str" | .list _ => "list" | .tuple _ => "tuple" | .dict _ => "dict"
inductive Ty where
  | int | bool | str | tuple
  deriving DecidableEq
def Ty.name : Ty → String
  | .int => "int" | .bool => "bool" | .str => "str" | .tuple => "tuple"
def isiD : PyData → Ty → Bool
  | .bool _, .bool => true | .bool _, .int => true | .int _, .int => true | .str _, .str => true | .tuple _, .tuple => true | _, _ => false
theorem kitB_ok : ∀ (d : PyData) (t : Ty), (∀ k, d ≠ .dict k) → kitB (tyD d) t.name = some (isiD d t) := by
  intro d t hd
  have e1 : ∀ t : Ty, kitB "bool" t.name = some (isiD (.bool true) t) := by intro t; cases t <;> decide +kernel
  have e2 : ∀ t : Ty, kitB "int" t.name = some (isiD (.int 0) t) := by intro t; cases t <;> decide +kernel
  have e3 : ∀ t : Ty, kitB "str" t.name = some (isiD (.str Str.empty) t) := by intro t; cases t <;> decide +kernel
  have e4 : ∀ t : Ty, kitB "list" t.name = some (isiD (.list []) t) := by intro t; cases t <;> decide +kernel
  have e5 : ∀ t : Ty, kitB "tuple" t.name = some (isiD (.tuple []) t) := by intro t; cases t <;> decide +kernel
  have e6 : ∀ t : Ty, kitB "NoneType" t.name = some (isiD .none t) := by intro t; cases t <;> decide +kernel
  cases d with
  | dict k => exact absurd rfl (hd k)
  | none => exact e6 t
  | bool b => exact (e1 t).trans (by cases t <;> rfl)
  | int b => exact (e2 t).trans (by cases t <;> rfl)
  | str b => exact (e3 t).trans (by cases t <;> rfl)
  | list b => exact (e4 t).trans (by cases t <;> rfl)
  | tuple b => exact (e5 t).trans (by cases t <;> rfl)
theorem tyx_of {K : PySem.W.Frag} {H : Hp} {v : V} {d : PyData} (h : Dp K H v d) : TyX K H v (.type (tyD d)) := by
  cases h with
  | non => exact .base .non
  | bl b => exact .base (.bl b)
  | int i => exact .base (.int i)
  | str x => exact .base (.str x)
  | lst h _ =>
    rcases h with (h | ⟨o, h⟩) | ⟨o, its, n, hk, hc, _⟩
    · exact .base (.lst h)
    · exact .base (.frz h)
    · exact .kList hk hc
  | tup h _ =>
    rcases h with (h | ⟨o, h⟩) | ⟨o, its, n, hk, hc, _⟩
    · exact .base (.tup h)
    · exact .fTuple h
    · exact .kTuple hk hc
theorem dp_nodict {K : PySem.W.Frag} {H : Hp} {v : V} {d : PyData} (h : Dp K H v d) : ∀ k, d ≠ .dict k := fun k e => by subst e; cases h
end JL
/-! JEv: a small language of plain data, its values, and how the text's expressions are written in it. -/
namespace JL
open PySem PySem.Spec PyProof.Rows L2

inductive Tg where
  | one (i : Nat) | two (i j : Nat)
inductive CE where
  | lit (d : PyData)
  | var (i : Nat)
  | glob (x : Str)
  | bin (op : Operator) (a b : CE)
  | neg (a : CE)
  | cmp (op : CmpOp) (a b : CE)
  | chain (o o' : CmpOp) (a b c : CE)
  | and (a b : CE) | or (a b : CE) | not (a : CE)
  | ife (t a b : CE)
  | own (f : Str) (es : List CE)
  | bi (f : Bi) (es : List CE)
  | isi (a : CE) (t : Ty)
  | split (a b : CE) | join (a b : CE)
  | idx (a b : CE)
  | slc (a : CE) (kl : Bool) (lo : CE) (kh : Bool) (hi : CE)
  | tup (es : List CE) | lst (es : List CE)
  | fstr (es : List CE)
  | comp (elt : CE) (tg : Tg) (it cond : CE)

def isIfE : CE → Bool
  | .ife _ _ _ => true
  | _ => false
def Tg.bind : Tg → Rho → PyData → Option Rho
  | .one i, ρ, x => some (ρ.set i (some x))
  | .two i j, ρ, .tuple [a, b] => some ((ρ.set i (some a)).set j (some b))
  | .two _ _, _, _ => none
def Tg.slots : Tg → List Nat
  | .one i => [i]
  | .two i j => [i, j]
def Tg.wipe : Tg → Rho → Rho
  | .one i, ρ => ρ.set i none
  | .two i j, ρ => (ρ.set j none).set i none
def signsD (s : Str) : List PyData := s.cps.toList.map fun c => .str ⟨#[c]⟩
def iterD : PyData → Option (List PyData)
  | .list ds => some ds
  | .tuple ds => some ds
  | .str s => some (signsD s)
  | _ => none
def itemD : PyData → PyData → Option PyData
  | .list ds, .int i => atI ds i
  | .tuple ds, .int i => atI ds i
  | .str s, .int i => if s.length ≤ lim then (atI s.cps.toList i).map fun c => .str ⟨#[c]⟩ else none
  | _, _ => none
def partD : Bool → PyData → Option (Option Int)
  | false, _ => some none
  | true, .int i => some (some i)
  | true, _ => none
def sliceD (d : PyData) (kl : Bool) (lo : PyData) (kh : Bool) (hi : PyData) : Option PyData :=
  match d with
  | .str s => if s.length ≤ lim then (partD kl lo).bind fun l => (partD kh hi).map fun h => .str (cutS s l h) else none
  | _ => none
mutual
/-- no list within -/
def noList : PyData → Bool
  | .list _ => false
  | .tuple ds => noListAll ds
  | .dict _ => false
  | _ => true
def noListAll : List PyData → Bool
  | [] => true
  | d :: r => noList d && noListAll r
end
def allS : List PyData → Option (List Str)
  | [] => some []
  | .str b :: r => (allS r).map (b :: ·)
  | _ :: _ => none
theorem allS_map : ∀ {ds : List PyData} {bs : List Str}, allS ds = some bs → ds = bs.map PyData.str
  | [], bs, h => by
    cases h
    rfl
  | d :: r, bs, h => by
    cases d with
    | str b =>
      cases e : allS r with
      | none => simp [allS, e] at h
      | some bs' =>
        simp [allS, e] at h
        subst h
        rw [allS_map e]
        rfl
    | _ => simp [allS] at h
def splitD : PyData → PyData → Option PyData
  | .str a, .str b => if b.length ≠ 0 ∧ a.length ≤ lim then some (.list ((Txt.split a b).map .str)) else none
  | _, _ => none
def joinD : PyData → PyData → Option PyData
  | .str a, .list ds => (allS ds).bind fun ys => if (ys.map (·.length)).sum + ys.length * a.length ≤ lim then some (.str (Txt.join a ys)) else none
  | .str a, .tuple ds => (allS ds).bind fun ys => if (ys.map (·.length)).sum + ys.length * a.length ≤ lim then some (.str (Txt.join a ys)) else none
  | _, _ => none
def fmtD : PyData → Option Str
  | .str s => if s.length ≤ lim then some s else none
  | .int i => if i.natAbs.log2 < 1920 then some (toString i : String) else none
  | _ => none
def catD : List PyData → Str → Option Str
  | [], acc => some acc
  | d :: r, acc => (fmtD d).bind fun y => if (acc ++ y).length ≤ lim then catD r (acc ++ y) else none
def andD (a : PyData) (b : Option PyData) : Option PyData :=
  match a with
  | .bool true => b
  | .bool false => some (.bool false)
  | _ => none
def orD (a : PyData) (b : Option PyData) : Option PyData :=
  match a with
  | .bool true => some (.bool true)
  | .bool false => b
  | _ => none
def notD : PyData → Option PyData
  | .bool b => some (.bool (!b))
  | _ => none
def isiO (x : PyData) (t : Ty) : Option PyData :=
  match x with
  | .dict _ => none
  | x => some (.bool (isiD x t))
theorem isi_inv {x r : PyData} {t : Ty} (h : isiO x t = some r) : (∀ k, x ≠ .dict k) ∧ r = .bool (isiD x t) := by
  cases x <;> first | (cases h; exact ⟨(fun k e => by cases e), rfl⟩) | cases h
def negD : PyData → Option PyData
  | .int i => some (.int (-i))
  | _ => none
def ifD (t : PyData) (a b : Option PyData) : Option PyData :=
  match t with
  | .bool true => a
  | .bool false => b
  | _ => none
def chainD (o o' : CmpOp) (a b : PyData) (c : Option PyData) : Option PyData :=
  match cmpD o a b with
  | some true => c.bind fun z => (cmpD o' b z).map .bool
  | some false => some (.bool false)
  | none => none
/-- a comprehension's turns -/
def compL (bind : PyData → Option Rho) (cond elt : Rho → Option PyData) : List PyData → Option (List PyData)
  | [] => some []
  | x :: r => (bind x).bind fun ρ => (cond ρ).bind fun c =>
    match c with
    | .bool true => (elt ρ).bind fun y => if noList y then (compL bind cond elt r).map (y :: ·) else none
    | .bool false => compL bind cond elt r
    | _ => none
section
variable (ft : Str → List PyData → Option PyData) (gv : Str → Option PyData)
mutual
def evE : CE → Rho → Option PyData
  | .lit d, _ => some d
  | .var i, ρ => (ρ[i]?).join
  | .glob x, _ => gv x
  | .bin op a b, ρ => (evE a ρ).bind fun x => (evE b ρ).bind fun y => binD op x y
  | .neg a, ρ => (evE a ρ).bind negD
  | .cmp op a b, ρ => (evE a ρ).bind fun x => (evE b ρ).bind fun y => (cmpD op x y).map .bool
  | .chain o o' a b c, ρ => (evE a ρ).bind fun x => (evE b ρ).bind fun y => chainD o o' x y (evE c ρ)
  | .and a b, ρ => (evE a ρ).bind fun x => andD x (evE b ρ)
  | .or a b, ρ => (evE a ρ).bind fun x => orD x (evE b ρ)
  | .not a, ρ => (evE a ρ).bind notD
  | .ife t a b, ρ => (evE t ρ).bind fun x => ifD x (evE a ρ) (evE b ρ)
  | .own f es, ρ => (evA es ρ).bind (ft f)
  | .bi f es, ρ => (evA es ρ).bind (biD f)
  | .isi a t, ρ => (evE a ρ).bind fun x => isiO x t
  | .split a b, ρ => (evE a ρ).bind fun x => (evE b ρ).bind fun y => splitD x y
  | .join a b, ρ => (evE a ρ).bind fun x => (evE b ρ).bind fun y => joinD x y
  | .idx a b, ρ => (evE a ρ).bind fun x => (evE b ρ).bind fun y => itemD x y
  | .slc a kl lo kh hi, ρ => (evE a ρ).bind fun x => (evE lo ρ).bind fun l => (evE hi ρ).bind fun h => sliceD x kl l kh h
  | .tup es, ρ => (evA es ρ).bind fun ds => if ds.length ≤ 1000 then some (.tuple ds) else none
  | .lst es, ρ => (evA es ρ).bind fun ds => if ds.length ≤ 1000 then some (.list ds) else none
  | .fstr es, ρ => (evA es ρ).bind fun ds => (catD ds Str.empty).map .str
  | .comp elt tg it cond, ρ => (evE it ρ).bind fun x => (iterD x).bind fun items => if items.length ≤ lim then (compL (tg.bind (tg.wipe ρ)) (evE cond) (evE elt) items).map .list else none
def evA : List CE → Rho → Option (List PyData)
  | [], _ => some []
  | e :: r, ρ => (evE e ρ).bind fun d => (evA r ρ).map (d :: ·)
end
end

/-! ### from the text -/
def slotOf : List Str → Str → Option Nat
  | [], _ => none
  | y :: r, x => if y = x then some 0 else (slotOf r x).map (· + 1)
theorem slotOf_get : ∀ {N : List Str} {x : Str} {i : Nat}, slotOf N x = some i → N[i]? = some x
  | [], x, i, h => by simp [slotOf] at h
  | y :: r, x, i, h => by
    unfold slotOf at h
    split at h
    · rename_i e
      cases h
      simp [e]
    · obtain ⟨j, hj, rfl⟩ := Option.map_eq_some_iff.mp h
      simpa using slotOf_get hj
def isVis (sc : Scope) (x : Str) : Bool :=
  match sc.names.lookup x with
  | some .local => true
  | some .cell => true
  | some .free => true
  | _ => false
theorem vis_of {sc : Scope} {x : Str} (h : isVis sc x = true) : Vis sc x := by
  unfold isVis at h
  split at h
  · exact .inl (by assumption)
  · exact .inr (.inl (by assumption))
  · exact .inr (.inr (by assumption))
  · cases h
def isLoc (sc : Scope) (x : Str) : Bool :=
  match sc.names.lookup x with
  | some .local => true
  | _ => false
theorem loc_of {sc : Scope} {x : Str} (h : isLoc sc x = true) : sc.names.lookup x = some .local := by
  unfold isLoc at h
  split at h
  · assumption
  · cases h
def isLC (sc : Scope) (x : Str) : Bool :=
  match sc.names.lookup x with
  | some .local => true
  | some .cell => true
  | _ => false
theorem lc_of {sc : Scope} {x : Str} (h : isLC sc x = true) : Loc sc x := by
  unfold isLC at h
  split at h
  · exact .inl (by assumption)
  · exact .inr (by assumption)
  · cases h
def isGl (sc : Scope) (x : Str) : Bool :=
  match sc.names.lookup x with
  | some .globalImplicit => true
  | _ => false
theorem gl_of {sc : Scope} {x : Str} (h : isGl sc x = true) : sc.names.lookup x = some .globalImplicit := by
  unfold isGl at h
  split at h
  · assumption
  · cases h
def biOf (x : Str) (n : Nat) : Option Bi :=
  if x = "len" then some .len else if x = "abs" then some .abs else if x = "all" then some .all else if x = "any" then some .any
  else if x = "int" then some .int else if x = "str" then some .str else if x = "tuple" then some .tuple
  else if x = "max" ∧ n = 2 then some .max2 else if x = "min" ∧ n = 2 then some .min2 else none
def tyOf (x : Str) : Option Ty :=
  if x = "int" then some .int else if x = "bool" then some .bool else if x = "str" then some .str else if x = "tuple" then some .tuple else none
section
variable (N : List Str)
def compTg (scope : Scope) : Expr → Option (Tg × List (Str × Nat))
  | .Name x _ => if isLoc scope x then (slotOf N x).map fun i => (.one i, [(x, i)]) else none
  | .Tuple [.Name x _, .Name y _] _ _ => if isLoc scope x && isLoc scope y && decide (x ≠ y) then (slotOf N x).bind fun i => (slotOf N y).bind fun j => if i ≠ j then some (.two i j, [(x, i), (y, j)]) else none else none
  | _ => none
def mapC (f : Expr → Option CE) : List Expr → Option (List CE)
  | [] => some []
  | e :: r => (f e).bind fun c => (mapC f r).map (c :: ·)
def partC (f : Expr → Option CE) : Option Expr → Option CE
  | none => some (.lit .none)
  | some e => f e
def fpart (f : Expr → Option CE) : Expr → Option CE
  | .FormattedValue e c none _ => if c = -1 then f e else none
  | .Constant (.str s) _ _ => some (.lit (.str s))
  | _ => none
def compS (rec : Scope → Expr → Option CE) (sc : Scope) : Expr → Option CE
  | .Name x _ => if x = "__debug__" ∨ x = "__classdict__" then none else if isVis sc x then (slotOf N x).map .var else if isGl sc x then some (.glob x) else none
  | .Constant (.int i) _ _ => some (.lit (.int i))
  | .Constant (.bool i) _ _ => some (.lit (.bool i))
  | .Constant .none _ _ => some (.lit .none)
  | .Constant (.str i) _ _ => some (.lit (.str i))
  | .BinOp a op b _ => (rec sc a).bind fun ca => (rec sc b).map fun cb => .bin op ca cb
  | .UnaryOp .USub a _ => (rec sc a).map .neg
  | .UnaryOp .Not a _ => (rec sc a).bind fun c => if isIfE c then none else some (.not c)
  | .Compare a [op] [b] _ => if behindInMarks op b then none else (rec sc a).bind fun ca => (rec sc b).map fun cb => .cmp op ca cb
  | .Compare a [op, op'] [b, c] _ => if lastMarks [op, op'] [b, c] then none else (rec sc a).bind fun ca => (rec sc b).bind fun cb => (rec sc c).map fun cc => .chain op op' ca cb cc
  | .BoolOp op [a] pos => (rec sc a).bind fun c => if isIfE c then none else some c
  | .BoolOp .And (a :: b :: r) pos => (rec sc a).bind fun c => if isIfE c then none else (rec sc (.BoolOp .And (b :: r) pos)).map fun c' => .and c c'
  | .BoolOp .Or (a :: b :: r) pos => (rec sc a).bind fun c => if isIfE c then none else (rec sc (.BoolOp .Or (b :: r) pos)).map fun c' => .or c c'
  | .IfExp t a b _ => (rec sc t).bind fun ct => if isIfE ct then none else (rec sc a).bind fun ca => (rec sc b).map fun cb => .ife ct ca cb
  | .Call (.Name f _) (e :: es) [] pos =>
    if isGl sc f = false ∨ f = "__debug__" ∨ f = "__name__" then none else
    if f = "isinstance" then
      match es with
      | [.Name t _] => if isGl sc t then (tyOf t).bind fun ty => (rec sc e).map fun c => .isi c ty else none
      | _ => none
    else (mapC (rec sc) (e :: es)).map fun cs => match biOf f (e :: es).length with
      | some b => .bi b cs
      | none => .own f cs
  | .Call (.Attribute o m apos) [e] [] pos =>
    if (apos.endLine == pos.line) = false then none else
    if m = "split" then (rec sc o).bind fun co => (rec sc e).map fun ce => .split co ce
    else if m = "join" then (rec sc o).bind fun co => (rec sc e).map fun ce => .join co ce else none
  | .Subscript a (.Slice lo hi none _) _ => (rec sc a).bind fun ca => (partC (rec sc) lo).bind fun cl => (partC (rec sc) hi).map fun ch => .slc ca lo.isSome cl hi.isSome ch
  | .Subscript a b _ => (rec sc a).bind fun ca => (rec sc b).map fun cb => .idx ca cb
  | .Tuple es _ _ => (mapC (rec sc) es).map .tup
  | .List es _ => (mapC (rec sc) es).map .lst
  | .JoinedStr (a :: b :: r) _ => (mapC (fpart (rec sc)) (a :: b :: r)).map .fstr
  | .ListComp elt [⟨tg, it, ifs, 0⟩] scope _ =>
    (compTg N (relS scope sc) tg).bind fun (t, own) => if blkC N sc scope own = false then none else
    (rec sc it).bind fun ci => (rec (relS scope sc) elt).bind fun ce =>
      match ifs with
      | [] => some (.comp ce t ci (.lit (.bool true)))
      | [c] => (rec (relS scope sc) c).bind fun cc => if isIfE cc then none else some (.comp ce t ci cc)
      | _ => none
  | _ => none

def compE : Nat → Scope → Expr → Option CE
  | 0, _, _ => none
  | n + 1, sc, e => compS N (compE n) sc e
end
end JL
/-! JSnd: what the small language says of an expression, the expression does. -/
namespace JL
open PySem PySem.Spec PyProof.Rows L2

structure Gb where
  P : Program
  w : World
  K : PySem.W.Frag
  mg : Str → Option Value
  base : Heap
structure Ctx (G : Gb) (N : List Str) (k : Nat) (sc : Scope) (X : Cx) : Prop where
  hP : X.prog = G.P
  hw : X.w = G.w
  hK : X.K = G.K
  hmg : X.mg = G.mg
  hb : X.base = G.base
  hN : X.N = N
  nd : N.Nodup
  hs : X.env.scope = sc
  calm : X.calm = true
  pass : PassesOwn (model X.prog X.w) X.A X.env X.xe
  room : Room k X.A
/-- a def's promise: its answer by R -/
def spR (K : PySem.W.Frag) (R : List PyData → PyData → Prop) : Sp := fun vs H Q _ => ∃ ds d, DpAll K H vs ds ∧ R ds d ∧ ∀ v H', Same H H' → Dp K H' v d → Q v H'
def FtOk (G : Gb) (k : Nat) (ft : Str → List PyData → Option PyData) : Prop := ∀ x ds d, ft x ds = some d →
  ∃ (f : Addr) (fd : FuncData) (ps : List Str) (R : List PyData → PyData → Prop), FnOk G.P G.w G.K G.mg G.base CX0 k f fd ps (spR G.K R) ∧ G.mg x = some (.ref f) ∧ PySem.W.keepIn G.K (.ref f) = true ∧ Binds G.K fd ps [] ∧ R ds d
def GvOk (G : Gb) (gv : Str → Option PyData) : Prop := ∀ x d, gv x = some d → ∃ u v, G.mg x = some u ∧ RelV v u ∧ ∀ H, Dp G.K H v d
def bltNames : List Str := ["len", "abs", "all", "any", "int", "str", "tuple", "max", "min", "isinstance", "bool", "range", "repr"]
def BnOk (G : Gb) : Prop := ∀ x ∈ bltNames, G.mg x = none

section
variable {G : Gb} {N : List Str} {k : Nat} {sc : Scope} {X : Cx}
theorem Ctx.vis (c : Ctx G N k sc X) {x : Str} (h : isVis sc x = true) : Vis X.env.scope x := by rw [c.hs]; exact vis_of h
theorem Ctx.gl (c : Ctx G N k sc X) {x : Str} (h : isGl sc x = true) : Gl X x := by
  show X.env.scope.names.lookup x = _
  rw [c.hs]
  exact gl_of h
theorem Ctx.hu (c : Ctx G N k sc X) : X.A.units + 65 < cLine := by have := c.room.un; omega
theorem Ctx.blk (c : Ctx G N k sc X) (s : Shared) (H : Hp) (scope : Scope) (C : Addr) (cl : List (Str × Addr)) (fp : List Addr) : Ctx G N k (relS scope sc) (X.blk s H scope (compEnvC scope cl C X.env) fp) :=
  ⟨c.hP, c.hw, c.hK, c.hmg, c.hb, c.hN, c.nd, by rw [← c.hs]; rfl, c.calm, PassesOwn.never, c.room⟩

/-! ### facts of the syntax that is taken -/
theorem star_of {n : Nat} {sc : Scope} {e : Expr} {ce : CE} (h : compE N n sc e = some ce) (es : List Expr) (env : Env) : starEach (e :: es) env = (false, eval e env) :: starEach es env := by
  cases e <;> first
    | rfl
    | (exfalso; cases n <;> simp [compE, compS] at h)
theorem any_of {n : Nat} {sc : Scope} (env : Env) (pos : Pos) : ∀ {es : List Expr} {cs : List CE}, mapC (compE N n sc) es = some cs → (backTo pos (starEach es env)).any (·.1) = false
  | [], _, _ => rfl
  | e :: r, cs, h => by
    unfold mapC at h
    obtain ⟨c, hc, h2⟩ := Option.bind_eq_some_iff.mp h
    obtain ⟨cs', hcs, rfl⟩ := Option.map_eq_some_iff.mp h2
    rw [star_of hc]
    show (false || (backTo pos (starEach r env)).any (·.1)) = false
    rw [any_of env pos hcs]
    rfl
theorem base_of {n : Nat} {sc : Scope} {o : Expr} {ce : CE} (h : compE N n sc o = some ce) (m : Str) (env : Env) (t : Sem Value) : attributeBase o m env t = t := by
  cases o with
  | Call f args kw pos =>
    cases args with
    | nil => exfalso; cases n <;> cases f <;> simp [compE, compS] at h
    | cons a r => cases f <;> rfl
  | _ => rfl
theorem ix_of {n : Nat} {sc : Scope} {b : Expr} {ce : CE} (h : compE N n sc b = some ce) : PlainIx b := by
  cases b <;> first
    | (intro _ _; rfl)
    | (exfalso; cases n <;> simp [compE, compS] at h)
theorem fold_of {n : Nat} {sc : Scope} {b : Expr} {ce : CE} (h : compE N n sc b = some ce) (env : Env) (x : Value) : foldedSetIterable b env x = pure x := by
  cases b <;> first
    | rfl
    | (exfalso; cases n <;> simp [compE, compS] at h)
/-- as a test it is its value's truth -/
def plainT : Expr → Bool
  | .UnaryOp .Not _ _ => false
  | .BoolOp _ _ _ => false
  | .IfExp _ _ _ _ => false
  | .Compare _ _ _ _ => false
  | _ => true
theorem true_of {e : Expr} (h : plainT e = true) (env : Env) (whole : Sem Value) : isTrue e env whole = (do let v ← whole; standAt e.pos; holding [v] (truthy v)) := by
  cases e with
  | UnaryOp op a pos => cases op <;> first | rfl | (exfalso; exact Bool.noConfusion h)
  | BoolOp _ _ _ => exact Bool.noConfusion h
  | IfExp _ _ _ _ => exact Bool.noConfusion h
  | Compare _ _ _ _ => exact Bool.noConfusion h
  | _ => rfl
end

/-! ### one rule a form -/
section
variable {G : Gb} {N : List Str} {k : Nat} {sc : Scope} {X : Cx} {ρ : Rho} {a b c e t : Expr} {da db dc d : PyData} {pos : Pos}
theorem j_bin {op : Operator} {r : PyData} (ha : J X ρ a da) (hb : J X ρ b db) (h : binD op da db = some r) : J X ρ (.BinOp a op b pos) r :=
  J.of (pe_op (op_binD op) pwe pwe) fun σ H E Q q => ha σ H E _ fun x H1 s1 h1 => hb σ H1 (E.mono s1) _ fun y H2 s2 h2 =>
    ⟨_, _, r, dp_mono s2 h1, h2, h, q _ H2 (s1.trans s2) (by
      have hf := binD_flat h
      cases r <;> first | exact .non | exact .bl _ | exact .int _ | exact .str _ | (exfalso; exact Bool.noConfusion hf))⟩
theorem j_neg {r : PyData} (ha : J X ρ a da) (h : negD da = some r) : J X ρ (.UnaryOp .USub a pos) r :=
  J.of (pe_un un_neg pwe) fun σ H E Q q => ha σ H E _ fun x H1 s1 h1 => by
    cases da <;> first | (exfalso; simp [negD] at h; done) | skip
    cases h; cases h1
    exact ⟨_, rfl, q _ H1 s1 (.int _)⟩
theorem j_cmp (hu : X.A.units + 65 < cLine) {op : CmpOp} {r : Bool} (ha : J X ρ a da) (hb : J X ρ b db) (h : cmpD op da db = some r) (hm : behindInMarks op b = false) : J X ρ (.Compare a [op] [b] pos) (.bool r) :=
  J.of (pe_cmpR (op_cmpD hu op) pwe pwe hm) fun σ H E Q q => ha σ H E _ fun x H1 s1 h1 => hb σ H1 (E.mono s1) _ fun y H2 s2 h2 =>
    ⟨_, _, r, dp_mono s2 h1, h2, h, q _ H2 (s1.trans s2) (.bl _)⟩
theorem jt_cmp (hu : X.A.units + 65 < cLine) {op : CmpOp} {r : Bool} (ha : J X ρ a da) (hb : J X ρ b db) (h : cmpD op da db = some r) (hm : behindInMarks op b = false) : JT X ρ (.Compare a [op] [b] pos) r :=
  JT.of (pt_cmpR (op_cmpD hu op) pwe pwe hm) fun σ H E Q q => ha σ H E _ fun x H1 s1 h1 => hb σ H1 (E.mono s1) _ fun y H2 s2 h2 =>
    ⟨_, _, r, dp_mono s2 h1, h2, h, r, rfl, q H2 (s1.trans s2)⟩
theorem chain_inv {o o' : CmpOp} {x y : PyData} {z : Option PyData} {r : PyData} (h : chainD o o' x y z = some r) : (cmpD o x y = some false ∧ r = .bool false) ∨ ∃ w u, cmpD o x y = some true ∧ z = some w ∧ cmpD o' y w = some u ∧ r = .bool u := by
  unfold chainD at h
  split at h
  · rename_i h1
    obtain ⟨w, hw, h2⟩ := Option.bind_eq_some_iff.mp h
    obtain ⟨u, hu, rfl⟩ := Option.map_eq_some_iff.mp h2
    exact .inr ⟨w, u, h1, hw, hu, rfl⟩
  · rename_i h1
    cases h
    exact .inl ⟨h1, rfl⟩
  · cases h
theorem j_chain (hu : X.A.units + 65 < cLine) {o o' : CmpOp} {z : Option PyData} {r : PyData} (ha : J X ρ a da) (hb : J X ρ b db) (hc : ∀ w, z = some w → J X ρ c w) (h : chainD o o' da db z = some r) (hm : lastMarks [o, o'] [b, c] = false) : J X ρ (.Compare a [o, o'] [b, c] pos) r :=
  J.of (pe_chain (op_cmpD hu o) (op_cmpD hu o') pwe pwe pwe hm) fun σ H E Q q => ha σ H E _ fun x H1 s1 h1 => hb σ H1 (E.mono s1) _ fun y H2 s2 h2 => by
    rcases chain_inv h with ⟨e1, rfl⟩ | ⟨w, u, e1, rfl, e2, rfl⟩
    · exact ⟨_, _, false, dp_mono s2 h1, h2, e1, false, rfl, iteF (q _ H2 (s1.trans s2) (.bl _))⟩
    · refine ⟨_, _, true, dp_mono s2 h1, h2, e1, true, rfl, iteT ?_⟩
      exact hc w rfl σ H2 (E.mono (s1.trans s2)) _ fun w' H3 s3 h3 => ⟨_, _, u, dp_mono s3 h2, h3, e2, q _ H3 ((s1.trans s2).trans s3) (.bl _)⟩
theorem jt_chain (hu : X.A.units + 65 < cLine) {o o' : CmpOp} {z : Option PyData} {r : Bool} (ha : J X ρ a da) (hb : J X ρ b db) (hc : ∀ w, z = some w → J X ρ c w) (h : chainD o o' da db z = some (.bool r)) (hm : lastMarks [o, o'] [b, c] = false) : JT X ρ (.Compare a [o, o'] [b, c] pos) r :=
  JT.of (pt_chain (op_cmpD hu o) (op_cmpD hu o') pwe pwe pwe hm) fun σ H E Q q => ha σ H E _ fun x H1 s1 h1 => hb σ H1 (E.mono s1) _ fun y H2 s2 h2 => by
    rcases chain_inv h with ⟨e1, e3⟩ | ⟨w, u, e1, rfl, e2, e3⟩
    · cases e3
      exact ⟨_, _, false, dp_mono s2 h1, h2, e1, false, rfl, iteF ⟨_, rfl, q H2 (s1.trans s2)⟩⟩
    · cases e3
      refine ⟨_, _, true, dp_mono s2 h1, h2, e1, true, rfl, iteT ?_⟩
      exact hc w rfl σ H2 (E.mono (s1.trans s2)) _ fun w' H3 s3 h3 => ⟨_, _, _, dp_mono s3 h2, h3, e2, _, rfl, q H3 ((s1.trans s2).trans s3)⟩
theorem j_not {r : Bool} (ha : J X ρ a (.bool r)) : J X ρ (.UnaryOp .Not a pos) (.bool (!r)) :=
  J.of (pe_not pwe) fun σ H E Q q => ha σ H E _ fun x H1 s1 h1 => by
    cases h1
    exact ⟨_, rfl, q _ H1 s1 (.bl _)⟩
theorem jt_not {r : Bool} (ha : JT X ρ a r) : JT X ρ (.UnaryOp .Not a pos) (!r) :=
  JT.of (pt_not pwt) fun σ H E Q q => ha σ H E _ fun H1 s1 => q H1 s1
theorem jt_val {r : Bool} (ha : J X ρ a (.bool r)) (h : plainT a = true) : JT X ρ a r :=
  JT.of (pt_val pwe (true_of h X.env)) fun σ H E Q q => ha σ H E _ fun x H1 s1 h1 => by
    cases h1
    exact ⟨_, rfl, q H1 s1⟩
theorem j_if {r : Bool} (ht : JT X ρ t r) (ha : r = true → J X ρ a d) (hb : r = false → J X ρ b d) : J X ρ (.IfExp t a b pos) d :=
  J.of (pe_ifExp pwt pwe pwe) fun σ H E Q q => ht σ H E _ fun H1 s1 => by
    cases r with
    | true => exact iteT (ha rfl σ H1 (E.mono s1) Q fun v H2 s2 => q v H2 (s1.trans s2))
    | false => exact iteF (hb rfl σ H1 (E.mono s1) Q fun v H2 s2 => q v H2 (s1.trans s2))
theorem j_and {rest : List Expr} {r : Bool} (ha : J X ρ a (.bool r)) (hb : r = true → J X ρ (.BoolOp .And (b :: rest) pos) d) (h0 : r = false → d = .bool false) : J X ρ (.BoolOp .And (a :: b :: rest) pos) d :=
  J.of (pe_and pwe pwe) fun σ H E Q q => ha σ H E _ fun x H1 s1 h1 => by
    cases h1
    cases r with
    | true => exact ⟨true, rfl, iteT (hb rfl σ H1 (E.mono s1) Q fun v H2 s2 => q v H2 (s1.trans s2))⟩
    | false => exact ⟨false, rfl, iteF (q _ H1 s1 (by rw [h0 rfl]; exact .bl _))⟩
theorem j_or {rest : List Expr} {r : Bool} (ha : J X ρ a (.bool r)) (hb : r = false → J X ρ (.BoolOp .Or (b :: rest) pos) d) (h0 : r = true → d = .bool true) : J X ρ (.BoolOp .Or (a :: b :: rest) pos) d :=
  J.of (pe_or pwe pwe) fun σ H E Q q => ha σ H E _ fun x H1 s1 h1 => by
    cases h1
    cases r with
    | false => exact ⟨false, rfl, iteF (hb rfl σ H1 (E.mono s1) Q fun v H2 s2 => q v H2 (s1.trans s2))⟩
    | true => exact ⟨true, rfl, iteT (q _ H1 s1 (by rw [h0 rfl]; exact .bl _))⟩
theorem j_one {op : BoolOp} (ha : J X ρ a d) : J X ρ (.BoolOp op [a] pos) d := J.of (pe_one pwe) fun σ H E Q q => ha σ H E Q q
theorem jw_one {op : BoolOp} {r : Bool} (ha : JT X ρ a r) : JW X ρ (.BoolOp op [a] pos) r := by
  cases op with
  | And => exact JW.of (pw_and1 pwt) fun σ H E Q q => ha σ H E Q q
  | Or => exact JW.of (pw_or1 pwt) fun σ H E Q q => ha σ H E Q q
theorem jw_and {rest : List Expr} {r u : Bool} (ha : JT X ρ a r) (hb : r = true → JW X ρ (.BoolOp .And (b :: rest) pos) u) (h0 : r = false → u = false) : JW X ρ (.BoolOp .And (a :: b :: rest) pos) u :=
  JW.of (pw_and pwt pww) fun σ H E Q q => ha σ H E _ fun H1 s1 => by
    cases r with
    | true => exact iteT (hb rfl σ H1 (E.mono s1) Q fun H2 s2 => q H2 (s1.trans s2))
    | false =>
      have e := h0 rfl
      subst e
      exact iteF (q H1 s1)
theorem jw_or {rest : List Expr} {r u : Bool} (ha : JT X ρ a r) (hb : r = false → JW X ρ (.BoolOp .Or (b :: rest) pos) u) (h0 : r = true → u = true) : JW X ρ (.BoolOp .Or (a :: b :: rest) pos) u :=
  JW.of (pw_or pwt pww) fun σ H E Q q => ha σ H E _ fun H1 s1 => by
    cases r with
    | false => exact iteF (hb rfl σ H1 (E.mono s1) Q fun H2 s2 => q H2 (s1.trans s2))
    | true =>
      have e := h0 rfl
      subst e
      exact iteT (q H1 s1)
theorem JW.jt {r : Bool} (h : JW X ρ e r) : JT X ρ e r := JT.of pww.pt fun σ H E Q q => h σ H E Q q
theorem j_split {apos : Pos} {r : PyData} (ha : J X ρ a da) (hb : J X ρ b db) (h : splitD da db = some r) (hs : starEach [b] X.env = [(false, eval b X.env)]) (hbase : attributeBase a "split" X.env (eval a X.env) = eval a X.env) (hline : (apos.endLine == pos.line) = true) : J X ρ (.Call (.Attribute a "split" apos) [b] [] pos) r :=
  J.of (pe_split pwe pwe hs hbase hline) fun σ H E Q q => ha σ H E _ fun x H1 s1 h1 => by
    cases da with
    | str s =>
      cases db with
      | str t =>
        have h : (if t.length ≠ 0 ∧ s.length ≤ lim then some (PyData.list ((Txt.split s t).map .str)) else none) = some r := h
        by_cases hz : t.length ≠ 0 ∧ s.length ≤ lim
        · rw [if_pos hz] at h
          cases h; cases h1
          refine ⟨⟨_, rfl⟩, ?_⟩
          refine hb σ H1 (E.mono s1) _ fun y H2 s2 h2 => ?_
          cases h2
          exact ⟨_, _, rfl, rfl, by simpa using hz.1, Nat.le_trans (Nat.add_le_add_right hz.2 2) (by decide), fun p np => q _ _ ((s1.trans s2).trans (same_upd np)) (.lst (.inl (.inl upd_same)) (dpa_strs _))⟩
        · rw [if_neg hz] at h
          cases h
      | _ => cases h
    | _ => cases h
theorem join_inv {a b r : PyData} (h : joinD a b = some r) : ∃ (z : Str) (ys : List Str), a = .str z ∧ (b = .list (ys.map .str) ∨ b = .tuple (ys.map .str)) ∧ (ys.map (·.length)).sum + ys.length * z.length ≤ lim ∧ r = .str (Txt.join z ys) := by
  have key : ∀ (z : Str) (ds : List PyData), ((allS ds).bind fun ys => if (ys.map (·.length)).sum + ys.length * z.length ≤ lim then some (PyData.str (Txt.join z ys)) else none) = some r →
      ∃ ys : List Str, ds = ys.map .str ∧ (ys.map (·.length)).sum + ys.length * z.length ≤ lim ∧ r = .str (Txt.join z ys) := fun z ds h => by
    obtain ⟨ys, hy, h2⟩ := Option.bind_eq_some_iff.mp h
    by_cases hz : (ys.map (·.length)).sum + ys.length * z.length ≤ lim
    · rw [if_pos hz] at h2
      exact ⟨ys, allS_map hy, hz, (Option.some.inj h2).symm⟩
    · rw [if_neg hz] at h2
      cases h2
  cases a with
  | str z =>
    cases b with
    | list ds =>
      obtain ⟨ys, e, h1, h2⟩ := key z ds h
      exact ⟨z, ys, rfl, .inl (by rw [e]), h1, h2⟩
    | tuple ds =>
      obtain ⟨ys, e, h1, h2⟩ := key z ds h
      exact ⟨z, ys, rfl, .inr (by rw [e]), h1, h2⟩
    | _ => cases h
  | _ => cases h
theorem j_join {apos : Pos} {r : PyData} (ha : J X ρ a da) (hb : J X ρ b db) (h : joinD da db = some r) (hs : starEach [b] X.env = [(false, eval b X.env)]) (hbase : attributeBase a "join" X.env (eval a X.env) = eval a X.env) (hline : (apos.endLine == pos.line) = true) : J X ρ (.Call (.Attribute a "join" apos) [b] [] pos) r := by
  obtain ⟨z, ys, rfl, hd, hz, rfl⟩ := join_inv h
  refine J.of (pe_join pwe pwe hs hbase hline) fun σ H E Q q => ha σ H E _ fun x H1 s1 h1 => ?_
  cases h1
  refine ⟨⟨_, rfl⟩, ?_⟩
  refine hb σ H1 (E.mono s1) _ fun y H2 s2 h2 => ?_
  rcases hd with rfl | rfl
  · cases h2 with
    | lst hl hd =>
      have e2 := of_dpa_strs hd
      subst e2
      exact ⟨_, _, ys, rfl, rfl, .inl hl, Nat.le_trans hz (by decide), q _ _ (s1.trans s2) (.str _)⟩
  · cases h2 with
    | tup hl hd =>
      have e2 := of_dpa_strs hd
      subst e2
      exact ⟨_, _, ys, rfl, rfl, .inr hl, Nat.le_trans hz (by decide), q _ _ (s1.trans s2) (.str _)⟩
theorem atI_dpa {K : PySem.W.Frag} {H : Hp} {vs : List V} {ds : List PyData} {i : Int} {d : PyData} (h : DpAll K H vs ds) (hi : atI ds i = some d) : ∃ v, atI vs i = some v ∧ Dp K H v d := by
  unfold atI at hi ⊢
  obtain ⟨j, hj, hd⟩ := Option.bind_eq_some_iff.mp hi
  obtain ⟨v, h1, h2⟩ := dpa_get h hd
  exact ⟨v, by rw [dpa_len h, hj]; exact h1, h2⟩
theorem j_idx {r : PyData} (ha : J X ρ a da) (hb : J X ρ b db) (h : itemD da db = some r) (hx : PlainIx b) : J X ρ (.Subscript a b pos) r := by
  unfold itemD at h
  split at h
  · refine J.of (pe_ix ix_list pwe pwe hx) fun σ H E Q q => ha σ H E _ fun x H1 s1 h1 => hb σ H1 (E.mono s1) _ fun y H2 s2 h2 => ?_
    cases h2
    cases dp_mono s2 h1 with
    | lst hl hd =>
      obtain ⟨v, e1, e2⟩ := atI_dpa hd h
      exact ⟨_, _, _, v, rfl, rfl, hl, e1, q _ H2 (s1.trans s2) e2⟩
  · refine J.of (pe_ix ix_tup pwe pwe hx) fun σ H E Q q => ha σ H E _ fun x H1 s1 h1 => hb σ H1 (E.mono s1) _ fun y H2 s2 h2 => ?_
    cases h2
    cases dp_mono s2 h1 with
    | tup hl hd =>
      obtain ⟨v, e1, e2⟩ := atI_dpa hd h
      exact ⟨_, _, _, v, rfl, rfl, hl, e1, q _ H2 (s1.trans s2) e2⟩
  · split at h
    · rename_i hz
      obtain ⟨ch, hc, rfl⟩ := Option.map_eq_some_iff.mp h
      refine J.of (pe_ix ix_str pwe pwe hx) fun σ H E Q q => ha σ H E _ fun x H1 s1 h1 => hb σ H1 (E.mono s1) _ fun y H2 s2 h2 => ?_
      cases h2; cases h1
      exact ⟨_, _, _, rfl, rfl, lim_size hz, hc, q _ H2 (s1.trans s2) (.str _)⟩
    · cases h
  · cases h
/-- a part of a slice -/
theorem part_ok {lo : Option Expr} {l : PyData} {o : Option Int} (hl : ∀ e, lo = some e → J X ρ e l) (h : partD lo.isSome l = some o) : ∃ tl, PO X lo tl ∧ ∀ σ H, EnvD X.K H σ ρ → ∀ Q : Option Int → Hp → Prop, (∀ H2, Same H H2 → Q o H2) → tl σ H Q := by
  cases lo with
  | none =>
    cases h
    exact ⟨tNoPart, po_none, fun σ H E Q q => q H (Same.refl H)⟩
  | some e =>
    refine ⟨tPart (WE X e), po_some pwe, fun σ H E Q q => hl e rfl σ H E _ fun x H1 s1 h1 => ?_⟩
    cases l <;> first | (exfalso; simp [partD] at h; done) | skip
    cases h; cases h1
    exact ⟨_, rfl, q H1 s1⟩
theorem j_slc {lo hi : Option Expr} {l h' : PyData} {r : PyData} {p2 : Pos} (ha : J X ρ a da) (hl : ∀ e, lo = some e → J X ρ e l) (hh : ∀ e, hi = some e → J X ρ e h') (h : sliceD da lo.isSome l hi.isSome h' = some r) : J X ρ (.Subscript a (.Slice lo hi none p2) pos) r := by
  unfold sliceD at h
  split at h
  · split at h
    · rename_i hz
      obtain ⟨o, ho, h⟩ := Option.bind_eq_some_iff.mp h
      obtain ⟨u, hu, rfl⟩ := Option.map_eq_some_iff.mp h
      obtain ⟨tl, pl, ql⟩ := part_ok hl ho
      obtain ⟨th, ph, qh⟩ := part_ok hh hu
      exact J.of (pe_slice sl_str pwe pl ph) fun σ H E Q q => ha σ H E _ fun x H1 s1 h1 => ql σ H1 (E.mono s1) _ fun H2 s2 => qh σ H2 (E.mono (s1.trans s2)) _ fun H3 s3 => by
        cases h1
        exact ⟨_, rfl, lim_size hz, q _ H3 ((s1.trans s2).trans s3) (.str _)⟩
    · cases h
  · cases h
theorem j_isi {ty : Ty} {x : Str} {p p2 : Pos} (ha : J X ρ a da) (hg : Gl X "isinstance") (hm : X.mg "isinstance" = none) (hgx : Gl X x) (hmx : X.mg x = none) (hty : tyOf x = some ty) (hs : starEach [a, .Name x p2] X.env = (false, eval a X.env) :: starEach [.Name x p2] X.env) (hnd : ∀ k, da ≠ .dict k) :
    J X ρ (.Call (.Name "isinstance" p) [a, .Name x p2] [] pos) (.bool (isiD da ty)) := by
  have hv : bootBuiltins x = some (.type ty.name) ∧ x ≠ "__name__" ∧ (x == ("__debug__" : Str)) = false := by
    unfold tyOf at hty
    split at hty
    · rename_i e; cases hty; subst e; exact ⟨by decide +kernel, by decide, by decide⟩
    · split at hty
      · rename_i e; cases hty; subst e; exact ⟨by decide +kernel, by decide, by decide⟩
      · split at hty
        · rename_i e; cases hty; subst e; exact ⟨by decide +kernel, by decide, by decide⟩
        · split at hty
          · rename_i e; cases hty; subst e; exact ⟨by decide +kernel, by decide, by decide⟩
          · cases hty
  refine J.of (pe_callB call_isi hg hm (by decide +kernel) (pa_cons pwe (pa_cons (pe_bltn (v := .ty ty.name) hgx hmx hv.1 rfl hv.2.1 hv.2.2) pa_nil) hs) (by decide) (by decide) hs rfl) fun σ H E Q q => ha σ H E _ fun y H1 s1 h1 => ?_
  exact ⟨y, _, _, _, _, rfl, .ty _, tyx_of h1, kit_ty (kitB_ok da ty hnd), q _ H1 s1 (.bl _)⟩
theorem fmt_ok {d : PyData} {y : Str} (h : fmtD d = some y) : (∃ s, d = .str s ∧ s.length ≤ lim ∧ y = s) ∨ ∃ i, d = .int i ∧ i.natAbs.log2 < 1920 ∧ y = (toString i : String) := by
  cases d with
  | str s =>
    have h : (if s.length ≤ lim then some s else none) = some y := h
    by_cases hz : s.length ≤ lim
    · rw [if_pos hz] at h; cases h; exact .inl ⟨_, rfl, hz, rfl⟩
    · rw [if_neg hz] at h; cases h
  | int i =>
    have h : (if i.natAbs.log2 < 1920 then some ((toString i : String) : Str) else none) = some y := h
    by_cases hz : i.natAbs.log2 < 1920
    · rw [if_pos hz] at h; cases h; exact .inr ⟨_, rfl, hz, rfl⟩
    · rw [if_neg hz] at h; cases h
  | _ => cases h
end
end JL
/-! JCmp: calls, texts of parts, comprehensions; the whole of an expression. -/
namespace JL
open PySem PySem.Spec PyProof.Rows L2

section
variable {G : Gb} {N : List Str} {k : Nat} {sc : Scope} {X : Cx} {ρ : Rho} {a b c e t : Expr} {es : List Expr} {da db dc d : PyData} {ds : List PyData} {pos : Pos}
theorem pass0' {X : Cx} : Passes CX0 X E0 := pass0
theorem j_own (c : Ctx G N k sc X) {ft : Str → List PyData → Option PyData} (hft : FtOk G k ft) {x : Str} {p : Pos} {r : PyData} (ha : JA X ρ (e :: es) ds) (h : ft x ds = some r) (hg : Gl X x)
    (he : starEach (e :: es) X.env = (false, eval e X.env) :: starEach es X.env) (hpl : (backTo pos (starEach es X.env)).any (·.1) = false) (hdb : (x == ("__debug__" : Str)) = false) : J X ρ (.Call (.Name x p) (e :: es) [] pos) r := by
  obtain ⟨f, fd, ps, R, F, hm, hk, hb, hR⟩ := hft x ds r h
  have F' : FnOk X.prog X.w X.K X.mg X.base CX0 k f fd ps (spR G.K R) := by rw [c.hP, c.hw, c.hK, c.hmg, c.hb]; exact F
  refine J.of (pe_call F' c.room hg (by rw [c.hmg]; exact hm) (by rw [c.hK]; exact hk) (by rw [c.hK]; exact hb) .nil pass0 pwa hdb he hpl) fun σ H E Q q => ha σ H E _ fun vs H1 s1 hv => ?_
  show spR G.K R (vs ++ []) H1 Q E0
  rw [List.append_nil]
  have hv' : DpAll G.K H1 vs ds := by rw [← c.hK]; exact hv
  refine ⟨ds, r, hv', hR, fun v H' s2 h2 => q v H' (s1.trans s2) (by rw [c.hK]; exact h2)⟩
theorem bi_boot {x : Str} {n : Nat} {f : Bi} (h : biOf x n = some f) : bootBuiltins x = some (biVal f) ∧ x ∈ bltNames := by
  unfold biOf at h
  repeat' split at h
  all_goals first
    | cases h
    | skip
  all_goals (try cases h)
  all_goals first
    | (rename_i e; subst e; exact ⟨by decide +kernel, by decide +kernel⟩)
    | (rename_i e; obtain ⟨e, _⟩ := e; subst e; exact ⟨by decide +kernel, by decide +kernel⟩)
theorem j_bi (c : Ctx G N k sc X) (hbn : BnOk G) {x : Str} {n : Nat} {f : Bi} {p : Pos} {r : PyData} (ha : JA X ρ (e :: es) ds) (hf : biOf x n = some f) (h : biD f ds = some r) (hg : Gl X x)
    (he : starEach (e :: es) X.env = (false, eval e X.env) :: starEach es X.env) (hpl : (backTo pos (starEach es X.env)).any (·.1) = false) (hdb : (x == ("__debug__" : Str)) = false) (hnn : x ≠ "__name__") : J X ρ (.Call (.Name x p) (e :: es) [] pos) r := by
  obtain ⟨hv, hin⟩ := bi_boot hf
  have hm : X.mg x = none := by rw [c.hmg]; exact hbn x hin
  have fin : ∀ σ H, EnvD X.K H σ ρ → ∀ Q : VK, (∀ v H2, Same H H2 → Dp X.K H2 v r → Q v H2) → tCB (rBi X.K f) (WA X (e :: es)) σ H Q := fun σ H E Q q => ha σ H E _ fun vs H1 s1 hv => ⟨ds, r, hv, h, fun v H2 s2 h2 => q v H2 (s1.trans s2) h2⟩
  have K := call_biD (X := X) c.calm f
  cases f with
  | len => exact J.of (pe_callB K hg hm hv pwa hnn hdb he hpl) fin
  | abs => exact J.of (pe_callB K hg hm hv pwa hnn hdb he hpl) fin
  | all => exact J.of (pe_callB K hg hm hv pwa hnn hdb he hpl) fin
  | any => exact J.of (pe_callB K hg hm hv pwa hnn hdb he hpl) fin
  | int => exact J.of (pe_callTy K hg hm hv pwa hnn hdb he hpl) fin
  | str => exact J.of (pe_callTy K hg hm hv pwa hnn hdb he hpl) fin
  | tuple => exact J.of (pe_callTy K hg hm hv pwa hnn hdb he hpl) fin
  | max2 => exact J.of (pe_callB K hg hm hv pwa hnn hdb he hpl) fin
  | min2 => exact J.of (pe_callB K hg hm hv pwa hnn hdb he hpl) fin
  | repr => exact J.of (pe_callB K hg hm hv pwa hnn hdb he hpl) fin

/-! ### texts of parts -/
inductive JF (X : Cx) (ρ : Rho) : List Expr → List PyData → Prop
  | nil : JF X ρ [] []
  | fmt {e : Expr} {pos : Pos} {d : PyData} {es : List Expr} {ds : List PyData} (h : J X ρ e d) (r : JF X ρ es ds) : JF X ρ (.FormattedValue e (-1) none pos :: es) (d :: ds)
  | con {s : Str} {k : Nat} {pos : Pos} {es : List Expr} {ds : List PyData} (r : JF X ρ es ds) : JF X ρ (.Constant (.str s) k pos :: es) (.str s :: ds)
theorem JF.run (h : JF X ρ es ds) : ∃ ts, PJ X es ts ∧ ∀ (acc out : Str) σ H, EnvD X.K H σ ρ → catD ds acc = some out → ∀ Q : Str → Hp → Prop, (∀ H2, Same H H2 → Q out H2) → tJs ts acc σ H Q := by
  induction h with
  | nil => exact ⟨[], .nil, fun acc out σ H E hc Q q => by cases hc; exact q H (Same.refl H)⟩
  | fmt h r ih =>
    obtain ⟨ts, pj, k⟩ := ih
    refine ⟨_, .cons (pe_fmt pwe) pj, fun acc out σ H E hc Q q => ?_⟩
    obtain ⟨y, hy, hc'⟩ := Option.bind_eq_some_iff.mp (show (fmtD _).bind (fun y => if (acc ++ y).length ≤ lim then catD _ (acc ++ y) else none) = some out from hc)
    by_cases hz : (acc ++ y).length ≤ lim
    · rw [if_pos hz] at hc'
      refine h σ H E _ fun x H1 s1 h1 => ?_
      rcases fmt_ok hy with ⟨s, rfl, hs, rfl⟩ | ⟨i, rfl, hi, rfl⟩
      · cases h1
        exact .inl ⟨_, rfl, lim_size hs, _, rfl, lim_size hz, k _ out σ H1 (E.mono s1) hc' Q fun H2 s2 => q H2 (s1.trans s2)⟩
      · cases h1
        exact .inr ⟨_, rfl, hi, _, rfl, lim_size hz, k _ out σ H1 (E.mono s1) hc' Q fun H2 s2 => q H2 (s1.trans s2)⟩
    · rw [if_neg hz] at hc'
      cases hc'
  | con r ih =>
    rename_i s _ _ _ _
    obtain ⟨ts, pj, k⟩ := ih
    refine ⟨_, .cons pe_str pj, fun acc out σ H E hc Q q => ?_⟩
    obtain ⟨y, hy, hc⟩ := Option.bind_eq_some_iff.mp (show (fmtD (.str s)).bind (fun y => if (acc ++ y).length ≤ lim then catD _ (acc ++ y) else none) = some out from hc)
    by_cases hz : (acc ++ y).length ≤ lim
    · rw [if_pos hz] at hc
      rcases fmt_ok hy with ⟨s', e, hs, rfl⟩ | ⟨i, e, hi, rfl⟩
      · cases e
        exact ⟨_, rfl, lim_size hz, k _ out σ H E hc Q q⟩
      · cases e
    · rw [if_neg hz] at hc
      cases hc
theorem j_fstr {r : List Expr} {out : Str} (h : JF X ρ (a :: b :: r) ds) (hc : catD ds Str.empty = some out) : J X ρ (.JoinedStr (a :: b :: r) pos) (.str out) := by
  obtain ⟨ts, pj, k⟩ := h.run
  exact J.of (pe_joined pj) fun σ H E Q q => k Str.empty out σ H E hc _ fun H2 s2 => q _ H2 s2 (.str _)

/-! ### comprehensions -/
mutual
theorem dp_noList {K : PySem.W.Frag} {H H' : Hp} (e : ∀ a xs, SqT K H a xs → SqT K H' a xs) : ∀ {v : V} {d : PyData}, noList d = true → Dp K H v d → Dp K H' v d
  | _, _, _, .non => .non
  | _, _, _, .bl b => .bl b
  | _, _, _, .int i => .int i
  | _, _, _, .str x => .str x
  | _, _, h, .lst _ _ => by simp [noList] at h
  | _, _, h, .tup hs a => .tup (e _ _ hs) (dpa_noList e (by simpa [noList] using h) a)
theorem dpa_noList {K : PySem.W.Frag} {H H' : Hp} (e : ∀ a xs, SqT K H a xs → SqT K H' a xs) : ∀ {vs : List V} {ds : List PyData}, noListAll ds = true → DpAll K H vs ds → DpAll K H' vs ds
  | _, _, _, .nil => .nil
  | _, _, h, .cons a t => by
    simp [noListAll] at h
    exact .cons (dp_noList e h.1 a) (dpa_noList e h.2 t)
end
theorem sqT_updL {K : PySem.W.Frag} {H : Hp} {D : Addr} {xs ys : List V} (h : H D = some (.lst xs)) : ∀ a zs, SqT K H a zs → SqT K (upd H D (.lst ys)) a zs := fun a zs hs => by
  rcases hs with (hs | ⟨o, hs⟩) | hs
  · have ne : a ≠ D := fun e => by rw [e, h] at hs; cases hs
    exact .inl (.inl (by rw [upd_ne ne]; exact hs))
  · have ne : a ≠ D := fun e => by rw [e, h] at hs; cases hs
    exact .inl (.inr ⟨o, by rw [upd_ne ne]; exact hs⟩)
  · exact .inr hs
theorem noListAll_app : ∀ {xs ys : List PyData}, noListAll xs = true → noListAll ys = true → noListAll (xs ++ ys) = true
  | [], _, _, h => h
  | x :: xs, ys, h1, h2 => by
    simp [noListAll] at h1 ⊢
    exact ⟨h1.1, noListAll_app h1.2 h2⟩
/-- all contexts of a comprehension's block -/
def Blk (X : Cx) (scope : Scope) (X' : Cx) : Prop := ∃ (s : Shared) (H : Hp) (C : Addr) (cl : List (Str × Addr)) (fp : List Addr), X' = X.blk s H scope (compEnvC scope cl C X.env) fp
/-- what stands at a new list while it grows -/
structure Gr (K : PySem.W.Frag) (H1 : Hp) (D : Addr) (ys : List PyData) (H : Hp) : Prop where
  new : H1 D = none
  same : Same H1 H
  at_ : ∃ vs, H D = some (.lst vs) ∧ DpAll K H vs ys
  nl : noListAll ys = true
theorem Gr.mono {K : PySem.W.Frag} {H1 H H' : Hp} {D : Addr} {ys : List PyData} (g : Gr K H1 D ys H) (e : Same H H') : Gr K H1 D ys H' :=
  ⟨g.new, g.same.trans e, let ⟨vs, h1, h2⟩ := g.at_; ⟨vs, e _ _ h1, dpa_mono e h2⟩, g.nl⟩
theorem Gr.start {K : PySem.W.Frag} {H1 : Hp} {D : Addr} (h : H1 D = none) : Gr K H1 D [] (upd H1 D (.lst [])) := ⟨h, same_upd h, ⟨[], upd_same, .nil⟩, rfl⟩
theorem Gr.push {K : PySem.W.Frag} {H1 H : Hp} {D : Addr} {ys : List PyData} {y : V} {d : PyData} (g : Gr K H1 D ys H) (hd : Dp K H y d) (hn : noList d = true) : ∃ acc, H D = some (.lst acc) ∧ acc.length = ys.length ∧ Gr K H1 D (ys ++ [d]) (upd H D (.lst (acc ++ [y]))) := by
  obtain ⟨vs, h1, h2⟩ := g.at_
  refine ⟨vs, h1, dpa_len h2, g.new, fun b o hb => ?_, ⟨vs ++ [y], upd_same, ?_⟩, noListAll_app g.nl (by simp [noListAll, hn])⟩
  · rw [upd_ne (ne_of_none hb g.new)]
    exact g.same b o hb
  · exact dpa_app (dpa_noList (sqT_updL h1) g.nl h2) (.cons (dp_noList (sqT_updL h1) hn hd) .nil)
/-- a target's store, by the data -/
def Tg.g (K : PySem.W.Frag) : Tg → TG
  | .one i => gName i
  | .two i j => gTup K 2 (gCons (gName i) (gCons (gName j) gNil))
theorem wipe_env {K : PySem.W.Frag} {H : Hp} {σ : L2.St} {ρ : Rho} (tg : Tg) (E : EnvD K H σ ρ) : EnvD K H (wipe σ tg.slots) (tg.wipe ρ) := by
  have one : ∀ {σ : L2.St} {ρ : Rho} (i : Nat), EnvD K H σ ρ → EnvD K H (σ.set i none) (ρ.set i none) := fun {σ ρ} i E => by
    refine ⟨by simpa using E.len, fun (j : Nat) (d : PyData) hj => ?_⟩
    by_cases hji : j = i
    · subst hji
      by_cases hl : j < ρ.length
      · rw [List.getElem?_set_self hl] at hj
        cases hj
      · rw [List.getElem?_eq_none (by simpa using hl)] at hj
        cases hj
    · rw [List.getElem?_set_ne (Ne.symm hji)] at hj
      obtain ⟨v', h1, h2⟩ := E.get j d hj
      exact ⟨v', by rw [List.getElem?_set_ne (Ne.symm hji)]; exact h1, h2⟩
  cases tg with
  | one i => exact one i E
  | two i j => exact one i (one j E)
theorem tg_ok {K : PySem.W.Frag} {H : Hp} {σ : L2.St} {ρ ρ' : Rho} {tg : Tg} (hij : ∀ i j, tg = .two i j → i ≠ j) {x : V} {d : PyData} (E : EnvD K H (wipe σ tg.slots) ρ) (hx : Dp K H x d) (hb : tg.bind ρ d = some ρ') (Q : L2.St → Hp → Prop)
    (q : ∀ σ2, EnvD K H σ2 ρ' → wipe σ2 tg.slots = wipe σ tg.slots → Q σ2 H) : tg.g K x (wipe σ tg.slots) H Q := by
  cases tg with
  | one i =>
    cases hb
    exact q _ (E.set i hx) (by show (((σ.set i none).set i (some x)).set i none) = σ.set i none; rw [List.set_set, List.set_set])
  | two i j =>
    have hne := hij i j rfl
    cases hx with
    | tup hs ha =>
      rename_i a xs ds
      cases ds with
      | nil => cases hb
      | cons d1 r =>
        cases r with
        | nil => cases hb
        | cons d2 r =>
          cases r with
          | cons _ _ => cases hb
          | nil =>
            cases hb
            obtain ⟨v, w, rfl, h1, h2⟩ := dpa2 ha
            refine ⟨a, _, rfl, hs, rfl, v, [w], rfl, w, [], rfl, rfl, ?_⟩
            refine q _ ((E.set i h1).set j h2) ?_
            show ((((((σ.set j none).set i none).set i (some v)).set j (some w)).set j none).set i none) = (σ.set j none).set i none
            have key : ∀ l : L2.St, (((l.set i (some v)).set j (some w)).set j none).set i none = (l.set j none).set i none := fun l => by
              rw [List.set_set, List.set_comm _ _ hne, List.set_set]
            rw [key, List.set_comm _ _ hne, List.set_set, List.set_set]
    | _ => cases hb
theorem compL_cons {bind : PyData → Option Rho} {cond elt : Rho → Option PyData} {x : PyData} {r ys : List PyData} (h : compL bind cond elt (x :: r) = some ys) :
    ∃ ρ, bind x = some ρ ∧ ((cond ρ = some (.bool true) ∧ ∃ y ys', elt ρ = some y ∧ noList y = true ∧ compL bind cond elt r = some ys' ∧ ys = y :: ys') ∨ (cond ρ = some (.bool false) ∧ compL bind cond elt r = some ys)) := by
  unfold compL at h
  obtain ⟨ρ, hρ, h⟩ := Option.bind_eq_some_iff.mp h
  obtain ⟨c, hc, h⟩ := Option.bind_eq_some_iff.mp h
  refine ⟨ρ, hρ, ?_⟩
  cases c with
  | bool b =>
    cases b with
    | true =>
      obtain ⟨y, hy, h⟩ := Option.bind_eq_some_iff.mp h
      cases hn : noList y with
      | true =>
        rw [hn, if_pos rfl] at h
        obtain ⟨ys', hys, rfl⟩ := Option.map_eq_some_iff.mp h
        exact .inl ⟨hc, y, ys', hy, hn, hys, rfl⟩
      | false =>
        rw [hn] at h
        cases h
    | false => exact .inr ⟨hc, h⟩
  | _ => cases h
/-- the state of a comprehension behind i turns: what is made, what the rest makes -/
def CInv (K : PySem.W.Frag) (H1 : Hp) (D : Addr) (bind : PyData → Option Rho) (cond elt : Rho → Option PyData) (items all : List PyData) (i : Nat) (H : Hp) : Prop :=
  ∃ ys rest, Gr K H1 D ys H ∧ compL bind cond elt (items.drop i) = some rest ∧ ys ++ rest = all ∧ ys.length ≤ i
theorem cturn {K : PySem.W.Frag} {H1 H : Hp} {D : Addr} {σ : L2.St} {ρ : Rho} {tg : Tg} (hij : ∀ i j, tg = .two i j → i ≠ j) {cond elt : Rho → Option PyData} {items all : List PyData} {i : Nat} {x : V} {d : PyData} {tt : TT} {te : TE}
    (E : EnvD K H1 σ ρ) (hx : Dp K H x d) (hi : items[i]? = some d) (hlen : items.length ≤ lim) (c : CInv K H1 D (tg.bind (tg.wipe ρ)) cond elt items all i H)
    (ht : ∀ ρ' b, cond ρ' = some (.bool b) → ∀ σ H, EnvD K H σ ρ' → ∀ Q : Bool → Hp → Prop, (∀ H2, Same H H2 → Q b H2) → tt σ H Q)
    (he : ∀ ρ' d, elt ρ' = some d → ∀ σ H, EnvD K H σ ρ' → ∀ Q : VK, (∀ v H2, Same H H2 → Dp K H2 v d → Q v H2) → te σ H Q) :
    tg.g K x (wipe σ tg.slots) H fun σ2 H2 => wipe σ2 tg.slots = wipe σ tg.slots ∧ tt σ2 H2 fun b H3 =>
      if b = true then te σ2 H3 fun y H4 => ∃ acc, H4 D = some (.lst acc) ∧ acc.length < sizeLine ∧ CInv K H1 D (tg.bind (tg.wipe ρ)) cond elt items all (i + 1) (upd H4 D (.lst (acc ++ [y]))) else CInv K H1 D (tg.bind (tg.wipe ρ)) cond elt items all (i + 1) H3 := by
  obtain ⟨ys, rest, g, hc, hall, hl⟩ := c
  have hil : i < items.length := (List.getElem?_eq_some_iff.mp hi).1
  have hdrop : items.drop i = d :: items.drop (i + 1) := by
    rw [List.drop_eq_getElem_cons hil]
    have e2 : items[i] = d := Option.some.inj ((List.getElem?_eq_getElem hil).symm.trans hi)
    rw [e2]
  rw [hdrop] at hc
  obtain ⟨ρ', hb, hcase⟩ := compL_cons hc
  refine tg_ok hij ((wipe_env tg E).mono g.same) hx hb _ fun σ2 E2 hw => ⟨hw, ?_⟩
  rcases hcase with ⟨hcond, y, ys', hy, hn, hrest, rfl⟩ | ⟨hcond, hrest⟩
  · refine ht ρ' true hcond σ2 H E2 _ fun H3 s3 => iteT ?_
    refine he ρ' y hy σ2 H3 (E2.mono s3) _ fun v H4 s4 h4 => ?_
    obtain ⟨acc, h1, h2, h3⟩ := (g.mono (s3.trans s4)).push h4 hn
    refine ⟨acc, h1, ?_, ys ++ [y], ys', h3, hrest, by rw [List.append_assoc]; exact hall, by rw [List.length_append, List.length_singleton]; omega⟩
    rw [h2]
    exact Nat.lt_of_le_of_lt hl (Nat.lt_of_lt_of_le hil (lim_size hlen))
  · refine ht ρ' false hcond σ2 H E2 _ fun H3 s3 => iteF ?_
    exact ⟨ys, rest, g.mono s3, hrest, hall, Nat.le_succ_of_le hl⟩
theorem dpa_at {K : PySem.W.Frag} {H : Hp} : ∀ {vs : List V} {ds : List PyData} {i : Nat} {v : V}, DpAll K H vs ds → vs[i]? = some v → ∃ d, ds[i]? = some d ∧ Dp K H v d
  | _, _, _, _, .nil, h => by simp at h
  | _, _, 0, _, .cons h _, e => by simp at e; subst e; exact ⟨_, rfl, h⟩
  | _, _, i + 1, _, .cons _ t, e => by
    obtain ⟨v, h1, h2⟩ := dpa_at (i := i) t (by simpa using e)
    exact ⟨v, by simpa using h1, h2⟩
end
end JL
/-! JAll: a comprehension; the whole of an expression. -/
namespace JL
open PySem PySem.Spec PyProof.Rows L2

theorem tg_slots {N : List Str} {sc : Scope} {tg : Expr} {t : Tg} {own : List (Str × Nat)} (h : compTg N sc tg = some (t, own)) : own.map (·.2) = t.slots ∧ ∀ i j, t = .two i j → i ≠ j := by
  unfold compTg at h
  split at h
  · split at h
    · obtain ⟨i, hi, e⟩ := Option.map_eq_some_iff.mp h
      cases e
      exact ⟨rfl, fun _ _ z => nomatch z⟩
    · cases h
  · split at h
    · obtain ⟨i, hi, h⟩ := Option.bind_eq_some_iff.mp h
      obtain ⟨j, hj, h⟩ := Option.bind_eq_some_iff.mp h
      by_cases hz : i ≠ j
      · rw [if_pos hz] at h
        cases h
        exact ⟨rfl, fun _ _ z => by cases z; exact hz⟩
      · rw [if_neg hz] at h
        cases h
    · cases h
  · cases h
theorem tg_pg {G : Gb} {N : List Str} {k : Nat} {sc : Scope} {X : Cx} (c : Ctx G N k sc X) {tg : Expr} {t : Tg} {own : List (Str × Nat)} (h : compTg N sc tg = some (t, own)) : PG X tg (t.g X.K) := by
  have name : ∀ {x : Str} {i : Nat} {pos : Pos}, isLoc sc x = true → slotOf N x = some i → PG X (.Name x pos) (gName i) := fun {x i pos} h1 h2 => by
    have hl : X.env.scope.names.lookup x = some .local := by rw [c.hs]; exact loc_of h1
    exact pg_name (by rw [c.hN]; exact c.nd) (by rw [c.hN]; exact slotOf_get h2) (.inl hl) (.inr hl)
  unfold compTg at h
  split at h
  · split at h
    · rename_i h1
      obtain ⟨i, hi, e⟩ := Option.map_eq_some_iff.mp h
      cases e
      exact name h1 hi
    · cases h
  · split at h
    · rename_i h1
      obtain ⟨i, hi, h⟩ := Option.bind_eq_some_iff.mp h
      obtain ⟨j, hj, h⟩ := Option.bind_eq_some_iff.mp h
      by_cases hz : i ≠ j
      · rw [if_pos hz] at h
        cases h
        simp only [Bool.and_eq_true] at h1
        exact pg_tup c.calm (pgs_cons (name h1.1.1 hi) (pgs_cons (name h1.1.2 hj) pgs_nil))
      · rw [if_neg hz] at h
        cases h
    · cases h
  · cases h
/-- the loop of a comprehension over data that stands -/
theorem c_walk {K : PySem.W.Frag} {H1 : Hp} {σ : L2.St} {ρ : Rho} {t : Tg} (hij : ∀ i j, t = .two i j → i ≠ j) {cond elt : Rho → Option PyData} {items all : List PyData} {tt : TT} {te : TE} {Q : VK} {D : Addr}
    (E : EnvD K H1 σ ρ) (hD : H1 D = none) (hlen : items.length ≤ lim) (hc : compL (t.bind (t.wipe ρ)) cond elt items = some all)
    (ht : ∀ ρ' b, cond ρ' = some (.bool b) → ∀ σ H, EnvD K H σ ρ' → ∀ Q : Bool → Hp → Prop, (∀ H2, Same H H2 → Q b H2) → tt σ H Q)
    (he : ∀ ρ' d, elt ρ' = some d → ∀ σ H, EnvD K H σ ρ' → ∀ Q : VK, (∀ v H2, Same H H2 → Dp K H2 v d → Q v H2) → te σ H Q)
    (q : ∀ H2, Same H1 H2 → Dp K H2 (.ref D) (.list all) → Q (.ref D) H2) :
    CInv K H1 D (t.bind (t.wipe ρ)) cond elt items all 0 (upd H1 D (.lst [])) ∧ (∀ i x d H, Dp K H1 x d → items[i]? = some d → CInv K H1 D (t.bind (t.wipe ρ)) cond elt items all i H → t.g K x (wipe σ t.slots) H fun σ2 H2 => wipe σ2 t.slots = wipe σ t.slots ∧ tt σ2 H2 fun b H3 =>
      if b = true then te σ2 H3 fun y H4 => ∃ acc, H4 D = some (.lst acc) ∧ acc.length < sizeLine ∧ CInv K H1 D (t.bind (t.wipe ρ)) cond elt items all (i + 1) (upd H4 D (.lst (acc ++ [y]))) else CInv K H1 D (t.bind (t.wipe ρ)) cond elt items all (i + 1) H3) ∧
    (∀ H, CInv K H1 D (t.bind (t.wipe ρ)) cond elt items all items.length H → Q (.ref D) H) ∧ (∀ i H, CInv K H1 D (t.bind (t.wipe ρ)) cond elt items all i H → Same H1 H) := by
  refine ⟨⟨[], all, Gr.start hD, hc, rfl, Nat.zero_le _⟩, fun i x d H hx hi ci => ?_, fun H ci => ?_, fun i H ⟨_, _, g, _⟩ => g.same⟩
  · have hs : Same H1 H := by obtain ⟨_, _, g, _⟩ := ci; exact g.same
    exact cturn hij E (dp_mono hs hx) hi hlen ci ht he
  · obtain ⟨ys, rest, g, hr, hall, _⟩ := ci
    rw [List.drop_length] at hr
    cases hr
    rw [List.append_nil] at hall
    subst hall
    obtain ⟨vs, h1, h2⟩ := g.at_
    exact q H g.same (.lst (.inl (.inl h1)) h2)
section
variable {G : Gb} {N : List Str} {k : Nat} {sc : Scope} {X : Cx} {ρ : Rho} {elt tg iter : Expr} {ifs : List Expr} {scope : Scope} {t : Tg} {own : List (Str × Nat)} {pos : Pos} {dI : PyData} {items all : List PyData} {cond eltF : Rho → Option PyData}
/-- tests of a block, in all its contexts -/
def tIfs (X : Cx) (scope : Scope) : List Expr → TT
  | [] => tYes
  | c :: _ => fun σ H Q => ∀ X', Blk X scope X' → WT X' c σ H Q
def tElt (X : Cx) (scope : Scope) (elt : Expr) : TE := fun σ H Q => ∀ X', Blk X scope X' → WE X' elt σ H Q
theorem sqT_mono {K : PySem.W.Frag} {H H' : Hp} {a : Addr} {xs : List V} (e : Same H H') (h : SqT K H a xs) : SqT K H' a xs := by
  rcases h with (h | ⟨o, h⟩) | h
  · exact .inl (.inl (e _ _ h))
  · exact .inl (.inr ⟨o, e _ _ h⟩)
  · exact .inr h
/-- what all rules of a comprehension want, and what they then give -/
structure CompOk (G : Gb) (N : List Str) (k : Nat) (sc : Scope) (X : Cx) (ρ : Rho) (elt tg iter : Expr) (ifs : List Expr) (scope : Scope) (t : Tg) (own : List (Str × Nat)) (dI : PyData) (items all : List PyData) (cond eltF : Rho → Option PyData) : Prop where
  c : Ctx G N k sc X
  tgt : compTg N (relS scope sc) tg = some (t, own)
  blk : blkC N sc scope own = true
  it : J X ρ iter dI
  its : iterD dI = some items
  len : items.length ≤ lim
  fold : ∀ x, foldedSetIterable iter X.env x = pure x
  run : compL (t.bind (t.wipe ρ)) cond eltF items = some all
  ifs : (ifs = [] ∧ cond = fun _ => some (.bool true)) ∨ ∃ e, ifs = [e] ∧ ∀ X', Blk X scope X' → ∀ ρ' b, cond ρ' = some (.bool b) → JT X' ρ' e b
  elt : ∀ X', Blk X scope X' → ∀ ρ' d, eltF ρ' = some d → J X' ρ' elt d
theorem CompOk.parts (o : CompOk G N k sc X ρ elt tg iter ifs scope t own dI items all cond eltF) :
    ∃ (wi : TI) (tt : TT) (te : TE), PI X tg iter wi ∧ BlkOk X.N X.env.scope scope own ∧
      (∀ (s : Shared) (H : Hp) (C : Addr) (cl : List (Str × Addr)) (fp : List Addr), PG (X.blk s H scope (compEnvC scope cl C X.env) fp) tg (t.g X.K)) ∧
      (∀ (s : Shared) (H : Hp) (C : Addr) (cl : List (Str × Addr)) (fp : List Addr), PTs (X.blk s H scope (compEnvC scope cl C X.env) fp) ifs tt) ∧
      (∀ (s : Shared) (H : Hp) (C : Addr) (cl : List (Str × Addr)) (fp : List Addr), PE (X.blk s H scope (compEnvC scope cl C X.env) fp) elt te) ∧
      ∀ σ H, EnvD X.K H σ ρ → ∀ Q : VK, (∀ v H2, Same H H2 → Dp X.K H2 v (.list all) → Q v H2) → tLc wi (t.g X.K) tt te (own.map (·.2)) σ H Q := by
  obtain ⟨hsl, hij⟩ := tg_slots o.tgt
  have bo : BlkOk X.N X.env.scope scope own := by rw [o.c.hN, o.c.hs]; exact blkOk_by o.blk
  have hg : ∀ (s : Shared) (H : Hp) (C : Addr) (cl : List (Str × Addr)) (fp : List Addr), PG (X.blk s H scope (compEnvC scope cl C X.env) fp) tg (t.g X.K) := fun s H C cl fp => tg_pg (o.c.blk s H scope C cl fp) o.tgt
  have ht1 : ∀ (s : Shared) (H : Hp) (C : Addr) (cl : List (Str × Addr)) (fp : List Addr), PTs (X.blk s H scope (compEnvC scope cl C X.env) fp) ifs (tIfs X scope ifs) := fun s H C cl fp => by
    rcases o.ifs with ⟨rfl, _⟩ | ⟨e, rfl, _⟩
    · exact pts_nil
    · exact pts_one ⟨fun pins s' σ H' Q I h => h _ ⟨s, H, C, cl, fp, rfl⟩ pins s' I⟩
  have he1 : ∀ (s : Shared) (H : Hp) (C : Addr) (cl : List (Str × Addr)) (fp : List Addr), PE (X.blk s H scope (compEnvC scope cl C X.env) fp) elt (tElt X scope elt) := fun s H C cl fp =>
    ⟨fun pins s' σ H' Q I h => h _ ⟨s, H, C, cl, fp, rfl⟩ pins s' I⟩
  have bK : ∀ {X' : Cx}, Blk X scope X' → X'.K = X.K := fun ⟨_, _, _, _, _, e⟩ => by rw [e]
  have ht2 : ∀ ρ' b, cond ρ' = some (.bool b) → ∀ σ H, EnvD X.K H σ ρ' → ∀ Q : Bool → Hp → Prop, (∀ H2, Same H H2 → Q b H2) → tIfs X scope ifs σ H Q := fun ρ' b hc σ H E Q q => by
    rcases o.ifs with ⟨rfl, hcd⟩ | ⟨e, rfl, hj⟩
    · rw [hcd] at hc
      cases hc
      exact q H (Same.refl H)
    · exact fun X' hX => hj X' hX ρ' b hc σ H (by rw [bK hX]; exact E) Q q
  have he2 : ∀ ρ' d, eltF ρ' = some d → ∀ σ H, EnvD X.K H σ ρ' → ∀ Q : VK, (∀ v H2, Same H H2 → Dp X.K H2 v d → Q v H2) → tElt X scope elt σ H Q := fun ρ' d hd σ H E Q q X' hX =>
    o.elt X' hX ρ' d hd σ H (by rw [bK hX]; exact E) Q fun v H2 s2 h2 => q v H2 s2 (by rw [← bK hX]; exact h2)
  rw [hsl]
  have hI := o.it
  have hrun := o.run
  have hlen := o.len
  have hit := o.its
  cases dI with
  | list ds =>
    cases hit
    refine ⟨_, _, _, pi_list pwe, bo, hg, ht1, he1, fun σ H E Q q => hI σ H E _ fun x H1 s1 h1 => ?_⟩
    cases h1 with
    | lst hl ha =>
      refine ⟨_, rfl, ⟨_, hl⟩, fun D hD => ?_⟩
      obtain ⟨w0, w1, w2, w3⟩ := c_walk (Q := Q) hij (E.mono s1) hD hlen hrun ht2 he2 fun H2 s2 h2 => q _ H2 (s1.trans s2) h2
      have hl0 := dpa_len ha
      refine lc_list (g := t.g X.K) (tt := tIfs X scope ifs) (te := tElt X scope elt) (vs := t.slots) (σ := σ) (CInv X.K H1 D _ cond eltF _ all) w0 (fun i H' _ ci => (w3 i H' ci).seq hl) (fun i x H' hx ci => ?_) (fun H' ci => w2 H' (by rw [← hl0]; exact ci))
      obtain ⟨d, hd, hxd⟩ := dpa_at ha hx
      exact w1 i x d H' hxd hd ci
  | tuple ds =>
    cases hit
    refine ⟨_, _, _, pi_tup pwe, bo, hg, ht1, he1, fun σ H E Q q => hI σ H E _ fun x H1 s1 h1 => ?_⟩
    cases h1 with
    | tup hl ha =>
      refine ⟨_, rfl, ⟨_, hl⟩, fun D hD => ?_⟩
      obtain ⟨w0, w1, w2, w3⟩ := c_walk (Q := Q) hij (E.mono s1) hD hlen hrun ht2 he2 fun H2 s2 h2 => q _ H2 (s1.trans s2) h2
      have hl0 := dpa_len ha
      refine lc_tup (g := t.g X.K) (tt := tIfs X scope ifs) (te := tElt X scope elt) (vs := t.slots) (σ := σ) (CInv X.K H1 D _ cond eltF _ all) w0 (fun i H' _ ci => sqT_mono (w3 i H' ci) hl) (fun i x H' hx ci => ?_) (fun H' ci => w2 H' (by rw [← hl0]; exact ci))
      obtain ⟨d, hd, hxd⟩ := dpa_at ha hx
      exact w1 i x d H' hxd hd ci
  | str s =>
    cases hit
    refine ⟨_, _, _, pi_str pwe, bo, hg, ht1, he1, fun σ H E Q q => hI σ H E _ fun x H1 s1 h1 => ?_⟩
    cases h1
    refine ⟨_, rfl, fun D hD => ?_⟩
    obtain ⟨w0, w1, w2, w3⟩ := c_walk (Q := Q) hij (E.mono s1) hD hlen hrun ht2 he2 fun H2 s2 h2 => q _ H2 (s1.trans s2) h2
    have hl0 : (signsD s).length = s.cps.size := by unfold signsD; rw [List.length_map, Array.length_toList]
    refine ⟨fun i m H => m = s.cps.size - i ∧ i ≤ s.cps.size ∧ CInv X.K H1 D _ cond eltF _ all i H, ⟨s.cps.size, by simp, Nat.zero_le _, w0⟩, ?_⟩
    rintro i m H' ⟨rfl, hi, p⟩
    by_cases hlt : i < s.cps.size
    · refine .inr ⟨hlt, CInv X.K H1 D _ cond eltF _ all (i + 1), fun H'' p' => ⟨s.cps.size - (i + 1), by omega, rfl, hlt, p'⟩, fun x H'' y => ?_⟩
      obtain ⟨e, ch, hch, e2⟩ := y
      subst e e2
      refine w1 i _ (.str ⟨#[ch]⟩) _ (.str _) ?_ p
      unfold signsD
      rw [List.getElem?_map, Array.getElem?_toList, hch]
      rfl
    · have e : i = s.cps.size := by omega
      subst e
      exact .inl ⟨Nat.le_refl _, w2 H' (by rw [hl0]; exact p)⟩
  | _ => cases hit
theorem j_comp (o : CompOk G N k sc X ρ elt tg iter ifs scope t own dI items all cond eltF) : J X ρ (.ListComp elt [⟨tg, iter, ifs, 0⟩] scope pos) (.list all) := by
  obtain ⟨wi, tt, te, hi, bo, hg, ht, he, q⟩ := o.parts
  exact J.of (pe_lc o.c.calm (by rw [o.c.hN]; exact o.c.nd) hi bo hg ht he o.fold) fun σ H E Q k => q σ H E Q k
end
end JL
/-! JMain: an expression that is taken does what the small language says. -/
namespace JL
open PySem PySem.Spec PyProof.Rows L2

def isB : Expr → Bool
  | .BoolOp _ _ _ => true
  | _ => false
/-- what is shown of an expression -/
structure Good (ft : Str → List PyData → Option PyData) (gv : Str → Option PyData) (X : Cx) (e : Expr) (ce : CE) : Prop where
  j : ∀ ρ d, evE ft gv ce ρ = some d → J X ρ e d
  t : isIfE ce = false → ∀ ρ b, evE ft gv ce ρ = some (.bool b) → JT X ρ e b
  w : isB e = true → ∀ ρ b, evE ft gv ce ρ = some (.bool b) → JW X ρ e b
section
variable {G : Gb} {N : List Str} {k : Nat} {ft : Str → List PyData → Option PyData} {gv : Str → Option PyData} {X : Cx} {e : Expr} {ce : CE}
theorem Good.plain (h : ∀ ρ d, evE ft gv ce ρ = some d → J X ρ e d) (hp : plainT e = true) (hb : isB e = false) : Good ft gv X e ce :=
  ⟨h, fun _ ρ b hb => jt_val (h ρ _ hb) hp, fun z => by rw [hb] at z; cases z⟩
/-- only as a value -/
theorem Good.valT (h : ∀ ρ d, evE ft gv ce ρ = some d → J X ρ e d) (ht : isIfE ce = false → ∀ ρ b, evE ft gv ce ρ = some (.bool b) → JT X ρ e b) (hb : isB e = false) : Good ft gv X e ce :=
  ⟨h, ht, fun z => by rw [hb] at z; cases z⟩
theorem and_inv {x : PyData} {y : Option PyData} {d : PyData} (h : andD x y = some d) : ∃ b, x = .bool b ∧ (b = true → y = some d) ∧ (b = false → d = .bool false) := by
  unfold andD at h
  split at h
  · exact ⟨true, rfl, fun _ => h, fun z => by cases z⟩
  · cases h
    exact ⟨false, rfl, fun z => (by cases z), fun _ => rfl⟩
  · cases h
theorem or_inv {x : PyData} {y : Option PyData} {d : PyData} (h : orD x y = some d) : ∃ b, x = .bool b ∧ (b = false → y = some d) ∧ (b = true → d = .bool true) := by
  unfold orD at h
  split at h
  · cases h
    exact ⟨true, rfl, fun z => (by cases z), fun _ => rfl⟩
  · exact ⟨false, rfl, fun _ => h, fun z => by cases z⟩
  · cases h
theorem if_inv {x : PyData} {y z : Option PyData} {d : PyData} (h : ifD x y z = some d) : ∃ b, x = .bool b ∧ (b = true → y = some d) ∧ (b = false → z = some d) := by
  unfold ifD at h
  split at h
  · exact ⟨true, rfl, fun _ => h, fun z => by cases z⟩
  · exact ⟨false, rfl, fun z => (by cases z), fun _ => h⟩
  · cases h
theorem not_inv {x d : PyData} (h : notD x = some d) : ∃ b, x = .bool b ∧ d = .bool (!b) := by
  unfold notD at h
  split at h
  · cases h
    exact ⟨_, rfl, rfl⟩
  · cases h
theorem mapC_ok {f : Expr → Option CE} (hf : ∀ e ce, f e = some ce → (∀ ρ d, evE ft gv ce ρ = some d → J X ρ e d) ∧ ∀ es, starEach (e :: es) X.env = (false, eval e X.env) :: starEach es X.env) :
    ∀ {es : List Expr} {cs : List CE}, mapC f es = some cs → ∀ ρ ds, evA ft gv cs ρ = some ds → JA X ρ es ds
  | [], cs, h, ρ, ds, hd => by
    cases h
    cases hd
    exact ja_nil
  | e :: r, cs, h, ρ, ds, hd => by
    obtain ⟨c, hc, h2⟩ := Option.bind_eq_some_iff.mp h
    obtain ⟨cs', hcs, rfl⟩ := Option.map_eq_some_iff.mp h2
    obtain ⟨d, h3, h4⟩ := Option.bind_eq_some_iff.mp (show (evE ft gv c ρ).bind (fun d => (evA ft gv cs' ρ).map (d :: ·)) = some ds from hd)
    obtain ⟨ds', h5, rfl⟩ := Option.map_eq_some_iff.mp h4
    obtain ⟨g1, g2⟩ := hf e c hc
    exact ja_cons (g1 ρ d h3) (mapC_ok hf hcs ρ ds' h5) (g2 r)
theorem fpart_ok {f : Expr → Option CE} (hf : ∀ e ce, f e = some ce → ∀ ρ d, evE ft gv ce ρ = some d → J X ρ e d) :
    ∀ {es : List Expr} {cs : List CE}, mapC (fpart f) es = some cs → ∀ ρ ds, evA ft gv cs ρ = some ds → JF X ρ es ds
  | [], cs, h, ρ, ds, hd => by
    cases h
    cases hd
    exact .nil
  | e :: r, cs, h, ρ, ds, hd => by
    obtain ⟨c, hc, h2⟩ := Option.bind_eq_some_iff.mp h
    obtain ⟨cs', hcs, rfl⟩ := Option.map_eq_some_iff.mp h2
    obtain ⟨d, h3, h4⟩ := Option.bind_eq_some_iff.mp (show (evE ft gv c ρ).bind (fun d => (evA ft gv cs' ρ).map (d :: ·)) = some ds from hd)
    obtain ⟨ds', h5, rfl⟩ := Option.map_eq_some_iff.mp h4
    have ih := fpart_ok hf hcs ρ ds' h5
    unfold fpart at hc
    split at hc
    · split at hc
      · rename_i hm
        subst hm
        exact .fmt (hf _ _ hc ρ d h3) ih
      · cases hc
    · cases hc
      cases h3
      exact .con ih
    · cases hc
theorem evA_len {cs : List CE} {ρ : Rho} {ds : List PyData} (h : evA ft gv cs ρ = some ds) : True := trivial

theorem snd (hft : FtOk G k ft) (hgv : GvOk G gv) (hbn : BnOk G) : ∀ (n : Nat) (sc : Scope) (e : Expr) (ce : CE), compE N n sc e = some ce → ∀ X, Ctx G N k sc X → Good ft gv X e ce := by
  intro n
  induction n with
  | zero =>
    intro sc e ce h
    cases e <;> simp [compE] at h
  | succ n ih =>
    intro sc e ce h X c
    have lst : ∀ {es : List Expr} {cs : List CE}, mapC (compE N n sc) es = some cs → ∀ ρ ds, evA ft gv cs ρ = some ds → JA X ρ es ds := fun {es cs} hm =>
      mapC_ok (fun e ce he => ⟨(ih sc e ce he X c).j, fun es => star_of he es X.env⟩) hm
    change compS N (compE N n) sc e = some ce at h
    unfold compS at h
    split at h
    · -- a name
      rename_i x pos
      refine .plain (fun ρ d hd => ?_) rfl rfl
      split at h
      · cases h
      · rename_i hx
        split at h
        · rename_i hv
          obtain ⟨i, hi, rfl⟩ := Option.map_eq_some_iff.mp h
          have hd' : (ρ[i]?).join = some d := hd
          have hd2 : ρ[i]? = some (some d) := by
            cases hq : ρ[i]? with
            | none => rw [hq] at hd'; cases hd'
            | some o => rw [hq] at hd'; simpa using hd'
          exact j_var i hd2 (by rw [c.hN]; exact slotOf_get hi) (c.vis hv) (by simpa using fun e => hx (.inl e)) (by simpa using fun e => hx (.inr e))
        · split at h
          · rename_i hg
            cases h
            obtain ⟨u, v, hm, r, hd2⟩ := hgv x d hd
            exact j_glob (c.gl hg) (by rw [c.hmg]; exact hm) r (fun H => by rw [c.hK]; exact hd2 H) (by simpa using fun e => hx (.inl e))
          · cases h
    · cases h
      exact .plain (fun ρ d hd => by cases hd; exact j_int) rfl rfl
    · cases h
      exact .plain (fun ρ d hd => by cases hd; exact j_bl) rfl rfl
    · cases h
      exact .plain (fun ρ d hd => by cases hd; exact j_non) rfl rfl
    · cases h
      exact .plain (fun ρ d hd => by cases hd; exact j_str) rfl rfl
    · -- an operation
      obtain ⟨ca, ha, h⟩ := Option.bind_eq_some_iff.mp h
      obtain ⟨cb, hb, rfl⟩ := Option.map_eq_some_iff.mp h
      refine .plain (fun ρ d hd => ?_) rfl rfl
      rw [evE] at hd
      obtain ⟨x, hx, hd⟩ := Option.bind_eq_some_iff.mp hd
      obtain ⟨y, hy, hd⟩ := Option.bind_eq_some_iff.mp hd
      exact j_bin ((ih _ _ _ ha X c).j ρ x hx) ((ih _ _ _ hb X c).j ρ y hy) hd
    · -- minus
      obtain ⟨ca, ha, rfl⟩ := Option.map_eq_some_iff.mp h
      refine .plain (fun ρ d hd => ?_) rfl rfl
      rw [evE] at hd
      obtain ⟨x, hx, hd⟩ := Option.bind_eq_some_iff.mp hd
      exact j_neg ((ih _ _ _ ha X c).j ρ x hx) hd
    · -- not
      obtain ⟨ca, ha, h⟩ := Option.bind_eq_some_iff.mp h
      split at h
      · cases h
      · rename_i hif
        cases h
        have hif' : isIfE ca = false := by simpa using hif
        refine .valT (fun ρ d hd => ?_) (fun _ ρ b hd => ?_) rfl
        · rw [evE] at hd
          obtain ⟨x, hx, hd⟩ := Option.bind_eq_some_iff.mp hd
          obtain ⟨r, rfl, rfl⟩ := not_inv hd
          exact j_not ((ih _ _ _ ha X c).j ρ _ hx)
        · rw [evE] at hd
          obtain ⟨x, hx, hd⟩ := Option.bind_eq_some_iff.mp hd
          obtain ⟨r, rfl, hr⟩ := not_inv hd
          cases hr
          exact jt_not ((ih _ _ _ ha X c).t hif' ρ _ hx)
    · -- a comparison
      split at h
      · cases h
      · rename_i hm
        obtain ⟨ca, ha, h⟩ := Option.bind_eq_some_iff.mp h
        obtain ⟨cb, hb, rfl⟩ := Option.map_eq_some_iff.mp h
        have hm' := Bool.eq_false_iff.mpr hm
        refine .valT (fun ρ d hd => ?_) (fun _ ρ b hd => ?_) rfl
        · rw [evE] at hd
          obtain ⟨x, hx, hd⟩ := Option.bind_eq_some_iff.mp hd
          obtain ⟨y, hy, hd⟩ := Option.bind_eq_some_iff.mp hd
          obtain ⟨r, hr, rfl⟩ := Option.map_eq_some_iff.mp hd
          exact j_cmp c.hu ((ih _ _ _ ha X c).j ρ x hx) ((ih _ _ _ hb X c).j ρ y hy) hr hm'
        · rw [evE] at hd
          obtain ⟨x, hx, hd⟩ := Option.bind_eq_some_iff.mp hd
          obtain ⟨y, hy, hd⟩ := Option.bind_eq_some_iff.mp hd
          obtain ⟨r, hr, e⟩ := Option.map_eq_some_iff.mp hd
          cases e
          exact jt_cmp c.hu ((ih _ _ _ ha X c).j ρ x hx) ((ih _ _ _ hb X c).j ρ y hy) hr hm'
    · -- two comparisons
      split at h
      · cases h
      · rename_i hm
        obtain ⟨ca, ha, h⟩ := Option.bind_eq_some_iff.mp h
        obtain ⟨cb, hb, h⟩ := Option.bind_eq_some_iff.mp h
        obtain ⟨cc, hc, rfl⟩ := Option.map_eq_some_iff.mp h
        have hm' := Bool.eq_false_iff.mpr hm
        refine .valT (fun ρ d hd => ?_) (fun _ ρ b hd => ?_) rfl
        · rw [evE] at hd
          obtain ⟨x, hx, hd⟩ := Option.bind_eq_some_iff.mp hd
          obtain ⟨y, hy, hd⟩ := Option.bind_eq_some_iff.mp hd
          exact j_chain c.hu ((ih _ _ _ ha X c).j ρ x hx) ((ih _ _ _ hb X c).j ρ y hy) (fun w hw => (ih _ _ _ hc X c).j ρ w hw) hd hm'
        · rw [evE] at hd
          obtain ⟨x, hx, hd⟩ := Option.bind_eq_some_iff.mp hd
          obtain ⟨y, hy, hd⟩ := Option.bind_eq_some_iff.mp hd
          exact jt_chain c.hu ((ih _ _ _ ha X c).j ρ x hx) ((ih _ _ _ hb X c).j ρ y hy) (fun w hw => (ih _ _ _ hc X c).j ρ w hw) hd hm'
    · -- one of a row of and, or
      obtain ⟨ca, ha, h⟩ := Option.bind_eq_some_iff.mp h
      split at h
      · cases h
      · rename_i hif
        cases h
        have hif' : isIfE ce = false := by simpa using hif
        have g := ih _ _ _ ha X c
        exact ⟨fun ρ d hd => j_one (g.j ρ d hd), fun _ ρ b hd => (jw_one (g.t hif' ρ b hd)).jt, fun _ ρ b hd => jw_one (g.t hif' ρ b hd)⟩
    · -- and
      obtain ⟨ca, ha, h⟩ := Option.bind_eq_some_iff.mp h
      split at h
      · cases h
      · rename_i hif
        obtain ⟨cr, hr, rfl⟩ := Option.map_eq_some_iff.mp h
        have hif' : isIfE ca = false := by simpa using hif
        have g := ih _ _ _ ha X c
        have g2 := ih _ _ _ hr X c
        have w : ∀ ρ b, evE ft gv (.and ca cr) ρ = some (.bool b) → JW X ρ _ b := fun ρ b hd => by
          rw [evE] at hd
          obtain ⟨x, hx, hd⟩ := Option.bind_eq_some_iff.mp hd
          obtain ⟨r, rfl, h1, h0⟩ := and_inv hd
          exact jw_and (g.t hif' ρ r hx) (fun z => g2.w rfl ρ b (h1 z)) (fun z => by have := h0 z; cases this; rfl)
        refine ⟨fun ρ d hd => ?_, fun _ ρ b hd => (w ρ b hd).jt, fun _ ρ b hd => w ρ b hd⟩
        rw [evE] at hd
        obtain ⟨x, hx, hd⟩ := Option.bind_eq_some_iff.mp hd
        obtain ⟨r, rfl, h1, h0⟩ := and_inv hd
        exact j_and (g.j ρ _ hx) (fun z => g2.j ρ d (h1 z)) h0
    · -- or
      obtain ⟨ca, ha, h⟩ := Option.bind_eq_some_iff.mp h
      split at h
      · cases h
      · rename_i hif
        obtain ⟨cr, hr, rfl⟩ := Option.map_eq_some_iff.mp h
        have hif' : isIfE ca = false := by simpa using hif
        have g := ih _ _ _ ha X c
        have g2 := ih _ _ _ hr X c
        have w : ∀ ρ b, evE ft gv (.or ca cr) ρ = some (.bool b) → JW X ρ _ b := fun ρ b hd => by
          rw [evE] at hd
          obtain ⟨x, hx, hd⟩ := Option.bind_eq_some_iff.mp hd
          obtain ⟨r, rfl, h1, h0⟩ := or_inv hd
          exact jw_or (g.t hif' ρ r hx) (fun z => g2.w rfl ρ b (h1 z)) (fun z => by have := h0 z; cases this; rfl)
        refine ⟨fun ρ d hd => ?_, fun _ ρ b hd => (w ρ b hd).jt, fun _ ρ b hd => w ρ b hd⟩
        rw [evE] at hd
        obtain ⟨x, hx, hd⟩ := Option.bind_eq_some_iff.mp hd
        obtain ⟨r, rfl, h1, h0⟩ := or_inv hd
        exact j_or (g.j ρ _ hx) (fun z => g2.j ρ d (h1 z)) h0
    · -- a if t else b
      obtain ⟨ct, ht, h⟩ := Option.bind_eq_some_iff.mp h
      split at h
      · cases h
      · rename_i hif
        obtain ⟨ca, ha, h⟩ := Option.bind_eq_some_iff.mp h
        obtain ⟨cb, hb, rfl⟩ := Option.map_eq_some_iff.mp h
        have hif' : isIfE ct = false := by simpa using hif
        refine .valT (fun ρ d hd => ?_) (fun z => by cases z) rfl
        rw [evE] at hd
        obtain ⟨x, hx, hd⟩ := Option.bind_eq_some_iff.mp hd
        obtain ⟨r, rfl, h1, h0⟩ := if_inv hd
        exact j_if ((ih _ _ _ ht X c).t hif' ρ r hx) (fun z => (ih _ _ _ ha X c).j ρ d (h1 z)) (fun z => (ih _ _ _ hb X c).j ρ d (h0 z))
    · -- a call of a name
      rename_i f p e es pos
      split at h
      · cases h
      · rename_i hg
        have hg1 : isGl sc f = true := by
          cases q : isGl sc f with
          | true => rfl
          | false => exact absurd (.inl q) hg
        have hdb : (f == ("__debug__" : Str)) = false := by simpa using fun z => hg (.inr (.inl z))
        have hnn : f ≠ "__name__" := fun z => hg (.inr (.inr z))
        split at h
        · rename_i hf
          subst hf
          split at h
          · rename_i t p2
            split at h
            · rename_i hgt
              obtain ⟨ty, hty, h⟩ := Option.bind_eq_some_iff.mp h
              obtain ⟨ca, ha, rfl⟩ := Option.map_eq_some_iff.mp h
              refine .plain (fun ρ d hd => ?_) rfl rfl
              rw [evE] at hd
              obtain ⟨x, hx, hd⟩ := Option.bind_eq_some_iff.mp hd
              obtain ⟨hnd, rfl⟩ := isi_inv hd
              have hj := (ih _ _ _ ha X c).j ρ x hx
              have hty2 : t ∈ bltNames := by
                unfold tyOf at hty
                repeat' split at hty
                all_goals first
                  | (rename_i e; subst e; decide +kernel)
                  | cases hty
              exact j_isi hj (c.gl hg1) (by rw [c.hmg]; exact hbn _ (by decide +kernel)) (c.gl hgt) (by rw [c.hmg]; exact hbn _ hty2) hty (star_of ha _ X.env) hnd
            · cases h
          · cases h
        · obtain ⟨cs, hcs, rfl⟩ := Option.map_eq_some_iff.mp h
          have hall := hcs
          obtain ⟨c1, hc1, h2⟩ := Option.bind_eq_some_iff.mp (show (compE N n sc e).bind (fun c => (mapC (compE N n sc) es).map (c :: ·)) = some cs from hcs)
          obtain ⟨cs', hcs', e1⟩ := Option.map_eq_some_iff.mp h2
          have hst := star_of hc1 es X.env
          have hpl := any_of (N := N) X.env pos hcs'
          refine .plain (fun ρ d hd => ?_) rfl rfl
          cases hb : biOf f (e :: es).length with
          | some b =>
            rw [hb] at hd
            have hd : (evA ft gv cs ρ).bind (biD b) = some d := by rw [← hd]; simp only [evE]
            obtain ⟨ds, hds, hd⟩ := Option.bind_eq_some_iff.mp hd
            exact j_bi c hbn (lst hall ρ ds hds) hb hd (c.gl hg1) hst hpl hdb hnn
          | none =>
            rw [hb] at hd
            have hd : (evA ft gv cs ρ).bind (ft f) = some d := by rw [← hd]; simp only [evE]
            obtain ⟨ds, hds, hd⟩ := Option.bind_eq_some_iff.mp hd
            exact j_own c hft (lst hall ρ ds hds) hd (c.gl hg1) hst hpl hdb
    · -- a method
      rename_i o m apos e pos
      split at h
      · cases h
      · rename_i hl
        have hline : (apos.endLine == pos.line) = true := by
          cases q : (apos.endLine == pos.line) with
          | true => rfl
          | false => exact absurd q hl
        split at h
        · rename_i hm
          subst hm
          obtain ⟨co, ho, h⟩ := Option.bind_eq_some_iff.mp h
          obtain ⟨ca, ha, rfl⟩ := Option.map_eq_some_iff.mp h
          refine .plain (fun ρ d hd => ?_) rfl rfl
          rw [evE] at hd
          obtain ⟨x, hx, hd⟩ := Option.bind_eq_some_iff.mp hd
          obtain ⟨y, hy, hd⟩ := Option.bind_eq_some_iff.mp hd
          exact j_split ((ih _ _ _ ho X c).j ρ x hx) ((ih _ _ _ ha X c).j ρ y hy) hd (star_of ha [] X.env) (base_of ho _ _ _) hline
        · split at h
          · rename_i hm
            subst hm
            obtain ⟨co, ho, h⟩ := Option.bind_eq_some_iff.mp h
            obtain ⟨ca, ha, rfl⟩ := Option.map_eq_some_iff.mp h
            refine .plain (fun ρ d hd => ?_) rfl rfl
            rw [evE] at hd
            obtain ⟨x, hx, hd⟩ := Option.bind_eq_some_iff.mp hd
            obtain ⟨y, hy, hd⟩ := Option.bind_eq_some_iff.mp hd
            exact j_join ((ih _ _ _ ho X c).j ρ x hx) ((ih _ _ _ ha X c).j ρ y hy) hd (star_of ha [] X.env) (base_of ho _ _ _) hline
          · cases h
    · -- a slice
      rename_i a lo hi p2 pos
      obtain ⟨ca, ha, h⟩ := Option.bind_eq_some_iff.mp h
      obtain ⟨cl, hl, h⟩ := Option.bind_eq_some_iff.mp h
      obtain ⟨ch, hh, rfl⟩ := Option.map_eq_some_iff.mp h
      refine .plain (fun ρ d hd => ?_) rfl rfl
      rw [evE] at hd
      obtain ⟨x, hx, hd⟩ := Option.bind_eq_some_iff.mp hd
      obtain ⟨l, hl2, hd⟩ := Option.bind_eq_some_iff.mp hd
      obtain ⟨u, hu2, hd⟩ := Option.bind_eq_some_iff.mp hd
      exact j_slc ((ih _ _ _ ha X c).j ρ x hx) (fun e he => by subst he; exact (ih _ _ _ hl X c).j ρ l hl2) (fun e he => by subst he; exact (ih _ _ _ hh X c).j ρ u hu2) hd
    · -- an item
      obtain ⟨ca, ha, h⟩ := Option.bind_eq_some_iff.mp h
      obtain ⟨cb, hb, rfl⟩ := Option.map_eq_some_iff.mp h
      refine .plain (fun ρ d hd => ?_) rfl rfl
      rw [evE] at hd
      obtain ⟨x, hx, hd⟩ := Option.bind_eq_some_iff.mp hd
      obtain ⟨y, hy, hd⟩ := Option.bind_eq_some_iff.mp hd
      exact j_idx ((ih _ _ _ ha X c).j ρ x hx) ((ih _ _ _ hb X c).j ρ y hy) hd (ix_of hb)
    · -- a tuple
      obtain ⟨cs, hcs, rfl⟩ := Option.map_eq_some_iff.mp h
      refine .plain (fun ρ d hd => ?_) rfl rfl
      rw [evE] at hd
      obtain ⟨ds, hds, hd⟩ := Option.bind_eq_some_iff.mp hd
      by_cases hz : ds.length ≤ 1000
      · rw [if_pos hz] at hd
        cases hd
        exact j_tup (lst hcs ρ ds hds) hz
      · rw [if_neg hz] at hd
        cases hd
    · -- a list
      obtain ⟨cs, hcs, rfl⟩ := Option.map_eq_some_iff.mp h
      refine .plain (fun ρ d hd => ?_) rfl rfl
      rw [evE] at hd
      obtain ⟨ds, hds, hd⟩ := Option.bind_eq_some_iff.mp hd
      by_cases hz : ds.length ≤ 1000
      · rw [if_pos hz] at hd
        cases hd
        exact j_lst (lst hcs ρ ds hds) hz
      · rw [if_neg hz] at hd
        cases hd
    · -- f'..'
      obtain ⟨cs, hcs, rfl⟩ := Option.map_eq_some_iff.mp h
      refine .plain (fun ρ d hd => ?_) rfl rfl
      rw [evE] at hd
      obtain ⟨ds, hds, hd⟩ := Option.bind_eq_some_iff.mp hd
      obtain ⟨out, ho, rfl⟩ := Option.map_eq_some_iff.mp hd
      exact j_fstr (fpart_ok (fun e ce he => (ih sc e ce he X c).j) hcs ρ ds hds) ho
    · -- a comprehension
      rename_i elt tg it ifs scope pos
      obtain ⟨⟨t, own⟩, htg, h⟩ := Option.bind_eq_some_iff.mp h
      simp only at h
      split at h
      · cases h
      · rename_i hbk
        have hbk' : blkC N sc scope own = true := by
          cases q : blkC N sc scope own with
          | true => rfl
          | false => exact absurd q hbk
        obtain ⟨ci, hi, h⟩ := Option.bind_eq_some_iff.mp h
        obtain ⟨cel, hel, h⟩ := Option.bind_eq_some_iff.mp h
        have hblk : ∀ {X'}, Blk X scope X' → Ctx G N k (relS scope sc) X' := fun {X'} ⟨s, H, C, cl, fp, e⟩ => by rw [e]; exact c.blk s H scope C cl fp
        have fin : ∀ (cc : CE) (hif : (ifs = [] ∧ cc = .lit (.bool true)) ∨ ∃ e, ifs = [e] ∧ compE N n (relS scope sc) e = some cc ∧ isIfE cc = false) ρ d, evE ft gv (.comp cel t ci cc) ρ = some d → J X ρ (.ListComp elt [⟨tg, it, ifs, 0⟩] scope pos) d := fun cc hif ρ d hd => by
          rw [evE] at hd
          obtain ⟨x, hx, hd⟩ := Option.bind_eq_some_iff.mp hd
          obtain ⟨items, hit, hd⟩ := Option.bind_eq_some_iff.mp hd
          by_cases hz : items.length ≤ lim
          · rw [if_pos hz] at hd
            obtain ⟨all, hall, rfl⟩ := Option.map_eq_some_iff.mp hd
            refine j_comp (cond := evE ft gv cc) (eltF := evE ft gv cel) ⟨c, htg, hbk', (ih _ _ _ hi X c).j ρ x hx, hit, hz, fold_of hi X.env, hall, ?_, fun X' hX ρ' d hd => (ih _ _ _ hel X' (hblk hX)).j ρ' d hd⟩
            rcases hif with ⟨rfl, rfl⟩ | ⟨e, rfl, he, hni⟩
            · exact .inl ⟨rfl, by funext ρ'; simp only [evE]⟩
            · exact .inr ⟨e, rfl, fun X' hX ρ' b hb => (ih _ _ _ he X' (hblk hX)).t hni ρ' b hb⟩
          · rw [if_neg hz] at hd
            cases hd
        split at h
        · cases h
          exact .plain (fin _ (.inl ⟨rfl, rfl⟩)) rfl rfl
        · obtain ⟨cc, hcc, h⟩ := Option.bind_eq_some_iff.mp h
          split at h
          · cases h
          · rename_i hni
            cases h
            exact .plain (fin _ (.inr ⟨_, rfl, hcc, by simpa using hni⟩)) rfl rfl
        · cases h
    · cases h
theorem comp_parts {sc : Scope} (c : Ctx G N k sc X) (hft : FtOk G k ft) (hgv : GvOk G gv) (hbn : BnOk G) {n : Nat} {elt : Expr} {gs : List Comprehension} {scope : Scope} {pos : Pos} (h : compE N n sc (.ListComp elt gs scope pos) = some ce) {ρ : Rho} {d : PyData} (hd : evE ft gv ce ρ = some d) :
    ∃ (tg it : Expr) (ifs : List Expr), gs = [⟨tg, it, ifs, 0⟩] ∧ ∃ (t : Tg) (own : List (Str × Nat)) (dI : PyData) (items all : List PyData) (cond eltF : Rho → Option PyData), CompOk G N k sc X ρ elt tg it ifs scope t own dI items all cond eltF ∧ d = .list all := by
  cases n with
  | zero => cases h
  | succ n =>
    have IH := snd (N := N) (ft := ft) (gv := gv) hft hgv hbn n
    change compS N (compE N n) sc (.ListComp elt gs scope pos) = some ce at h
    unfold compS at h
    split at h
    all_goals first
      | (rename_i he; cases he; done)
      | (cases h; done)
      | skip
    rename_i tg it ifs _ _ he
    cases he
    obtain ⟨⟨t, own⟩, htg, h⟩ := Option.bind_eq_some_iff.mp h
    simp only at h
    split at h
    · cases h
    · rename_i hbk
      have hbk' : blkC N sc scope own = true := by
        cases q : blkC N sc scope own with
        | true => rfl
        | false => exact absurd q hbk
      obtain ⟨ci, hi, h⟩ := Option.bind_eq_some_iff.mp h
      obtain ⟨cel, hel, h⟩ := Option.bind_eq_some_iff.mp h
      have hblk : ∀ {X'}, Blk X scope X' → Ctx G N k (relS scope sc) X' := fun {X'} ⟨s, H, C, cl, fp, e⟩ => by rw [e]; exact c.blk s H scope C cl fp
      have fin : ∀ (cc : CE) (hif : (ifs = [] ∧ cc = .lit (.bool true)) ∨ ∃ e, ifs = [e] ∧ compE N n (relS scope sc) e = some cc ∧ isIfE cc = false), evE ft gv (.comp cel t ci cc) ρ = some d →
          ∃ (tg' it' : Expr) (ifs' : List Expr), ([⟨tg, it, ifs, 0⟩] : List Comprehension) = [⟨tg', it', ifs', 0⟩] ∧ ∃ (t : Tg) (own : List (Str × Nat)) (dI : PyData) (items all : List PyData) (cond eltF : Rho → Option PyData), CompOk G N k sc X ρ elt tg' it' ifs' scope t own dI items all cond eltF ∧ d = .list all := fun cc hif hd => by
        rw [evE] at hd
        obtain ⟨x, hx, hd⟩ := Option.bind_eq_some_iff.mp hd
        obtain ⟨items, hit, hd⟩ := Option.bind_eq_some_iff.mp hd
        by_cases hz : items.length ≤ lim
        · rw [if_pos hz] at hd
          obtain ⟨all, hall, rfl⟩ := Option.map_eq_some_iff.mp hd
          refine ⟨tg, it, ifs, rfl, t, own, x, items, all, evE ft gv cc, evE ft gv cel, ⟨c, htg, hbk', (IH _ _ _ hi X c).j ρ x hx, hit, hz, fold_of hi X.env, hall, ?_, fun X' hX ρ' d hd => (IH _ _ _ hel X' (hblk hX)).j ρ' d hd⟩, rfl⟩
          rcases hif with ⟨rfl, rfl⟩ | ⟨e, rfl, he, hni⟩
          · exact .inl ⟨rfl, by funext ρ'; simp only [evE]⟩
          · exact .inr ⟨e, rfl, fun X' hX ρ' b hb => (IH _ _ _ he X' (hblk hX)).t hni ρ' b hb⟩
        · rw [if_neg hz] at hd
          cases hd
      split at h
      · cases h
        exact fin _ (.inl ⟨rfl, rfl⟩) hd
      · obtain ⟨cc, hcc, h⟩ := Option.bind_eq_some_iff.mp h
        split at h
        · cases h
        · rename_i hni
          cases h
          exact fin _ (.inr ⟨_, rfl, hcc, by simpa using hni⟩) hd
      · cases h
end
end JL
/-! JSt: statements, blocks, defs. -/
namespace JL
open PySem PySem.Spec PyProof.Rows L2

inductive CS where
  | set (i : Nat) (e : CE)
  | par (i j : Nat) (a b : CE)
  | unp (t : Tg) (e : CE)
  | iff (t : CE) (a b : List CS)
  | for_ (t : Tg) (it : CE) (body : List CS)
  | whl (t : CE) (body : List CS)
  | ret (e : CE)
  | drop (e : CE)
  | rais

def forL (bind : Rho → PyData → Option Rho) (body : Rho → Option Out) : List PyData → Rho → Option Out
  | [], ρ => some (.nx ρ)
  | x :: r, ρ => (bind ρ x).bind fun ρ1 => (body ρ1).bind fun o => match o with
    | .nx ρ2 => forL bind body r ρ2
    | .ct ρ2 => forL bind body r ρ2
    | .bk ρ2 => some (.nx ρ2)
    | .rt d => some (.rt d)
def whileL (test : Rho → Option PyData) (body : Rho → Option Out) : Nat → Rho → Option Out
  | 0, _ => none
  | n + 1, ρ => (test ρ).bind fun c => match c with
    | .bool true => (body ρ).bind fun o => match o with
      | .nx ρ2 => whileL test body n ρ2
      | .ct ρ2 => whileL test body n ρ2
      | .bk ρ2 => some (.nx ρ2)
      | .rt d => some (.rt d)
    | .bool false => some (.nx ρ)
    | _ => none
def ifO (t : PyData) (a b : Option Out) : Option Out :=
  match t with
  | .bool true => a
  | .bool false => b
  | _ => none
def seqO (a : Option Out) (k : Rho → Option Out) : Option Out :=
  a.bind fun o => match o with
    | .nx ρ => k ρ
    | o => some o
section
variable (ft : Str → List PyData → Option PyData) (gv : Str → Option PyData) (W : Nat)
mutual
def evS : CS → Rho → Option Out
  | .set i e, ρ => (evE ft gv e ρ).map fun d => .nx (ρ.set i (some d))
  | .par i j a b, ρ => (evE ft gv a ρ).bind fun x => (evE ft gv b ρ).map fun y => .nx ((ρ.set i (some x)).set j (some y))
  | .unp t e, ρ => (evE ft gv e ρ).bind fun d => (t.bind ρ d).map .nx
  | .iff t a b, ρ => (evE ft gv t ρ).bind fun c => ifO c (evB a ρ) (evB b ρ)
  | .for_ t it body, ρ => (evE ft gv it ρ).bind fun d => (iterD d).bind fun items => forL t.bind (evB body) items ρ
  | .whl t body, ρ => whileL (evE ft gv t) (evB body) W ρ
  | .ret e, ρ => (evE ft gv e ρ).map .rt
  | .drop e, ρ => (evE ft gv e ρ).map fun _ => .nx ρ
  | .rais, _ => none
def evB : List CS → Rho → Option Out
  | [], ρ => some (.nx ρ)
  | s :: r, ρ => seqO (evS s ρ) (evB r)
end
end

def isComp : Expr → Bool
  | .ListComp _ _ _ _ => true
  | .SetComp _ _ _ _ => true
  | .DictComp _ _ _ _ _ => true
  | _ => false
def isTupE : Expr → Bool
  | .Tuple _ _ _ => true
  | _ => false
section
variable (N : List Str)
def stS (rec : List Stmt → Option (List CS)) (sc : Scope) : Stmt → Option CS
  | .Assign [.Name x px] e _ =>
    if isComp e then
      (match e with
      | .ListComp elt gs scope pe => if isLoc sc x && (px.line == pe.line) && !(scope.names.any fun (n, k) => n == x && (k == .local || k == .cell)) then
          (slotOf N x).bind fun i => (compE N 40 sc (.ListComp elt gs scope pe)).map fun c => .set i c else none
      | _ => none)
    else if isLC sc x then (slotOf N x).bind fun i => (compE N 40 sc e).map fun c => .set i c else none
  | .Assign [.Tuple [.Name x px, .Name y py] _ _] (.Tuple [a, b] _ _) _ =>
    if isLoc sc x && isLoc sc y && decide (x ≠ y) && (py.line == px.line) && !(foldedForSure 8 a && foldedForSure 8 b) && !(constantsAlone 8 a && constantsAlone 8 b) then
      (slotOf N x).bind fun i => (slotOf N y).bind fun j => if i ≠ j then (compE N 40 sc a).bind fun ca => (compE N 40 sc b).map fun cb => .par i j ca cb else none
    else none
  | .Assign [.Tuple [.Name x px, .Name y py] k pt] e _ => if isComp e || isTupE e then none else
    (compTg N sc (.Tuple [.Name x px, .Name y py] k pt)).bind fun (t, _) => (compE N 40 sc e).map fun c => .unp t c
  | .If t a b _ => (compE N 40 sc t).bind fun ct => if isIfE ct then none else (rec a).bind fun ca => (rec b).map fun cb => .iff ct ca cb
  | .For tg it body [] _ => (compTg N sc tg).bind fun (t, _) => (compE N 40 sc it).bind fun ci => (rec body).map fun cb => .for_ t ci cb
  | .While t body [] _ => (compE N 40 sc t).bind fun ct => if isIfE ct then none else (rec body).map fun cb => .whl ct cb
  | .Return (some e) _ => (compE N 40 sc e).map .ret
  | .Expr e _ => if isComp e then none else (compE N 40 sc e).map .drop
  | .Raise _ _ _ => some .rais
  | _ => none
def compB : Nat → Scope → List Stmt → Option (List CS)
  | 0, _, _ => none
  | _ + 1, _, [] => some []
  | n + 1, sc, s :: r => (stS N (compB n sc) sc s).bind fun c => (compB n sc r).map (c :: ·)
end

section
variable {G : Gb} {N : List Str} {k : Nat} {sc : Scope} {X : Cx} {ρ ρ' : Rho} {a b c e t : Expr} {d : PyData} {pos : Pos} {st : Stmt} {rest body : List Stmt} {o : Out}
theorem jb_nil : JB X ρ [] (.nx ρ) := JB.of pss_nil fun σ H E D q => q σ H (Same.refl H) E
theorem jb_cons (h : JS X ρ st (.nx ρ')) (h2 : JB X ρ' rest o) : JB X ρ (st :: rest) o :=
  JB.of (pss_cons pws pwb) fun σ H E D q => h σ H E _ fun σ' H2 s2 E2 => h2 σ' H2 E2 D (q.mono s2)
theorem jb_rt (h : JS X ρ st (.rt d)) : JB X ρ (st :: rest) (.rt d) :=
  JB.of (pss_cons pws pwb) fun σ H E D q => h σ H E _ q
theorem jb_bk (h : JS X ρ st (.bk ρ')) : JB X ρ (st :: rest) (.bk ρ') :=
  JB.of (pss_cons pws pwb) fun σ H E D q => h σ H E _ q
theorem jb_ct (h : JS X ρ st (.ct ρ')) : JB X ρ (st :: rest) (.ct ρ') :=
  JB.of (pss_cons pws pwb) fun σ H E D q => h σ H E _ q
theorem js_ret (h : J X ρ e d) : JS X ρ (.Return (some e) pos) (.rt d) := JS.of (ps_ret pwe) fun σ H E D q => h σ H E _ q
theorem js_set {i : Nat} {x : Str} {pos' : Pos} (h : J X ρ e d) (hN : X.N.Nodup) (hi : X.N[i]? = some x) (hx : Loc X.env.scope x) (hfn : X.fn x = true) (hs : swapsWith e (some (.Name x pos')) pos.line X.env = pure false) : JS X ρ (.Assign [.Name x pos'] e pos) (.nx (ρ.set i (some d))) :=
  JS.of (ps_set hN hi hx pwe hs (.inl hfn)) fun σ H E D q => h σ H E _ fun v H2 s2 h2 => q _ H2 s2 ((E.mono s2).set i h2)
theorem js_drop (h : J X ρ e d) (hs : swapsWith e none pos.line X.env = pure false) : JS X ρ (.Expr e pos) (.nx ρ) :=
  JS.of (ps_expr pwe hs) fun σ H E D q => h σ H E _ fun v H2 s2 _ => q σ H2 s2 (E.mono s2)
theorem js_if {r : Bool} (ht : JT X ρ t r) {x y : List Stmt} (h1 : r = true → JB X ρ x o) (h0 : r = false → JB X ρ y o) : JS X ρ (.If t x y pos) o :=
  JS.of (ps_if pwt pwb pwb) fun σ H E D q => ht σ H E _ fun H2 s2 => by
    cases r with
    | true => exact iteT (h1 rfl σ H2 (E.mono s2) D (q.mono s2))
    | false => exact iteF (h0 rfl σ H2 (E.mono s2) D (q.mono s2))
theorem tg_bind {K : PySem.W.Frag} {H : Hp} {σ : L2.St} {ρ ρ' : Rho} {tg : Tg} {x : V} {d : PyData} (E : EnvD K H σ ρ) (hx : Dp K H x d) (hb : tg.bind ρ d = some ρ') (Q : L2.St → Hp → Prop)
    (q : ∀ σ2, EnvD K H σ2 ρ' → Q σ2 H) : tg.g K x σ H Q := by
  cases tg with
  | one i =>
    cases hb
    exact q _ (E.set i hx)
  | two i j =>
    cases hx with
    | tup hs ha =>
      rename_i a xs ds
      cases ds with
      | nil => cases hb
      | cons d1 r =>
        cases r with
        | nil => cases hb
        | cons d2 r =>
          cases r with
          | cons _ _ => cases hb
          | nil =>
            cases hb
            obtain ⟨v, w, rfl, h1, h2⟩ := dpa2 ha
            exact ⟨a, _, rfl, hs, rfl, v, [w], rfl, w, [], rfl, rfl, q _ ((E.set i h1).set j h2)⟩
    | _ => cases hb
theorem js_unp (c : Ctx G N k sc X) {tg : Expr} {t : Tg} {own : List (Str × Nat)} (ht : compTg N sc tg = some (t, own)) (h : J X ρ e d) (hb : t.bind ρ d = some ρ') (hs : swapsWithSole [tg] e pos.line X.env = pure false) (hw : swappedStores [tg] e X.env = pure none) (h1 : (assignEach [tg] X.env).map (·.2) = [assign tg X.env]) :
    JS X ρ (.Assign [tg] e pos) (.nx ρ') :=
  JS.of (ps_asg pwe (tg_pg c ht) hs hw h1) fun σ H E D q => h σ H E _ fun v H2 s2 h2 => tg_bind (E.mono s2) h2 hb _ fun σ2 E2 => q σ2 H2 s2 E2
theorem js_par {i j : Nat} {x y : Str} {px py pt : Pos} {kt k2 pt2} {da db : PyData} (hc : X.calm = true) (hN : X.N.Nodup) (hi : X.N[i]? = some x) (hj : X.N[j]? = some y) (hij : i ≠ j) (hx : X.env.scope.names.lookup x = some .local) (hy : X.env.scope.names.lookup y = some .local)
    (ha : JA X ρ [a, b] [da, db]) (hw : swappedStores [.Tuple [.Name x px, .Name y py] kt pt] (.Tuple [a, b] k2 pt2) X.env = pure (some [x, y])) :
    JS X ρ (.Assign [.Tuple [.Name x px, .Name y py] kt pt] (.Tuple [a, b] k2 pt2) pos) (.nx ((ρ.set i (some da)).set j (some db))) :=
  JS.of (ps_par hc hN hi hj hij hx hy pwa hw) fun σ H E D q => ha σ H E _ fun vs H2 s2 h2 => by
    obtain ⟨v, w, rfl, h3, h4⟩ := dpa2 h2
    exact ⟨v, w, rfl, q _ H2 s2 (((E.mono s2).set i h3).set j h4)⟩
theorem js_while (hp : PassesOwn (model X.prog X.w) X.A X.env X.xe) {test : Rho → Option PyData} {bodyF : Rho → Option Out} {n : Nat} (ht : ∀ ρ r, test ρ = some (.bool r) → JT X ρ t r) (hb : ∀ ρ o, bodyF ρ = some o → JB X ρ body o)
    (h : whileL test bodyF n ρ = some o) : JS X ρ (.While t body [] pos) o := by
  refine JS.of (ps_while hp pwt pwb) fun σ H E D q => ?_
  refine ⟨fun m σ' H' => Same H H' ∧ ∃ ρ', EnvD X.K H' σ' ρ' ∧ whileL test bodyF m ρ' = some o, ⟨n, Same.refl H, ρ, E, h⟩, fun m σ' H' ⟨s1, ρ', E1, h1⟩ => ?_⟩
  cases m with
  | zero => cases h1
  | succ m =>
    obtain ⟨c, hc, h2⟩ := Option.bind_eq_some_iff.mp (show (test ρ').bind _ = some o from h1)
    cases c with
    | bool r =>
      refine ht ρ' r hc σ' H' E1 _ fun H2 s2 => ?_
      cases r with
      | false =>
        cases h2
        exact iteF (q σ' H2 (s1.trans s2) (E1.mono s2))
      | true =>
        refine iteT ?_
        obtain ⟨ob, hob, h3⟩ := Option.bind_eq_some_iff.mp (show (bodyF ρ').bind _ = some o from h2)
        refine ⟨fun σ3 H3 => Same H H3 ∧ ∃ ρ3, EnvD X.K H3 σ3 ρ3 ∧ whileL test bodyF m ρ3 = some o, fun σ3 H3 w => ⟨m, Nat.lt_succ_self m, w⟩, hb ρ' ob hob σ' H2 (E1.mono s2) _ ?_⟩
        cases ob with
        | nx ρ2 => exact fun σ3 H3 s3 E3 => ⟨(s1.trans s2).trans s3, ρ2, E3, h3⟩
        | ct ρ2 => exact fun σ3 H3 s3 E3 => ⟨(s1.trans s2).trans s3, ρ2, E3, h3⟩
        | bk ρ2 =>
          cases h3
          exact fun σ3 H3 s3 E3 => q σ3 H3 ((s1.trans s2).trans s3) E3
        | rt d =>
          cases h3
          exact fun v H3 s3 h4 => q v H3 ((s1.trans s2).trans s3) h4
    | _ => cases h2
/-- a for's turns by place -/
theorem for_walk {K : PySem.W.Frag} {tg : Tg} {bodyF : Rho → Option Out} {items : List PyData} {tb : TS} {H1 : Hp} {D : Ends} (q : o.Ok K H1 D) (hb : ∀ ρ o, bodyF ρ = some o → ∀ σ H, EnvD K H σ ρ → ∀ D : Ends, o.Ok K H D → tb D σ H) (i : Nat) (x : V) (d : PyData) (σ : L2.St) (H : Hp)
    (hx : Dp K H x d) (hi : items[i]? = some d) (s1 : Same H1 H) {ρ : Rho} (E : EnvD K H σ ρ) (h : forL tg.bind bodyF (items.drop i) ρ = some o) :
    tg.g K x σ H fun σ2 H2 => tb { D with nx := fun σ H => Same H1 H ∧ ∃ ρ', EnvD K H σ ρ' ∧ forL tg.bind bodyF (items.drop (i + 1)) ρ' = some o, ct := fun σ H => Same H1 H ∧ ∃ ρ', EnvD K H σ ρ' ∧ forL tg.bind bodyF (items.drop (i + 1)) ρ' = some o, bk := D.nx } σ2 H2 := by
  have hil : i < items.length := (List.getElem?_eq_some_iff.mp hi).1
  have hdrop : items.drop i = d :: items.drop (i + 1) := by
    rw [List.drop_eq_getElem_cons hil]
    have e2 : items[i] = d := Option.some.inj ((List.getElem?_eq_getElem hil).symm.trans hi)
    rw [e2]
  rw [hdrop] at h
  obtain ⟨ρ1, h1, h2⟩ := Option.bind_eq_some_iff.mp (show (tg.bind ρ d).bind _ = some o from h)
  obtain ⟨ob, hob, h3⟩ := Option.bind_eq_some_iff.mp (show (bodyF ρ1).bind _ = some o from h2)
  refine tg_bind E hx h1 _ fun σ2 E2 => hb ρ1 ob hob σ2 H E2 _ ?_
  cases ob with
  | nx ρ2 => exact fun σ3 H3 s3 E3 => ⟨s1.trans s3, ρ2, E3, h3⟩
  | ct ρ2 => exact fun σ3 H3 s3 E3 => ⟨s1.trans s3, ρ2, E3, h3⟩
  | bk ρ2 =>
    cases h3
    exact fun σ3 H3 s3 E3 => q σ3 H3 (s1.trans s3) E3
  | rt d =>
    cases h3
    exact fun v H3 s3 h4 => q v H3 (s1.trans s3) h4
theorem js_for (c : Ctx G N k sc X) {tg it : Expr} {t : Tg} {own : List (Str × Nat)} (ht : compTg N sc tg = some (t, own)) {dI : PyData} {items : List PyData} {bodyF : Rho → Option Out} (hI : J X ρ it dI) (hit : iterD dI = some items) (hfold : ∀ x, foldedSetIterable it X.env x = pure x)
    (hb : ∀ ρ o, bodyF ρ = some o → JB X ρ body o) (h : forL t.bind bodyF items ρ = some o) : JS X ρ (.For tg it body [] pos) o := by
  have hb2 : ∀ ρ o, bodyF ρ = some o → ∀ σ H, EnvD X.K H σ ρ → ∀ D : Ends, o.Ok X.K H D → WB X body D σ H := hb
  cases dI with
  | list ds =>
    cases hit
    refine JS.of (ps_for c.pass c.calm (pi_list pwe) (tg_pg c ht) pwb hfold) fun σ H E D q => hI σ H E _ fun x H1 s1 h1 => ?_
    cases h1 with
    | lst hl ha =>
      have hl0 := dpa_len ha
      refine ⟨_, rfl, ⟨_, hl⟩, for_list (g := t.g X.K) (tb := WB X body) (D := D) (fun i σ H => Same H1 H ∧ ∃ ρ', EnvD X.K H σ ρ' ∧ forL t.bind bodyF (items.drop i) ρ' = some o) ⟨Same.refl H1, ρ, E.mono s1, h⟩ (fun i σ' H' _ w => w.1.seq hl) (fun i x σ' H' hx ⟨s2, ρ', E2, h2⟩ => ?_) (fun σ' H' ⟨s2, ρ', E2, h2⟩ => ?_)⟩
      · obtain ⟨d, hd, hxd⟩ := dpa_at ha hx
        exact for_walk (q.mono s1) hb2 i x d σ' H' (dp_mono s2 hxd) hd s2 E2 h2
      · rw [hl0, List.drop_length] at h2
        cases h2
        exact q σ' H' (s1.trans s2) E2
  | tuple ds =>
    cases hit
    refine JS.of (ps_for c.pass c.calm (pi_tup pwe) (tg_pg c ht) pwb hfold) fun σ H E D q => hI σ H E _ fun x H1 s1 h1 => ?_
    cases h1 with
    | tup hl ha =>
      have hl0 := dpa_len ha
      refine ⟨_, rfl, ⟨_, hl⟩, for_tup (g := t.g X.K) (tb := WB X body) (D := D) (fun i σ H => Same H1 H ∧ ∃ ρ', EnvD X.K H σ ρ' ∧ forL t.bind bodyF (items.drop i) ρ' = some o) ⟨Same.refl H1, ρ, E.mono s1, h⟩ (fun i σ' H' _ w => sqT_mono w.1 hl) (fun i x σ' H' hx ⟨s2, ρ', E2, h2⟩ => ?_) (fun σ' H' ⟨s2, ρ', E2, h2⟩ => ?_)⟩
      · obtain ⟨d, hd, hxd⟩ := dpa_at ha hx
        exact for_walk (q.mono s1) hb2 i x d σ' H' (dp_mono s2 hxd) hd s2 E2 h2
      · rw [hl0, List.drop_length] at h2
        cases h2
        exact q σ' H' (s1.trans s2) E2
  | str s =>
    cases hit
    refine JS.of (ps_for c.pass c.calm (pi_str pwe) (tg_pg c ht) pwb hfold) fun σ H E D q => hI σ H E _ fun x H1 s1 h1 => ?_
    cases h1
    have hl0 : (signsD s).length = s.cps.size := by unfold signsD; rw [List.length_map, Array.length_toList]
    refine ⟨_, rfl, fun i m σ H => m = s.cps.size - i ∧ i ≤ s.cps.size ∧ Same H1 H ∧ ∃ ρ', EnvD X.K H σ ρ' ∧ forL t.bind bodyF ((signsD s).drop i) ρ' = some o, ⟨s.cps.size, by simp, Nat.zero_le _, Same.refl H1, ρ, E.mono s1, h⟩, ?_⟩
    rintro i m σ' H' ⟨rfl, hi, s2, ρ', E2, h2⟩
    by_cases hlt : i < s.cps.size
    · refine .inr ⟨hlt, (fun σ H => Same H1 H ∧ ∃ ρ', EnvD X.K H σ ρ' ∧ forL t.bind bodyF ((signsD s).drop (i + 1)) ρ' = some o), fun σ'' H'' p' => ⟨s.cps.size - (i + 1), by omega, rfl, hlt, p'⟩, fun x H'' y => ?_⟩
      obtain ⟨e, ch, hch, e2⟩ := y
      subst e e2
      refine for_walk (q.mono s1) hb2 i _ (.str ⟨#[ch]⟩) σ' _ (.str _) ?_ s2 E2 h2
      unfold signsD
      rw [List.getElem?_map, Array.getElem?_toList, hch]
      rfl
    · have e : i = s.cps.size := by omega
      subst e
      rw [← hl0, List.drop_length] at h2
      cases h2
      exact .inl ⟨Nat.le_refl _, q σ' H' (s1.trans s2) E2⟩
  | _ => cases hit
end
end JL
/-! JDef: blocks that are taken, defs. -/
namespace JL
open PySem PySem.Spec PyProof.Rows L2
section
variable {G : Gb} {N : List Str} {k : Nat} {sc : Scope} {X : Cx} {W : Nat} {ft : Str → List PyData → Option PyData} {gv : Str → Option PyData}
theorem seq_inv {a : Option Out} {k : Rho → Option Out} {o : Out} (h : seqO a k = some o) : (∃ ρ, a = some (.nx ρ) ∧ k ρ = some o) ∨ (a = some o ∧ ∀ ρ, o ≠ .nx ρ) := by
  obtain ⟨x, hx, h2⟩ := Option.bind_eq_some_iff.mp h
  cases x with
  | nx ρ => exact .inl ⟨ρ, hx, h2⟩
  | rt d => cases h2; exact .inr ⟨hx, fun ρ z => by cases z⟩
  | bk ρ => cases h2; exact .inr ⟨hx, fun ρ z => by cases z⟩
  | ct ρ => cases h2; exact .inr ⟨hx, fun ρ z => by cases z⟩
theorem ifO_inv {t : PyData} {a b : Option Out} {o : Out} (h : ifO t a b = some o) : ∃ r, t = .bool r ∧ (r = true → a = some o) ∧ (r = false → b = some o) := by
  unfold ifO at h
  split at h
  · exact ⟨true, rfl, fun _ => h, fun z => by cases z⟩
  · exact ⟨false, rfl, fun z => (by cases z), fun _ => h⟩
  · cases h
theorem swaps_no {e : Expr} (h : isComp e = false) (t : Option Expr) (l : Nat) (env : Env) : swapsWith e t l env = pure false := by
  cases e <;> first | rfl | cases h
theorem swapped_two {x y : Str} {px py pt : Pos} {kt k2 : Nat} {pt2 : Pos} {a b : Expr} {env : Env} (hk : env.scope.kind = .function) (hx : env.scope.names.lookup x = some .local) (hy : env.scope.names.lookup y = some .local) (hne : x ≠ y) (hl : (py.line == px.line) = true)
    (h1 : (foldedForSure 8 a && foldedForSure 8 b) = false) (h2 : (constantsAlone 8 a && constantsAlone 8 b) = false) (ha : ∀ e p, a ≠ .Starred e p) (hb : ∀ e p, b ≠ .Starred e p) :
    swappedStores [.Tuple [.Name x px, .Name y py] kt pt] (.Tuple [a, b] k2 pt2) env = pure (some [x, y]) := by
  have kx : env.kindOf x = some .local := hx
  have ky : env.kindOf y = some .local := hy
  have bk : env.blockKind = .function := by unfold Env.blockKind; rw [hk]; rfl
  have s1 : (match a with | .Starred .. => true | _ => false) = false := by cases a <;> first | rfl | exact absurd rfl (ha _ _)
  have s2 : (match b with | .Starred .. => true | _ => false) = false := by cases b <;> first | rfl | exact absurd rfl (hb _ _)
  have hxy : (x == y) = false := by simpa using hne
  have hyx : (y == x) = false := by simpa using fun z => hne z.symm
  have hp : (px.line == px.line) = true := by simp
  unfold swappedStores
  simp only [bk, kx, ky, List.any_cons, List.any_nil, s1, s2, List.all_cons, List.all_nil, Bool.and_true, h1, h2, List.head?_cons, Option.map_some, Option.getD_some, Expr.pos, List.filterMap_cons, List.filterMap_nil, hl, hp, List.length_cons, List.length_nil]
  simp [List.eraseDups_cons, hyx, hxy, hne, hne.symm]
/-- x = [..] on one line -/
theorem js_setC (c : Ctx G N k sc X) {i : Nat} {x : Str} {px spos pe : Pos} {elt : Expr} {gs : List Comprehension} {scope : Scope} {ce : CE} {ρ : Rho} {d : PyData} (nd : X.N.Nodup) (hi : X.N[i]? = some x) (hx : X.env.scope.names.lookup x = some .local)
    (hsw : ∀ {l : Nat}, True → True) (hsw2 : swapsWith (.ListComp elt gs scope pe) (some (.Name x px)) spos.line X.env = pure true) (hft : FtOk G k ft) (hgv : GvOk G gv) (hbn : BnOk G) (h : compE N 40 sc (.ListComp elt gs scope pe) = some ce) (hd : evE ft gv ce ρ = some d) :
    JS X ρ (.Assign [.Name x px] (.ListComp elt gs scope pe) spos) (.nx (ρ.set i (some d))) := by
  obtain ⟨tg, it, ifs, hgs, t, own, dI, items, all, cond, eltF, o, rfl⟩ := comp_parts c hft hgv hbn h hd
  subst hgs
  obtain ⟨wi, tt, te, hi', bo, hg, ht, he, q⟩ := o.parts
  exact JS.of (ps_setLc c.calm nd hi hx hsw2 hi' bo hg ht he o.fold) fun σ H E D k => q σ H E _ fun v H2 s2 h2 => k _ H2 s2 ((E.mono s2).set i h2)
theorem snd_st (hft : FtOk G k ft) (hgv : GvOk G gv) (hbn : BnOk G) (hkind : sc.kind = .function) (hfn : ∀ x, X.fn x = true) {rec : List Stmt → Option (List CS)} (hrec : ∀ sts cs, rec sts = some cs → ∀ X, Ctx G N k sc X → (∀ x, X.fn x = true) → ∀ ρ o, evB ft gv W cs ρ = some o → JB X ρ sts o)
    {st : Stmt} {cs : CS} (h : stS N rec sc st = some cs) (c : Ctx G N k sc X) (ρ : Rho) (o : Out) (hv : evS ft gv W cs ρ = some o) : JS X ρ st o := by
  have E := fun (e : Expr) (ce : CE) (h : compE N 40 sc e = some ce) => snd (ft := ft) (gv := gv) hft hgv hbn 40 sc e ce h X c
  have nd : X.N.Nodup := by rw [c.hN]; exact c.nd
  have sl : ∀ {x i}, slotOf N x = some i → X.N[i]? = some x := fun {x i} h => by rw [c.hN]; exact slotOf_get h
  have loc : ∀ {x}, isLoc sc x = true → X.env.scope.names.lookup x = some .local := fun {x} h => by rw [c.hs]; exact loc_of h
  have hfk : X.env.scope.kind = .function := by rw [c.hs]; exact hkind
  unfold stS at h
  split at h
  · -- x = e
    rename_i x px e pos
    cases hc : isComp e with
    | true =>
      rw [hc, if_pos rfl] at h
      split at h
      · rename_i elt gs scope pe
        split at h
        · rename_i hl
          obtain ⟨i, hi, h⟩ := Option.bind_eq_some_iff.mp h
          obtain ⟨ce, hce, rfl⟩ := Option.map_eq_some_iff.mp h
          rw [evS] at hv
          obtain ⟨d, hd, rfl⟩ := Option.map_eq_some_iff.mp hv
          simp only [Bool.and_eq_true, Bool.not_eq_true'] at hl
          obtain ⟨⟨hl1, hl2⟩, hl3⟩ := hl
          exact js_setC c nd (sl hi) (loc hl1) (fun _ => trivial) (sw_true hfk (loc hl1) hl2 hl3) hft hgv hbn hce hd
        · cases h
      · cases h
    | false =>
      rw [hc, if_neg (by decide)] at h
      split at h
      · rename_i hl
        obtain ⟨i, hi, h⟩ := Option.bind_eq_some_iff.mp h
        obtain ⟨ce, hce, rfl⟩ := Option.map_eq_some_iff.mp h
        rw [evS] at hv
        obtain ⟨d, hd, rfl⟩ := Option.map_eq_some_iff.mp hv
        exact js_set ((E e ce hce).j ρ d hd) nd (sl hi) (by rw [c.hs]; exact lc_of hl) (hfn x) (swaps_no hc _ _ _)
      · cases h
  · -- a, b = e1, e2
    rename_i x px y py kt pt a b k2 pt2 pos
    split at h
    · rename_i hl
      simp only [Bool.and_eq_true, Bool.not_eq_true', decide_eq_true_eq] at hl
      obtain ⟨⟨⟨⟨⟨hx, hy⟩, hne⟩, hline⟩, hf1⟩, hf2⟩ := hl
      obtain ⟨i, hi, h⟩ := Option.bind_eq_some_iff.mp h
      obtain ⟨j, hj, h⟩ := Option.bind_eq_some_iff.mp h
      by_cases hij : i ≠ j
      · rw [if_pos hij] at h
        obtain ⟨ca, ha, h⟩ := Option.bind_eq_some_iff.mp h
        obtain ⟨cb, hb, rfl⟩ := Option.map_eq_some_iff.mp h
        rw [evS] at hv
        obtain ⟨da, hda, hv⟩ := Option.bind_eq_some_iff.mp hv
        obtain ⟨db, hdb, rfl⟩ := Option.map_eq_some_iff.mp hv
        refine js_par c.calm nd (sl hi) (sl hj) hij (loc hx) (loc hy) (ja_cons ((E a ca ha).j ρ da hda) (ja_cons ((E b cb hb).j ρ db hdb) ja_nil (star_of hb _ _)) (star_of ha _ _)) (swapped_two hfk (loc hx) (loc hy) hne hline hf1 hf2 (fun e p z => ?_) (fun e p z => ?_))
        · subst z
          simp [compE, compS] at ha
        · subst z
          simp [compE, compS] at hb
      · rw [if_neg hij] at h
        cases h
    · cases h
  · -- a, b = a tuple
    rename_i x px y py kt pt e pos _
    split at h
    · cases h
    · rename_i hc
      obtain ⟨⟨t, own⟩, ht, h⟩ := Option.bind_eq_some_iff.mp h
      obtain ⟨ce, hce, rfl⟩ := Option.map_eq_some_iff.mp h
      rw [evS] at hv
      obtain ⟨d, hd, hv⟩ := Option.bind_eq_some_iff.mp hv
      obtain ⟨ρ', hb, rfl⟩ := Option.map_eq_some_iff.mp hv
      have hc' : isComp e = false ∧ isTupE e = false := by simpa [Bool.or_eq_true, not_or] using hc
      exact js_unp c ht ((E e ce hce).j ρ d hd) hb (by have := swaps_no hc'.1 (some (.Tuple [.Name x px, .Name y py] kt pt)) pos.line X.env; exact this) (by have := hc'.2; cases e <;> first | rfl | (exfalso; exact Bool.noConfusion this)) rfl
  · -- if
    obtain ⟨ct, ht, h⟩ := Option.bind_eq_some_iff.mp h
    split at h
    · cases h
    · rename_i hif
      obtain ⟨ca, ha, h⟩ := Option.bind_eq_some_iff.mp h
      obtain ⟨cb, hb, rfl⟩ := Option.map_eq_some_iff.mp h
      rw [evS] at hv
      obtain ⟨x, hx, hv⟩ := Option.bind_eq_some_iff.mp hv
      obtain ⟨r, rfl, h1, h0⟩ := ifO_inv hv
      exact js_if ((E _ ct ht).t (by simpa using hif) ρ r hx) (fun z => hrec _ _ ha X c hfn ρ o (h1 z)) (fun z => hrec _ _ hb X c hfn ρ o (h0 z))
  · -- for
    obtain ⟨⟨t, own⟩, ht, h⟩ := Option.bind_eq_some_iff.mp h
    obtain ⟨ci, hi, h⟩ := Option.bind_eq_some_iff.mp h
    obtain ⟨cb, hb, rfl⟩ := Option.map_eq_some_iff.mp h
    rw [evS] at hv
    obtain ⟨x, hx, hv⟩ := Option.bind_eq_some_iff.mp hv
    obtain ⟨items, hit, hv⟩ := Option.bind_eq_some_iff.mp hv
    exact js_for c ht ((E _ ci hi).j ρ x hx) hit (fold_of hi X.env) (fun ρ o ho => hrec _ _ hb X c hfn ρ o ho) hv
  · -- while
    obtain ⟨ct, ht, h⟩ := Option.bind_eq_some_iff.mp h
    split at h
    · cases h
    · rename_i hif
      obtain ⟨cb, hb, rfl⟩ := Option.map_eq_some_iff.mp h
      rw [evS] at hv
      exact js_while c.pass (fun ρ r hr => (E _ ct ht).t (by simpa using hif) ρ r hr) (fun ρ o ho => hrec _ _ hb X c hfn ρ o ho) hv
  · -- return
    obtain ⟨ce, hce, rfl⟩ := Option.map_eq_some_iff.mp h
    rw [evS] at hv
    obtain ⟨d, hd, rfl⟩ := Option.map_eq_some_iff.mp hv
    exact js_ret ((E _ ce hce).j ρ d hd)
  · -- an expression
    split at h
    · cases h
    · rename_i hc
      obtain ⟨ce, hce, rfl⟩ := Option.map_eq_some_iff.mp h
      rw [evS] at hv
      obtain ⟨d, hd, rfl⟩ := Option.map_eq_some_iff.mp hv
      exact js_drop ((E _ ce hce).j ρ d hd) (swaps_no (by simpa using hc) _ _ _)
  · cases h
    cases hv
  · cases h
theorem snd_b (hft : FtOk G k ft) (hgv : GvOk G gv) (hbn : BnOk G) (hkind : sc.kind = .function) : ∀ (n : Nat) (sts : List Stmt) (cs : List CS), compB N n sc sts = some cs → ∀ X, Ctx G N k sc X → (∀ x, X.fn x = true) → ∀ ρ o, evB ft gv W cs ρ = some o → JB X ρ sts o := by
  intro n
  induction n with
  | zero => intro sts cs h; cases sts <;> cases h
  | succ n ih =>
    intro sts cs h X c hfn ρ o hv
    cases sts with
    | nil =>
      cases h
      cases hv
      exact jb_nil
    | cons st r =>
      obtain ⟨c1, h1, h2⟩ := Option.bind_eq_some_iff.mp (show (stS N (compB N n sc) sc st).bind (fun c => (compB N n sc r).map (c :: ·)) = some cs from h)
      obtain ⟨cs', h3, rfl⟩ := Option.map_eq_some_iff.mp h2
      rw [evB] at hv
      rcases seq_inv hv with ⟨ρ', e1, e2⟩ | ⟨e1, e2⟩
      · exact jb_cons (snd_st hft hgv hbn hkind hfn (fun sts cs h X c hfn ρ o hv => ih sts cs h X c hfn ρ o hv) h1 c ρ _ e1) (ih r cs' h3 X c hfn ρ' o e2)
      · have hs := snd_st hft hgv hbn hkind hfn (fun sts cs h X c hfn ρ o hv => ih sts cs h X c hfn ρ o hv) h1 c ρ _ e1
        cases o with
        | nx ρ' => exact absurd rfl (e2 ρ')
        | rt d => exact jb_rt hs
        | bk ρ' => exact jb_bk hs
        | ct ρ' => exact jb_ct hs
/-- a def that is taken: its answers are the small language's -/
theorem fn_pure {ps : List Str} {x qual : Str} {st : Stmt} {f : Addr} {fd : FuncData} (F : Fun G.K x qual st f fd) (S : FnScope N ps (defScope st)) {n : Nat} {cs : List CS} (hc : compB N n (defScope st) (defBody st) = some cs) (hft : FtOk G k ft) (hgv : GvOk G gv) (hbn : BnOk G)
    {R : List PyData → PyData → Prop} (hR : ∀ ds d, R ds d → ds.length = ps.length ∧ evB ft gv W cs (ds.map some ++ List.replicate (N.length - ds.length) none) = some (.rt d)) : FnOk G.P G.w G.K G.mg G.base CX0 (k + 1) f fd ps (spR G.K R) := by
  refine F.ok S (fun vs H Q E h => ?_) (fun cdv A outer s H vs Q E hr h => ?_)
  · obtain ⟨ds, d, hv, hr, _⟩ := h
    rw [dpa_len hv]
    exact (hR ds d hr).1
  · obtain ⟨ds, d, hv, hd, q⟩ := h
    have C : Ctx G N k (defScope st) (cxOf CX0 G.P G.w G.K G.mg G.base N qual (defScope st) f cdv A outer s H E).nox := ⟨rfl, rfl, rfl, rfl, rfl, rfl, S.nd, rfl, rfl, PassesOwn.never, hr⟩
    exact ⟨WB _ (defBody st), pwb, snd_b hft hgv hbn S.kind n _ cs hc _ C (fun _ => rfl) _ _ (hR ds d hd).2 _ H (EnvD.start N hv) _ fun v H2 s2 h2 => q v H2 s2 h2⟩
end

/-! ### the table of the defs -/
abbrev Fm := List PyData → Option PyData
def look : List (Str × Fm) → Str → Option Fm
  | [], _ => none
  | (y, m) :: r, x => if y = x then some m else look r x
def ftOf (l : List (Str × Fm)) : Str → List PyData → Option PyData := fun x ds => (look l x).bind fun m => m ds
theorem FtOk.nil {G : Gb} {k : Nat} : FtOk G k (ftOf []) := fun x ds d h => by cases h
theorem FtOk.mono {G : Gb} {j k : Nat} {ft : Str → List PyData → Option PyData} (h : FtOk G j ft) (hk : j ≤ k) : FtOk G k ft := fun x ds d hd => by
  obtain ⟨f, fd, ps, R, F, r⟩ := h x ds d hd
  exact ⟨f, fd, ps, R, F.mono hk, r⟩
theorem FtOk.cons {G : Gb} {k : Nat} {l : List (Str × Fm)} (h : FtOk G k (ftOf l)) {x : Str} {m : Fm} {f : Addr} {fd : FuncData} {ps : List Str} (F : FnOk G.P G.w G.K G.mg G.base CX0 (k + 1) f fd ps (spR G.K fun ds d => m ds = some d)) (hm : G.mg x = some (.ref f))
    (hk : PySem.W.keepIn G.K (.ref f) = true) (hb : Binds G.K fd ps []) : FtOk G (k + 1) (ftOf ((x, m) :: l)) := fun y ds d hd => by
  by_cases e : x = y
  · subst e
    have hd' : m ds = some d := by
      have : (look ((x, m) :: l) x).bind (fun m => m ds) = some d := hd
      unfold look at this
      rw [if_pos rfl] at this
      exact this
    exact ⟨f, fd, ps, _, F, hm, hk, hb, hd'⟩
  · have hd' : ftOf l y ds = some d := by
      have : (look ((x, m) :: l) y).bind (fun m => m ds) = some d := hd
      unfold look at this
      rw [if_neg e] at this
      exact this
    exact (h.mono (Nat.le_succ k)) y ds d hd'
def gvOf : List (Str × PyData) → Str → Option PyData
  | [], _ => none
  | (y, d) :: r, x => if y = x then some d else gvOf r x
end JL
/-! JTab: the table of the defs, each by its own body. -/
namespace JL
open PySem PySem.Spec PyProof.Rows L2
section
variable {G : Gb} {N : List Str} {k : Nat} {X : Cx} {W : Nat} {ft : Str → List PyData → Option PyData} {gv : Str → Option PyData}
def outV : Out → Option PyData
  | .rt d => some d
  | .nx _ => some .none
  | _ => none
theorem fn_pure2 {ps : List Str} {x qual : Str} {st : Stmt} {f : Addr} {fd : FuncData} (F : Fun G.K x qual st f fd) (S : FnScope N ps (defScope st)) {n : Nat} {cs : List CS} (hc : compB N n (defScope st) (defBody st) = some cs) (hft : FtOk G k ft) (hgv : GvOk G gv) (hbn : BnOk G)
    {R : List PyData → PyData → Prop} (hR : ∀ ds d, R ds d → ds.length = ps.length ∧ ∃ o, evB ft gv W cs (ds.map some ++ List.replicate (N.length - ds.length) none) = some o ∧ outV o = some d) : FnOk G.P G.w G.K G.mg G.base CX0 (k + 1) f fd ps (spR G.K R) := by
  refine F.ok S (fun vs H Q E h => ?_) (fun cdv A outer s H vs Q E hr h => ?_)
  · obtain ⟨ds, d, hv, hr, _⟩ := h
    rw [dpa_len hv]
    exact (hR ds d hr).1
  · obtain ⟨ds, d, hv, hd, q⟩ := h
    have C : Ctx G N k (defScope st) (cxOf CX0 G.P G.w G.K G.mg G.base N qual (defScope st) f cdv A outer s H E).nox := ⟨rfl, rfl, rfl, rfl, rfl, rfl, S.nd, rfl, rfl, PassesOwn.never, hr⟩
    obtain ⟨_, o, ho, hv2⟩ := hR ds d hd
    refine ⟨WB _ (defBody st), pwb, snd_b hft hgv hbn S.kind n _ cs hc _ C (fun _ => rfl) _ _ ho _ H (EnvD.start N hv) _ ?_⟩
    cases o with
    | rt e =>
      cases hv2
      exact fun v H2 s2 h2 => q v H2 s2 h2
    | nx ρ =>
      cases hv2
      exact fun σ' H2 s2 _ => q .non H2 s2 .non
    | bk ρ => cases hv2
    | ct ρ => cases hv2
/-- a def by its own body -/
def mkF (ft : Str → List PyData → Option PyData) (gv : Str → Option PyData) (W np nN : Nat) (cs : List CS) : Fm := fun ds =>
  if ds.length = np then (evB ft gv W cs (ds.map some ++ List.replicate (nN - ds.length) none)).bind outV else none
theorem mkF_of {W np nN : Nat} {cs : List CS} {ds : List PyData} {o : Out} {d : PyData} (hl : ds.length = np) (h : evB ft gv W cs (ds.map some ++ List.replicate (nN - ds.length) none) = some o) (ho : outV o = some d) : mkF ft gv W np nN cs ds = some d := by
  unfold mkF
  rw [if_pos hl, h]
  exact ho
theorem mkF_rt {W np nN : Nat} {cs : List CS} {ds : List PyData} {d : PyData} (hl : ds.length = np) (h : evB ft gv W cs (ds.map some ++ List.replicate (nN - ds.length) none) = some (.rt d)) : mkF ft gv W np nN cs ds = some d := mkF_of hl h rfl
/-- what the head tells of a def -/
structure DefX (G : Gb) (x : Str) (st : Stmt) : Prop where
  ex : ∃ (f : Addr) (fd : FuncData), Fun G.K x x st f fd ∧ G.mg x = some (.ref f)
theorem FtOk.def {l : List (Str × Fm)} {ps : List Str} {x : Str} {st : Stmt} {n : Nat} {cs : List CS} (h : FtOk G k (ftOf l)) (hgv : GvOk G gv) (hbn : BnOk G) (D : DefX G x st) (S : FnScope N ps (defScope st)) (hc : compB N n (defScope st) (defBody st) = some cs)
    (hb : ∀ (kV doc pm : Value) (an : Option Addr) (cdv ct : Value) (us : List Value), us.length = ps.length → bindArgs (PySem.W.fnOf x x (defArgs st) (defBody st) (defScope st) .none kV doc pm an cdv ct) ⟨us, []⟩ = pure (ps.zip us)) :
    FtOk G (k + 1) (ftOf ((x, mkF (ftOf l) gv W ps.length N.length cs) :: l)) := by
  obtain ⟨f, fd, F, hm⟩ := D.ex
  refine FtOk.cons h (fn_pure2 (W := W) F S hc h hgv hbn fun ds d hd => ?_) hm F.kp (F.binds hb)
  by_cases hl : ds.length = ps.length
  · have e : mkF (ftOf l) gv W ps.length N.length cs ds = (evB (ftOf l) gv W cs (ds.map some ++ List.replicate (N.length - ds.length) none)).bind outV := by
      unfold mkF
      rw [if_pos hl]
    rw [e] at hd
    obtain ⟨o, h1, h2⟩ := Option.bind_eq_some_iff.mp hd
    exact ⟨hl, o, h1, h2⟩
  · exfalso
    have e : mkF (ftOf l) gv W ps.length N.length cs ds = none := by
      unfold mkF
      rw [if_neg hl]
    rw [e] at hd
    cases hd
theorem ft_at {l : List (Str × Fm)} {x : Str} {m : Fm} (h : look l x = some m) (ds : List PyData) : ftOf l x ds = m ds := by
  show (look l x).bind _ = _
  rw [h]
  rfl
/-- an expression in its own words -/
theorem pe_self {e : Expr} : PE X e (fun σ H Q => WE X e σ H Q) := ⟨fun pins s σ H Q I h => h pins s I⟩
end
end JL
/-! M81: the mathematics of texts of numbers, rows, spells; no program in sight. -/
namespace M81
open PySem SX
open TL (tl)

/-! ### whole numbers -/
def intL (i : Int) : List Nat := if i < 0 then 45 :: TL.numL i.natAbs else TL.numL i.natAbs
theorem ofString_app (a b : String) : Str.ofString (a ++ b) = Str.ofString a ++ Str.ofString b := by
  refine TL.ext_tl ?_
  rw [TL.tl_append]
  rw [Str.ofString_eq_toList, Str.ofString_eq_toList, Str.ofString_eq_toList]
  show ((a ++ b).toList.map Char.toNat).toArray.toList = (a.toList.map Char.toNat).toArray.toList ++ (b.toList.map Char.toNat).toArray.toList
  rw [String.toList_append, List.map_append]
theorem tl_int (i : Int) : tl (Str.ofString (toString i)) = intL i := by
  unfold intL
  by_cases h : i < 0
  · rw [if_pos h, PyProof.Rows.toString_neg h]
    have e : (0 : Int) - i = ((i.natAbs : Nat) : Int) := by omega
    rw [e]
    have e2 : ∀ z : String, tl (Str.ofString ("-" ++ z)) = 45 :: tl (Str.ofString z) := fun z => by
      have e3 : Str.ofString ("-" ++ z) = Str.ofString "-" ++ Str.ofString z := ofString_app _ _
      rw [e3, TL.tl_append]
      rfl
    rw [e2, TL.tl_num]
  · rw [if_neg h]
    have e : i = ((i.natAbs : Nat) : Int) := by omega
    generalize i.natAbs = m at e
    subst e
    rw [TL.tl_num]
theorem S_int (i : Int) : (Str.ofString (toString i)) = S (intL i) := by
  rw [← tl_int]
def allDig (l : List Nat) : Bool := l.all fun c => decide (48 ≤ c) && decide (c ≤ 57)
theorem allDig_iff {l : List Nat} : allDig l = true ↔ NumText.AllDigits l := by
  unfold allDig NumText.AllDigits
  rw [List.all_eq_true]
  constructor
  · intro h c hc
    have := h c hc
    rw [Bool.and_eq_true, decide_eq_true_eq, decide_eq_true_eq] at this
    exact this
  · intro h c hc
    have := h c hc
    rw [Bool.and_eq_true, decide_eq_true_eq, decide_eq_true_eq]
    exact this
/-- the program's reading of a whole number -/
def wholeIn (l : List Nat) : Option Nat := if l = [] ∨ allDig l = false ∨ (l.head? = some 48 ∧ l ≠ [48]) then none else some (NumText.digitsVal l)
theorem numL_head {n : Nat} (h : (TL.numL n).head? = some 48) : n = 0 := by
  -- a text that begins with nought is nought's
  have hd := TL.numL_digits n
  by_cases hn : n < 10
  · rw [TL.numL_lt hn] at h
    simp at h
    omega
  · exfalso
    have : ∀ m, 10 ≤ m → (TL.numL m).head? ≠ some 48 := by
      intro m
      induction m using Nat.strongRecOn with
      | _ m ih =>
        intro hm
        rw [TL.numL_step hm]
        by_cases h2 : m / 10 < 10
        · rw [TL.numL_lt h2]
          simp
          omega
        · have := ih (m / 10) (by omega) (by omega)
          have hne := TL.numL_ne (m / 10)
          cases q : TL.numL (m / 10) with
          | nil => exact absurd q hne
          | cons a r =>
            rw [q] at this
            simpa using this
    exact this n (by omega) h
theorem numL_of {l : List Nat} (hd : NumText.AllDigits l) (hne : l ≠ []) (hz : l.head? = some 48 → l = [48]) : TL.numL (NumText.digitsVal l) = l := by
  have back : ∀ cs : List Nat, NumText.AllDigits cs → (cs.map Char.ofNat).map Char.toNat = cs := by
    intro cs hcs
    rw [List.map_map]
    conv => rhs; rw [← List.map_id cs]
    refine List.map_congr_left fun c hc => ?_
    have := hcs c hc
    show (Char.ofNat c).toNat = c
    have hv : c.isValidChar := by
      left
      omega
    simp [Char.ofNat, hv, Char.toNat, Char.ofNatAux]
  cases l with
  | nil => exact absurd rfl hne
  | cons c r =>
    have e : Nat.toDigits 10 (NumText.digitsVal (c :: r)) = (c :: r).map Char.ofNat := by
      refine NumText.toDigits_digitsVal r.length (c :: r) rfl hd ?_
      by_cases h48 : c = 48
      · left
        have := hz (by rw [h48]; rfl)
        cases this
        rfl
      · right
        have := hd.head
        exact ⟨c, r, rfl, by omega⟩
    unfold TL.numL
    rw [e]
    exact back _ hd
theorem wholeIn_iff {l : List Nat} {n : Nat} : wholeIn l = some n ↔ l = TL.numL n := by
  unfold wholeIn
  constructor
  · intro h
    split at h
    · cases h
    · rename_i hc
      cases h
      have h1 : l ≠ [] := fun e => hc (.inl e)
      have h2 : allDig l = true := by
        cases q : allDig l with
        | true => rfl
        | false => exact absurd (.inr (.inl q)) hc
      have h3 : l.head? = some 48 → l = [48] := fun e => by
        by_cases q : l = [48]
        · exact q
        · exact absurd (.inr (.inr ⟨e, q⟩)) hc
      exact (numL_of (allDig_iff.mp h2) h1 h3).symm
  · intro h
    subst h
    rw [if_neg, TL.numL_val]
    intro hc
    rcases hc with hc | hc | ⟨hc, hq⟩
    · exact TL.numL_ne n hc
    · rw [allDig_iff.mpr (TL.numL_digits n)] at hc
      cases hc
    · have := numL_head hc
      subst this
      exact hq (TL.numL_lt (by decide))
/-- the law's reading of a whole number, with a sign -/
def readW (l : List Nat) : Option Int :=
  let digits := if l.take 1 = [45] then l.drop 1 else l
  if digits = [] ∨ allDig digits = false then none else
    let found : Int := if l.take 1 = [45] then 0 - (NumText.digitsVal digits : Int) else (NumText.digitsVal digits : Int)
    if intL found = l then some found else none
theorem intL_neg1 {i : Int} : (intL i).take 1 = [45] ↔ i < 0 := by
  unfold intL
  split
  · rename_i h; simp [h]
  · rename_i h
    constructor
    · intro e
      exfalso
      have hd := TL.numL_digits i.natAbs
      cases q : TL.numL i.natAbs with
      | nil => exact TL.numL_ne _ q
      | cons a r =>
        rw [q] at e hd
        simp at e
        have := hd.head
        omega
    · intro e; exact absurd e h
theorem readW_iff {l : List Nat} {i : Int} : readW l = some i ↔ l = intL i := by
  unfold readW
  constructor
  · intro h
    simp only at h
    by_cases h1 : (if l.take 1 = [45] then l.drop 1 else l) = [] ∨ allDig (if l.take 1 = [45] then l.drop 1 else l) = false
    · rw [if_pos h1] at h
      cases h
    · rw [if_neg h1] at h
      by_cases h2 : intL (if l.take 1 = [45] then 0 - (NumText.digitsVal (if l.take 1 = [45] then l.drop 1 else l) : Int) else (NumText.digitsVal (if l.take 1 = [45] then l.drop 1 else l) : Int)) = l
      · rw [if_pos h2] at h
        have h3 := Option.some.inj h
        rw [h3] at h2
        exact h2.symm
      · rw [if_neg h2] at h
        cases h
  · intro h
    subst h
    by_cases hneg : i < 0
    · have e1 : intL i = 45 :: TL.numL i.natAbs := by unfold intL; rw [if_pos hneg]
      have e2 : (0 : Int) - ((NumText.digitsVal (TL.numL i.natAbs) : Nat) : Int) = i := by rw [TL.numL_val]; omega
      simp only [e1]
      simp [TL.numL_ne, allDig_iff.mpr (TL.numL_digits _)]
      have e3 : -((NumText.digitsVal (TL.numL i.natAbs) : Nat) : Int) = i := by rw [TL.numL_val]; omega
      rw [e3, e1]
      simp
    · have e1 : intL i = TL.numL i.natAbs := by unfold intL; rw [if_neg hneg]
      have ht : ¬ (TL.numL i.natAbs).take 1 = [45] := by rw [← e1]; exact fun z => hneg (intL_neg1.mp z)
      simp only [e1, if_neg ht]
      rw [if_neg (by simp [TL.numL_ne, allDig_iff.mpr (TL.numL_digits _)])]
      have e3 : ((NumText.digitsVal (TL.numL i.natAbs) : Nat) : Int) = i := by rw [TL.numL_val]; omega
      rw [e3, e1]
      simp
theorem intL_no {c : Nat} (h : c < 45 ∨ (45 < c ∧ c < 48) ∨ 57 < c) (i : Int) : c ∉ intL i := by
  unfold intL
  have hf : c ∉ TL.numL i.natAbs := TL.numL_free (by omega)
  split
  · intro hm
    rcases List.mem_cons.mp hm with e | hm
    · omega
    · exact hf hm
  · exact hf

/-! ### numbers -/
abbrev Q := Int × Int
def valid (q : Q) : Bool := decide (1 ≤ q.2) && decide (Nat.gcd q.1.natAbs q.2.natAbs = 1)
def numText (q : Q) : List Nat := if q.2 = 1 then intL q.1 else intL q.1 ++ 47 :: intL q.2
def chk (w : List Nat) (q : Q) : Option Q := if valid q = true ∧ numText q = w then some q else none
def numIn (w : List Nat) : Option Q :=
  match (TL.spl [47] 0 [] (if w.take 1 = [45] then w.drop 1 else w)).map wholeIn with
  | [some a] => chk w (if w.take 1 = [45] then 0 - (a : Int) else a, 1)
  | [some a, some b] => chk w (if w.take 1 = [45] then 0 - (a : Int) else a, b)
  | _ => none
def fr (t b : Int) : Q := (t / (Nat.gcd t.natAbs b.natAbs : Int), b / (Nat.gcd t.natAbs b.natAbs : Int))
def numLaw (w : List Nat) : Option Q :=
  match TL.spl [47] 0 [] w with
  | [p] => (readW p).bind fun t => if numText (fr t 1) = w then some (fr t 1) else none
  | [p, r] => (readW p).bind fun t => (readW r).bind fun b => if b < 1 then none else if numText (fr t b) = w then some (fr t b) else none
  | _ => none
theorem spl1 {c : Nat} {p : List Nat} (h : c ∉ p) : TL.spl [c] 0 [] p = [p] := by
  have := spl_join (c := c) (sep := []) (parts := [p]) (by simp) (fun q hq => by simp at hq; subst hq; exact h)
  exact this
theorem spl2 {c : Nat} {p r : List Nat} (h : c ∉ p) (h2 : c ∉ r) : TL.spl [c] 0 [] (p ++ c :: r) = [p, r] := by
  have := spl_join (c := c) (sep := []) (parts := [p, r]) (by simp) (fun q hq => by
    simp at hq
    rcases hq with rfl | rfl
    · exact h
    · exact h2)
  exact this
theorem numText_chk {q : Q} (h : valid q = true) : numIn (numText q) = some q := by
  obtain ⟨a, b⟩ := q
  have hb : 1 ≤ b := by unfold valid at h; simp at h; exact h.1
  have hbn : intL b = TL.numL b.natAbs := by unfold intL; rw [if_neg (by omega)]
  have h47 : ∀ n, (47 : Nat) ∉ TL.numL n := fun n => TL.numL_free (by omega)
  have wN : ∀ n, wholeIn (TL.numL n) = some n := fun n => wholeIn_iff.mpr rfl
  have fin : ∀ c : Int, c = a → chk (numText (a, b)) (c, b) = some (a, b) := fun c e => by
    subst e
    unfold chk
    rw [if_pos ⟨h, rfl⟩]
  have t1 : (numText (a, b)).take 1 = [45] ↔ a < 0 := by
    rw [← intL_neg1]
    unfold numText
    split
    · exact Iff.rfl
    · have : intL a ≠ [] := by
        unfold intL
        split
        · simp
        · exact TL.numL_ne _
      cases q : intL a with
      | nil => exact absurd q this
      | cons x r => simp
  have body : (if (numText (a, b)).take 1 = [45] then (numText (a, b)).drop 1 else numText (a, b)) = (if b = 1 then TL.numL a.natAbs else TL.numL a.natAbs ++ 47 :: TL.numL b.natAbs) := by
    by_cases hn : a < 0
    · rw [if_pos (t1.mpr hn)]
      have e1 : intL a = 45 :: TL.numL a.natAbs := by unfold intL; rw [if_pos hn]
      unfold numText
      simp only [e1, hbn]
      split <;> rfl
    · rw [if_neg (fun z => hn (t1.mp z))]
      have e1 : intL a = TL.numL a.natAbs := by unfold intL; rw [if_neg hn]
      unfold numText
      simp only [e1, hbn]
  unfold numIn
  rw [body]
  have hsg : (if (numText (a, b)).take 1 = [45] then (0 : Int) - ((a.natAbs : Nat) : Int) else ((a.natAbs : Nat) : Int)) = a := by
    by_cases hn : a < 0
    · rw [if_pos (t1.mpr hn)]; omega
    · rw [if_neg (fun z => hn (t1.mp z))]; omega
  by_cases h1 : b = 1
  · subst h1
    simp only [if_true]
    rw [spl1 (h47 _)]
    simp only [List.map_cons, List.map_nil, wN]
    exact fin _ hsg
  · rw [if_neg h1, spl2 (h47 _) (h47 _)]
    simp only [List.map_cons, List.map_nil, wN]
    have eb : ((b.natAbs : Nat) : Int) = b := by omega
    rw [eb]
    exact fin _ hsg
theorem chk_some {w : List Nat} {q r : Q} (h : chk w q = some r) : valid r = true ∧ numText r = w := by
  unfold chk at h
  by_cases hc : valid q = true ∧ numText q = w
  · rw [if_pos hc] at h
    cases h
    exact hc
  · rw [if_neg hc] at h
    cases h
theorem numIn_iff {w : List Nat} {q : Q} : numIn w = some q ↔ valid q = true ∧ numText q = w := by
  constructor
  · intro h
    unfold numIn at h
    split at h
    · exact chk_some h
    · exact chk_some h
    · cases h
  · rintro ⟨h, rfl⟩
    exact numText_chk h
theorem Int.natCast_dvd_left' {n : Nat} {i : Int} (h : n ∣ i.natAbs) : (n : Int) ∣ i := Int.natAbs_dvd_natAbs.mp (by simpa using h)
theorem fr_valid {t b : Int} (hb : 1 ≤ b) : valid (fr t b) = true := by
  unfold valid fr
  have hg : 0 < Nat.gcd t.natAbs b.natAbs := Nat.gcd_pos_of_pos_right _ (by omega)
  have d1 : ((Nat.gcd t.natAbs b.natAbs : Nat) : Int) ∣ t := Int.natCast_dvd_left' (Nat.gcd_dvd_left _ _)
  have d2 : ((Nat.gcd t.natAbs b.natAbs : Nat) : Int) ∣ b := Int.natCast_dvd_left' (Nat.gcd_dvd_right _ _)
  have n1 : (t / ((Nat.gcd t.natAbs b.natAbs : Nat) : Int)).natAbs = t.natAbs / Nat.gcd t.natAbs b.natAbs := by
    rw [Int.natAbs_ediv_of_dvd d1]; rfl
  have n2 : (b / ((Nat.gcd t.natAbs b.natAbs : Nat) : Int)).natAbs = b.natAbs / Nat.gcd t.natAbs b.natAbs := by
    rw [Int.natAbs_ediv_of_dvd d2]; rfl
  simp only [Bool.and_eq_true, decide_eq_true_eq]
  constructor
  · have : 0 < b / ((Nat.gcd t.natAbs b.natAbs : Nat) : Int) := Int.ediv_pos_of_pos_of_dvd (by omega) (by omega) d2
    omega
  · rw [n1, n2]
    exact Nat.gcd_div_gcd_div_gcd_of_pos_right (by omega)
theorem fr_of {q : Q} (h : valid q = true) : fr q.1 q.2 = q := by
  unfold valid at h
  simp only [Bool.and_eq_true, decide_eq_true_eq] at h
  unfold fr
  rw [h.2]
  simp
theorem numLaw_iff {w : List Nat} {q : Q} : numLaw w = some q ↔ valid q = true ∧ numText q = w := by
  constructor
  · intro h
    unfold numLaw at h
    split at h
    · obtain ⟨t, ht, h⟩ := Option.bind_eq_some_iff.mp h
      split at h
      · rename_i he
        cases h
        exact ⟨fr_valid (by omega), he⟩
      · cases h
    · obtain ⟨t, ht, h⟩ := Option.bind_eq_some_iff.mp h
      obtain ⟨b, hb, h⟩ := Option.bind_eq_some_iff.mp h
      split at h
      · cases h
      · rename_i hb1
        split at h
        · rename_i he
          cases h
          exact ⟨fr_valid (by omega), he⟩
        · cases h
    · cases h
  · rintro ⟨h, rfl⟩
    have hv := h
    unfold valid at hv
    simp only [Bool.and_eq_true, decide_eq_true_eq] at hv
    have n47 : ∀ i, (47 : Nat) ∉ intL i := intL_no (by omega)
    have rW : ∀ i, readW (intL i) = some i := fun i => readW_iff.mpr rfl
    unfold numLaw
    by_cases h1 : q.2 = 1
    · have e : numText q = intL q.1 := by unfold numText; rw [if_pos h1]
      rw [e, spl1 (n47 _)]
      have e2 : fr q.1 1 = q := by rw [← h1]; exact fr_of h
      simp only [rW, Option.bind_some, e2, e, if_true]
    · have e : numText q = intL q.1 ++ 47 :: intL q.2 := by unfold numText; rw [if_neg h1]
      rw [e, spl2 (n47 _) (n47 _)]
      simp only [rW, Option.bind_some, fr_of h, e, if_true]
      rw [if_neg (by omega)]
theorem numIn_law (w : List Nat) : numIn w = numLaw w := by
  cases h : numIn w with
  | some q => exact ((numLaw_iff).mpr (numIn_iff.mp h)).symm
  | none =>
    cases h2 : numLaw w with
    | none => rfl
    | some q =>
      have := numIn_iff.mpr (numLaw_iff.mp h2)
      rw [h] at this
      cases this
end M81
/-! M81b: rows, spells, runs of digits. -/
namespace M81
open PySem SX
open TL (tl)

def noneL : List Nat := [110, 111, 110, 101]
def restL : List Nat := [114, 101, 115, 116]
def nothingL : List Nat := [110, 111, 116, 104, 105, 110, 103]
def mapO {α β : Type} (f : α → Option β) : List α → Option (List β)
  | [] => some []
  | x :: r => (f x).bind fun y => (mapO f r).map (y :: ·)
theorem mapO_map {α β : Type} {f : α → Option β} {g : β → α} : ∀ {l : List β}, (∀ x ∈ l, f (g x) = some x) → mapO f (l.map g) = some l
  | [], _ => rfl
  | x :: r, h => by
    rw [List.map_cons]
    unfold mapO
    rw [h x (List.mem_cons_self ..), mapO_map fun y hy => h y (List.mem_cons_of_mem _ hy)]
    rfl
theorem mapO_congr {α β : Type} {f g : α → Option β} : ∀ {l : List α}, (∀ x ∈ l, f x = g x) → mapO f l = mapO g l
  | [], _ => rfl
  | x :: r, h => by
    unfold mapO
    rw [h x (List.mem_cons_self ..), mapO_congr fun y hy => h y (List.mem_cons_of_mem _ hy)]
def rowText (r : List Q) : List Nat := if r = [] then noneL else TL.joinL [32] (r.map numText)
def rowIn (l : List Nat) : Option (List Q) := if l = noneL then some [] else mapO numIn (TL.spl [32] 0 [] l)
def rowLaw (l : List Nat) : Option (List Q) := if l = noneL then some [] else mapO numLaw (TL.spl [32] 0 [] l)
theorem rowIn_law (l : List Nat) : rowIn l = rowLaw l := by
  unfold rowIn rowLaw
  rw [mapO_congr fun x _ => numIn_law x]
def wide (rs : List (List Q)) : Bool := rs.all fun r => decide (r.length = (rs.headD []).length)
def rowsText (rs : List (List Q)) (w : List Nat) : List Nat := if rs = [] then w else TL.joinL [44, 32] (rs.map rowText)
def rowsIn (l w : List Nat) : Option (List (List Q)) := if l = w then some [] else (mapO rowIn (TL.spl [44, 32] 0 [] l)).bind fun rs => if wide rs then some rs else none
theorem numText_chars (q : Q) : ∀ c ∈ numText q, c = 45 ∨ (47 ≤ c ∧ c ≤ 57) := by
  have hi : ∀ i, ∀ c ∈ intL i, c = 45 ∨ (47 ≤ c ∧ c ≤ 57) := fun i c hc => by
    unfold intL at hc
    split at hc
    · rcases List.mem_cons.mp hc with e | hc
      · exact .inl e
      · have := TL.numL_digits _ c hc
        omega
    · have := TL.numL_digits _ c hc
      omega
  intro c hc
  unfold numText at hc
  split at hc
  · exact hi _ c hc
  · rcases List.mem_append.mp hc with hc | hc
    · exact hi _ c hc
    · rcases List.mem_cons.mp hc with e | hc
      · omega
      · exact hi _ c hc
theorem intL_ne (i : Int) : intL i ≠ [] := by
  unfold intL
  split
  · simp
  · exact TL.numL_ne _
theorem numText_ne (q : Q) : numText q ≠ [] := by
  unfold numText
  split
  · exact intL_ne _
  · simp
theorem joinL_head {s : List Nat} {p : List Nat} {r : List (List Nat)} : ∃ z, TL.joinL s (p :: r) = p ++ z := by
  cases r with
  | nil => exact ⟨[], by simp [TL.joinL]⟩
  | cons q r => exact ⟨s ++ TL.joinL s (q :: r), rfl⟩
theorem numText_head (q : Q) : ∃ c r, numText q = c :: r ∧ (c = 45 ∨ (47 ≤ c ∧ c ≤ 57)) := by
  cases e : numText q with
  | nil => exact absurd e (numText_ne q)
  | cons c r => exact ⟨c, r, rfl, numText_chars q c (by rw [e]; exact List.mem_cons_self ..)⟩
theorem rowText_head {r : List Q} (h : r ≠ []) : ∃ c t, rowText r = c :: t ∧ (c = 45 ∨ (47 ≤ c ∧ c ≤ 57)) := by
  cases r with
  | nil => exact absurd rfl h
  | cons q r =>
    unfold rowText
    rw [if_neg h, List.map_cons]
    obtain ⟨z, hz⟩ := joinL_head (s := [32]) (p := numText q) (r := r.map numText)
    obtain ⟨c, t, e, hc⟩ := numText_head q
    exact ⟨c, t ++ z, by rw [hz, e]; rfl, hc⟩
theorem rowIn_text {r : List Q} (h : ∀ q ∈ r, valid q = true) : rowIn (rowText r) = some r := by
  by_cases hr : r = []
  · subst hr
    rfl
  · have hne : rowText r ≠ noneL := by
      obtain ⟨c, t, e, hc⟩ := rowText_head hr
      rw [e]
      intro z
      injection z with z1 _
      omega
    unfold rowIn
    rw [if_neg hne]
    unfold rowText
    rw [if_neg hr]
    have : TL.spl [32] 0 [] (TL.joinL [32] (r.map numText)) = r.map numText := spl_join (c := 32) (sep := []) (by simpa using hr) (fun p hp => by
      obtain ⟨q, _, rfl⟩ := List.mem_map.mp hp
      intro hm
      have := numText_chars q 32 hm
      omega)
    rw [this]
    exact mapO_map fun q hq => numText_chk (h q hq)
theorem joinL_mem {s : List Nat} {c : Nat} : ∀ {ps : List (List Nat)}, c ∈ TL.joinL s ps → c ∈ s ∨ ∃ p ∈ ps, c ∈ p
  | [], h => by simp [TL.joinL] at h
  | [p], h => .inr ⟨p, by simp, h⟩
  | p :: q :: r, h => by
    have h : c ∈ p ++ (s ++ TL.joinL s (q :: r)) := h
    rcases List.mem_append.mp h with h | h
    · exact .inr ⟨p, by simp, h⟩
    · rcases List.mem_append.mp h with h | h
      · exact .inl h
      · rcases joinL_mem h with h | ⟨p', hp, h⟩
        · exact .inl h
        · exact .inr ⟨p', List.mem_cons_of_mem _ hp, h⟩
theorem rowText_no44 (r : List Q) : (44 : Nat) ∉ rowText r := by
  unfold rowText
  split
  · decide
  · intro hm
    rcases joinL_mem hm with h | ⟨p, hp, h⟩
    · simp at h
    · obtain ⟨q, _, rfl⟩ := List.mem_map.mp hp
      have := numText_chars q 44 h
      omega
theorem rowsIn_text {rs : List (List Q)} {w : List Nat} (hw : w = restL ∨ w = nothingL) (h : ∀ r ∈ rs, ∀ q ∈ r, valid q = true) (hd : wide rs = true) : rowsIn (rowsText rs w) w = some rs := by
  by_cases hr : rs = []
  · subst hr
    unfold rowsIn rowsText
    rw [if_pos rfl, if_pos rfl]
  · have hne : rowsText rs w ≠ w := by
      cases rs with
      | nil => exact absurd rfl hr
      | cons r rs =>
        unfold rowsText
        rw [if_neg hr, List.map_cons]
        obtain ⟨z, hz⟩ := joinL_head (s := [44, 32]) (p := rowText r) (r := rs.map rowText)
        rw [hz]
        by_cases h0 : r = []
        · subst h0
          have e0 : rowText [] = noneL := rfl
          rw [e0]
          rcases hw with rfl | rfl
          · intro z; injection z with z1 _; omega
          · intro z; simp [noneL, nothingL] at z
        · obtain ⟨c, t, e, hc⟩ := rowText_head h0
          rw [e]
          rcases hw with rfl | rfl <;> (intro z; injection z with z1 _; omega)
    unfold rowsIn
    rw [if_neg hne]
    unfold rowsText
    rw [if_neg hr]
    have : TL.spl [44, 32] 0 [] (TL.joinL [44, 32] (rs.map rowText)) = rs.map rowText := spl_join (c := 44) (sep := [32]) (by simpa using hr) (fun p hp => by
      obtain ⟨q, _, rfl⟩ := List.mem_map.mp hp
      exact rowText_no44 q)
    rw [this, mapO_map fun r hr => rowIn_text (h r hr)]
    show (if wide rs = true then some rs else none) = some rs
    rw [if_pos hd]

/-! ### names, spells -/
def isLet (c : Nat) : Bool := decide (97 ≤ c) && decide (c ≤ 122)
def isSign (c : Nat) : Bool := isLet c || (decide (48 ≤ c) && decide (c ≤ 57)) || decide (c = 46)
def nameB (l : List Nat) : Bool := decide (1 ≤ l.length) && decide (l.length ≤ 12) && (match l with | [] => false | c :: _ => isLet c) && l.all isSign
def spellText (ns : List (List Nat)) : List Nat := if ns = [] then noneL else TL.joinL [32] ns
def spellIn (l : List Nat) : Option (List (List Nat)) := if l = noneL then some [] else if (TL.spl [32] 0 [] l).all nameB then some (TL.spl [32] 0 [] l) else none
theorem nameB_no32 {l : List Nat} (h : nameB l = true) : (32 : Nat) ∉ l := by
  unfold nameB at h
  simp only [Bool.and_eq_true, List.all_eq_true] at h
  intro hm
  have := h.2 32 hm
  revert this
  decide
theorem spellIn_text {ns : List (List Nat)} (h : ∀ n ∈ ns, nameB n = true) (h1 : ns ≠ [noneL]) : spellIn (spellText ns) = some ns := by
  by_cases hr : ns = []
  · subst hr
    rfl
  · have hs : TL.spl [32] 0 [] (TL.joinL [32] ns) = ns := spl_join (c := 32) (sep := []) hr (fun p hp => nameB_no32 (h p hp))
    have hne : spellText ns ≠ noneL := by
      unfold spellText
      rw [if_neg hr]
      intro e
      rw [e] at hs
      exact h1 (by rw [← hs]; rfl)
    unfold spellIn
    rw [if_neg hne]
    unfold spellText
    rw [if_neg hr, hs, if_pos (List.all_eq_true.mpr h)]

/-! ### runs of digits -/
def DB (n : Nat) (l : List Nat) : Prop := ∀ a m b, l = a ++ m ++ b → allDig m = true → m.length ≤ n
theorem DB.part {n : Nat} {a m b : List Nat} (h : DB n (a ++ m ++ b)) : DB n m := fun x y z e hy => h (a ++ x) y (z ++ b) (by rw [e]; simp [List.append_assoc]) hy
theorem DB.of_len {n : Nat} {l : List Nat} (h : l.length ≤ n) : DB n l := fun a m b e _ => by
  have := congrArg List.length e
  simp at this
  omega
theorem DB.mono {n m : Nat} {l : List Nat} (h : DB n l) (hm : n ≤ m) : DB m l := fun a x b e hx => Nat.le_trans (h a x b e hx) hm
theorem allDig_app {a b : List Nat} : allDig (a ++ b) = (allDig a && allDig b) := by unfold allDig; rw [List.all_append]
theorem DB.app {n k : Nat} {x y : List Nat} (h1 : DB n x) (h2 : DB k y) : DB (n + k) (x ++ y) := fun a m b e hm => by
  -- m lies in x, in y, or over the seam
  have e' : x ++ y = a ++ (m ++ b) := by rw [e, List.append_assoc]
  rcases List.append_eq_append_iff.mp e' with ⟨u, hu, hv⟩ | ⟨u, hu, hv⟩
  · -- a = x ++ u
    have : y = u ++ m ++ b := by rw [hv, List.append_assoc]
    have := h2 u m b this hm
    omega
  · -- x = a ++ u, m ++ b = u ++ y
    rcases List.append_eq_append_iff.mp hv with ⟨w, hw, hz⟩ | ⟨w, hw, hz⟩
    · -- u = m ++ w
      have := h1 a m w (by rw [hu, hw, List.append_assoc]) hm
      omega
    · -- m = u ++ w
      subst hw
      rw [allDig_app, Bool.and_eq_true] at hm
      have t1 := h1 a u [] (by rw [hu]; simp) hm.1
      have t2 := h2 [] w b (by rw [hz]; simp) hm.2
      simp
      omega
theorem DB.sep {n : Nat} {x y : List Nat} {c : Nat} (h1 : DB n x) (h2 : DB n y) (hc : allDig [c] = false) : DB n (x ++ c :: y) := fun a m b e hm => by
  have e' : x ++ c :: y = a ++ (m ++ b) := by rw [e, List.append_assoc]
  rcases List.append_eq_append_iff.mp e' with ⟨u, hu, hv⟩ | ⟨u, hu, hv⟩
  · cases u with
    | nil =>
      cases m with
      | nil => simp
      | cons d m =>
        simp at hv
        obtain ⟨rfl, _⟩ := hv
        have : allDig (c :: m) = (allDig [c] && allDig m) := allDig_app (a := [c]) (b := m)
        rw [this, hc] at hm
        cases hm
    | cons d u =>
      injection hv with _ hv
      exact h2 u m b (by rw [hv, List.append_assoc]; rfl) hm
  · rcases List.append_eq_append_iff.mp hv with ⟨w, hw, hz⟩ | ⟨w, hw, hz⟩
    · exact h1 a m w (by rw [hu, hw, List.append_assoc]) hm
    · subst hw
      rw [allDig_app, Bool.and_eq_true] at hm
      cases w with
      | nil =>
        have t1 := h1 a u [] (by rw [hu]; simp) hm.1
        simpa using t1
      | cons d w =>
        injection hz with h3 _
        subst h3
        have : allDig (c :: w) = (allDig [c] && allDig w) := allDig_app (a := [c]) (b := w)
        rw [this, hc] at hm
        simp at hm
theorem DB.join {n : Nat} {c : Nat} {s : List Nat} (hc : allDig [c] = false) (hs : DB 0 s) : ∀ {ps : List (List Nat)}, (∀ p ∈ ps, DB n p) → DB n (TL.joinL (c :: s) ps)
  | [], _ => .of_len (by simp [TL.joinL])
  | [p], h => h p (by simp)
  | p :: q :: r, h => by
    have ih := DB.join hc hs (ps := q :: r) fun x hx => h x (List.mem_cons_of_mem _ hx)
    have := DB.app hs ih
    rw [Nat.zero_add] at this
    exact DB.sep (h p (by simp)) this hc
theorem spl_part {s : List Nat} : ∀ (l : List Nat) (k : Nat) (acc p : List Nat), p ∈ TL.spl s k acc l → (∃ u x y, l = u ++ x ++ y ∧ p = acc ++ x ∧ (k = 0 → u = [])) ∨ ∃ a b, l = a ++ p ++ b
  | [], k, acc, p, h => by
    rw [TL.spl_nil] at h
    simp at h
    exact .inl ⟨[], [], [], rfl, by simp [h], fun _ => rfl⟩
  | c :: r, 0, acc, p, h => by
    have h : p ∈ (if TL.pre s (c :: r) = true then acc :: TL.spl s (s.length - 1) [] r else TL.spl s 0 (acc ++ [c]) r) := h
    split at h
    · rcases List.mem_cons.mp h with rfl | h
      · exact .inl ⟨[], [], c :: r, rfl, by simp, fun _ => rfl⟩
      · rcases spl_part r _ _ _ h with ⟨u, x, y, e, ep, _⟩ | ⟨a, b, e⟩
        · rw [List.nil_append] at ep
          subst ep
          exact .inr ⟨c :: u, y, by rw [e]; rfl⟩
        · exact .inr ⟨c :: a, b, by rw [e]; rfl⟩
    · rcases spl_part r _ _ _ h with ⟨u, x, y, e, ep, hu⟩ | ⟨a, b, e⟩
      · have := hu rfl
        subst this
        exact .inl ⟨[], c :: x, y, by rw [e]; rfl, by rw [ep, List.append_assoc]; rfl, fun _ => rfl⟩
      · exact .inr ⟨c :: a, b, by rw [e]; rfl⟩
  | c :: r, k + 1, acc, p, h => by
    have h : p ∈ TL.spl s k acc r := h
    rcases spl_part r _ _ _ h with ⟨u, x, y, e, ep, hu⟩ | ⟨a, b, e⟩
    · exact .inl ⟨c :: u, x, y, by rw [e]; rfl, ep, fun z => by omega⟩
    · exact .inr ⟨c :: a, b, by rw [e]; rfl⟩
theorem spl_infix {s l p : List Nat} (h : p ∈ TL.spl s 0 [] l) : ∃ a b, l = a ++ p ++ b := by
  rcases spl_part l 0 [] p h with ⟨u, x, y, e, ep, _⟩ | r
  · rw [List.nil_append] at ep
    subst ep
    exact ⟨u, y, e⟩
  · exact r
theorem spl_len {s : List Nat} : ∀ (l : List Nat) (k : Nat) (acc : List Nat), (TL.spl s k acc l).length ≤ l.length + 1
  | [], k, acc => by rw [TL.spl_nil]; simp
  | c :: r, 0, acc => by
    show (if TL.pre s (c :: r) = true then acc :: TL.spl s (s.length - 1) [] r else TL.spl s 0 (acc ++ [c]) r).length ≤ _
    split
    · have := spl_len (s := s) r (s.length - 1) []
      simp
      omega
    · have := spl_len (s := s) r 0 (acc ++ [c])
      simp
      omega
  | c :: r, k + 1, acc => by
    have := spl_len (s := s) r k acc
    show (TL.spl s k acc r).length ≤ _
    simp
    omega
/-- what may be read: plain signs, not too long, no long run of digits -/
structure Good (l : List Nat) : Prop where
  asc : ∀ c ∈ l, c < 128
  len : l.length ≤ 5000
  db : DB 500 l
theorem Good.part {a m b : List Nat} (h : Good (a ++ m ++ b)) : Good m :=
  ⟨fun c hc => h.asc c (by simp [hc]), by have := h.len; simp at this; omega, h.db.part⟩
theorem Good.spl {s l p : List Nat} (h : Good l) (hp : p ∈ TL.spl s 0 [] l) : Good p := by
  obtain ⟨a, b, e⟩ := spl_infix hp
  rw [e] at h
  exact h.part
theorem Good.drop {l : List Nat} (h : Good l) (n : Nat) : Good (l.drop n) := by
  have e : l = l.take n ++ l.drop n ++ [] := by simp
  rw [e] at h
  exact h.part
end M81
namespace K81
open PySem PySem.Spec PyProof.Rows L2 JL
def topS (i : Nat) : Stmt := PySem.Challenge.pw_whichran_k81_whole_texts_of_numbers_rows.main.body.getD i (.Pass ⟨0, 0, 0, 0⟩)
abbrev s_RanError : Stmt := topS 1
abbrev s_InvalidFraction : Stmt := topS 2
abbrev s_InvalidRow : Stmt := topS 3
abbrev s_InvalidSpell : Stmt := topS 4
abbrev s_InvalidCourse : Stmt := topS 5
abbrev s_InvalidReadings : Stmt := topS 6
abbrev s_ParseError : Stmt := topS 7
abbrev s_TooMany : Stmt := topS 8
abbrev s_is_integer : Stmt := topS 13
theorem sc_is_integer : FnScope ["value"] ["value"] (defScope s_is_integer) := ⟨rfl, rfl, rfl, by decide +kernel, rfl, by decide +kernel, by decide +kernel⟩
def c_is_integer : List CS := [.ret (.and (.isi (.var 0) .int) (.not (.isi (.var 0) .bool)))]
theorem cc_is_integer : compB ["value"] 60 (defScope s_is_integer) (defBody s_is_integer) = some c_is_integer := by kernel_rfl
abbrev s_is_name : Stmt := topS 14
theorem sc_is_name : FnScope ["value", "sign"] ["value"] (defScope s_is_name) := ⟨rfl, rfl, rfl, by decide +kernel, rfl, by decide +kernel, by decide +kernel⟩
def c_is_name : List CS := [.iff (.or (.not (.isi (.var 0) .str)) (.or (.not (.chain .LtE .LtE (.lit (.int 1)) (.bi .len [.var 0]) (.glob "MAX_LETTERS"))) (.cmp .NotIn (.idx (.var 0) (.lit (.int 0))) (.glob "LETTERS")))) [.ret (.lit (.bool false))] [], .ret (.bi .all [.comp (.cmp .In (.var 1) (.glob "SIGNS")) (.one 1) (.var 0) (.lit (.bool true))])]
theorem cc_is_name : compB ["value", "sign"] 60 (defScope s_is_name) (defBody s_is_name) = some c_is_name := by kernel_rfl
abbrev s_common_divisor : Stmt := topS 15
theorem sc_common_divisor : FnScope ["one", "other"] ["one", "other"] (defScope s_common_divisor) := ⟨rfl, rfl, rfl, by decide +kernel, rfl, by decide +kernel, by decide +kernel⟩
def c_common_divisor : List CS := [.par 0 1 (.bi .abs [.var 0]) (.bi .abs [.var 1]), .whl (.cmp .Gt (.var 1) (.lit (.int 0))) [.par 0 1 (.var 1) (.bin .Mod (.var 0) (.var 1))], .ret (.var 0)]
theorem cc_common_divisor : compB ["one", "other"] 60 (defScope s_common_divisor) (defBody s_common_divisor) = some c_common_divisor := by kernel_rfl
abbrev s_is_number : Stmt := topS 16
theorem sc_is_number : FnScope ["value", "one"] ["value"] (defScope s_is_number) := ⟨rfl, rfl, rfl, by decide +kernel, rfl, by decide +kernel, by decide +kernel⟩
def c_is_number : List CS := [.iff (.or (.not (.isi (.var 0) .tuple)) (.or (.cmp .NotEq (.bi .len [.var 0]) (.lit (.int 2))) (.not (.bi .all [.comp (.own "is_integer" [.var 1]) (.one 1) (.var 0) (.lit (.bool true))])))) [.ret (.lit (.bool false))] [], .ret (.and (.cmp .GtE (.idx (.var 0) (.lit (.int 1))) (.lit (.int 1))) (.cmp .Eq (.own "common_divisor" [.idx (.var 0) (.lit (.int 0)), .idx (.var 0) (.lit (.int 1))]) (.lit (.int 1))))]
theorem cc_is_number : compB ["value", "one"] 60 (defScope s_is_number) (defBody s_is_number) = some c_is_number := by kernel_rfl
abbrev s_require_number : Stmt := topS 17
theorem sc_require_number : FnScope ["value"] ["value"] (defScope s_require_number) := ⟨rfl, rfl, rfl, by decide +kernel, rfl, by decide +kernel, by decide +kernel⟩
def c_require_number : List CS := [.iff (.not (.own "is_number" [.var 0])) [.rais] []]
theorem cc_require_number : compB ["value"] 60 (defScope s_require_number) (defBody s_require_number) = some c_require_number := by kernel_rfl
abbrev s_is_plain_row : Stmt := topS 19
theorem sc_is_plain_row : FnScope ["width", "value", "one"] ["width", "value"] (defScope s_is_plain_row) := ⟨rfl, rfl, rfl, by decide +kernel, rfl, by decide +kernel, by decide +kernel⟩
def c_is_plain_row : List CS := [.ret (.and (.isi (.var 1) .tuple) (.and (.cmp .Eq (.bi .len [.var 1]) (.var 0)) (.bi .all [.comp (.own "is_number" [.var 2]) (.one 2) (.var 1) (.lit (.bool true))])))]
theorem cc_is_plain_row : compB ["width", "value", "one"] 60 (defScope s_is_plain_row) (defBody s_is_plain_row) = some c_is_plain_row := by kernel_rfl
abbrev s_require_text : Stmt := topS 30
theorem sc_require_text : FnScope ["text"] ["text"] (defScope s_require_text) := ⟨rfl, rfl, rfl, by decide +kernel, rfl, by decide +kernel, by decide +kernel⟩
def c_require_text : List CS := [.iff (.cmp .Gt (.bi .len [.var 0]) (.glob "MAX_TEXT")) [.rais] [], .ret (.var 0)]
theorem cc_require_text : compB ["text"] 60 (defScope s_require_text) (defBody s_require_text) = some c_require_text := by kernel_rfl
abbrev s_require_sizes : Stmt := topS 31
theorem sc_require_sizes : FnScope ["rows", "row", "top", "bottom"] ["rows"] (defScope s_require_sizes) := ⟨rfl, rfl, rfl, by decide +kernel, rfl, by decide +kernel, by decide +kernel⟩
def c_require_sizes : List CS := [.for_ (.one 1) (.var 0) [.iff (.bi .any [.comp (.or (.cmp .GtE (.bi .abs [.var 2]) (.glob "MOST_WRITTEN")) (.cmp .GtE (.var 3) (.glob "MOST_WRITTEN"))) (.two 2 3) (.var 1) (.lit (.bool true))]) [.rais] []]]
theorem cc_require_sizes : compB ["rows", "row", "top", "bottom"] 60 (defScope s_require_sizes) (defBody s_require_sizes) = some c_require_sizes := by kernel_rfl
abbrev s_number_text : Stmt := topS 32
theorem sc_number_text : FnScope ["number"] ["number"] (defScope s_number_text) := ⟨rfl, rfl, rfl, by decide +kernel, rfl, by decide +kernel, by decide +kernel⟩
def c_number_text : List CS := [.ret (.ife (.cmp .Eq (.idx (.var 0) (.lit (.int 1))) (.lit (.int 1))) (.bi .str [.idx (.var 0) (.lit (.int 0))]) (.fstr [.idx (.var 0) (.lit (.int 0)), .lit (.str "/"), .idx (.var 0) (.lit (.int 1))]))]
theorem cc_number_text : compB ["number"] 60 (defScope s_number_text) (defBody s_number_text) = some c_number_text := by kernel_rfl
abbrev s_row_text : Stmt := topS 33
theorem sc_row_text : FnScope ["row", "number"] ["row"] (defScope s_row_text) := ⟨rfl, rfl, rfl, by decide +kernel, rfl, by decide +kernel, by decide +kernel⟩
def c_row_text : List CS := [.ret (.ife (.cmp .Eq (.var 0) (.tup [])) (.glob "NONE") (.join (.lit (.str " ")) (.comp (.own "number_text" [.var 1]) (.one 1) (.var 0) (.lit (.bool true)))))]
theorem cc_row_text : compB ["row", "number"] 60 (defScope s_row_text) (defBody s_row_text) = some c_row_text := by kernel_rfl
abbrev s_rows_text : Stmt := topS 34
theorem sc_rows_text : FnScope ["rows", "word", "row"] ["rows", "word"] (defScope s_rows_text) := ⟨rfl, rfl, rfl, by decide +kernel, rfl, by decide +kernel, by decide +kernel⟩
def c_rows_text : List CS := [.ret (.ife (.cmp .Eq (.var 0) (.tup [])) (.var 1) (.join (.glob "COMMA") (.comp (.own "row_text" [.var 2]) (.one 2) (.var 0) (.lit (.bool true)))))]
theorem cc_rows_text : compB ["rows", "word", "row"] 60 (defScope s_rows_text) (defBody s_rows_text) = some c_rows_text := by kernel_rfl
abbrev s_format_number : Stmt := topS 35
theorem sc_format_number : FnScope ["value"] ["value"] (defScope s_format_number) := ⟨rfl, rfl, rfl, by decide +kernel, rfl, by decide +kernel, by decide +kernel⟩
def c_format_number : List CS := [.drop (.own "require_number" [.var 0]), .drop (.own "require_sizes" [.lst [.tup [.var 0]]]), .ret (.own "require_text" [.own "number_text" [.var 0]])]
theorem cc_format_number : compB ["value"] 60 (defScope s_format_number) (defBody s_format_number) = some c_format_number := by kernel_rfl
abbrev s_is_any_row : Stmt := topS 36
theorem sc_is_any_row : FnScope ["value"] ["value"] (defScope s_is_any_row) := ⟨rfl, rfl, rfl, by decide +kernel, rfl, by decide +kernel, by decide +kernel⟩
def c_is_any_row : List CS := [.ret (.and (.isi (.var 0) .tuple) (.own "is_plain_row" [.bi .len [.var 0], .var 0]))]
theorem cc_is_any_row : compB ["value"] 60 (defScope s_is_any_row) (defBody s_is_any_row) = some c_is_any_row := by kernel_rfl
abbrev s_are_any_rows : Stmt := topS 37
theorem sc_are_any_rows : FnScope ["value", "row"] ["value"] (defScope s_are_any_rows) := ⟨rfl, rfl, rfl, by decide +kernel, rfl, by decide +kernel, by decide +kernel⟩
def c_are_any_rows : List CS := [.iff (.or (.not (.isi (.var 0) .tuple)) (.not (.bi .all [.comp (.own "is_any_row" [.var 1]) (.one 1) (.var 0) (.lit (.bool true))]))) [.ret (.lit (.bool false))] [], .ret (.bi .all [.comp (.cmp .Eq (.bi .len [.var 1]) (.bi .len [.idx (.var 0) (.lit (.int 0))])) (.one 1) (.var 0) (.lit (.bool true))])]
theorem cc_are_any_rows : compB ["value", "row"] 60 (defScope s_are_any_rows) (defBody s_are_any_rows) = some c_are_any_rows := by kernel_rfl
abbrev s_format_row : Stmt := topS 38
theorem sc_format_row : FnScope ["value"] ["value"] (defScope s_format_row) := ⟨rfl, rfl, rfl, by decide +kernel, rfl, by decide +kernel, by decide +kernel⟩
def c_format_row : List CS := [.iff (.not (.own "is_any_row" [.var 0])) [.rais] [], .drop (.own "require_sizes" [.lst [.var 0]]), .ret (.own "require_text" [.own "row_text" [.var 0]])]
theorem cc_format_row : compB ["value"] 60 (defScope s_format_row) (defBody s_format_row) = some c_format_row := by kernel_rfl
abbrev s_spell_text : Stmt := topS 39
theorem sc_spell_text : FnScope ["spell"] ["spell"] (defScope s_spell_text) := ⟨rfl, rfl, rfl, by decide +kernel, rfl, by decide +kernel, by decide +kernel⟩
def c_spell_text : List CS := [.ret (.ife (.cmp .Eq (.var 0) (.tup [])) (.glob "NONE") (.join (.lit (.str " ")) (.var 0)))]
theorem cc_spell_text : compB ["spell"] 60 (defScope s_spell_text) (defBody s_spell_text) = some c_spell_text := by kernel_rfl
abbrev s_format_spell : Stmt := topS 40
theorem sc_format_spell : FnScope ["value", "name"] ["value"] (defScope s_format_spell) := ⟨rfl, rfl, rfl, by decide +kernel, rfl, by decide +kernel, by decide +kernel⟩
def c_format_spell : List CS := [.iff (.or (.not (.isi (.var 0) .tuple)) (.or (.not (.bi .all [.comp (.own "is_name" [.var 1]) (.one 1) (.var 0) (.lit (.bool true))])) (.cmp .Eq (.var 0) (.tup [.glob "NONE"])))) [.rais] [], .ret (.own "require_text" [.own "spell_text" [.var 0]])]
theorem cc_format_spell : compB ["value", "name"] 60 (defScope s_format_spell) (defBody s_format_spell) = some c_format_spell := by kernel_rfl
abbrev s_format_course : Stmt := topS 41
theorem sc_format_course : FnScope ["value"] ["value"] (defScope s_format_course) := ⟨rfl, rfl, rfl, by decide +kernel, rfl, by decide +kernel, by decide +kernel⟩
def c_format_course : List CS := [.iff (.not (.own "are_any_rows" [.var 0])) [.rais] [], .drop (.own "require_sizes" [.var 0]), .ret (.own "require_text" [.own "rows_text" [.var 0, .glob "REST"]])]
theorem cc_format_course : compB ["value"] 60 (defScope s_format_course) (defBody s_format_course) = some c_format_course := by kernel_rfl
abbrev s_format_readings : Stmt := topS 42
theorem sc_format_readings : FnScope ["value"] ["value"] (defScope s_format_readings) := ⟨rfl, rfl, rfl, by decide +kernel, rfl, by decide +kernel, by decide +kernel⟩
def c_format_readings : List CS := [.iff (.not (.own "are_any_rows" [.var 0])) [.rais] [], .drop (.own "require_sizes" [.var 0]), .ret (.own "require_text" [.own "rows_text" [.var 0, .glob "NOTHING"]])]
theorem cc_format_readings : compB ["value"] 60 (defScope s_format_readings) (defBody s_format_readings) = some c_format_readings := by kernel_rfl
abbrev s_whole_in : Stmt := topS 43
theorem sc_whole_in : FnScope ["word", "sign"] ["word"] (defScope s_whole_in) := ⟨rfl, rfl, rfl, by decide +kernel, rfl, by decide +kernel, by decide +kernel⟩
def c_whole_in : List CS := [.iff (.or (.cmp .Eq (.var 0) (.lit (.str ""))) (.or (.bi .any [.comp (.cmp .NotIn (.var 1) (.glob "DIGITS")) (.one 1) (.var 0) (.lit (.bool true))]) (.and (.cmp .Eq (.idx (.var 0) (.lit (.int 0))) (.lit (.str "0"))) (.cmp .NotEq (.var 0) (.lit (.str "0")))))) [.ret (.lit .none)] [], .ret (.ife (.cmp .LtE (.bi .len [.var 0]) (.glob "MAX_DIGITS")) (.bi .int [.var 0]) (.lit .none))]
theorem cc_whole_in : compB ["word", "sign"] 60 (defScope s_whole_in) (defBody s_whole_in) = some c_whole_in := by kernel_rfl
abbrev s_number_in : Stmt := topS 44
theorem sc_number_in : FnScope ["word", "parts", "numbers", "part", "top", "found"] ["word"] (defScope s_number_in) := ⟨rfl, rfl, rfl, by decide +kernel, rfl, by decide +kernel, by decide +kernel⟩
def c_number_in : List CS := [.set 1 (.split (.ife (.cmp .Eq (.slc (.var 0) false (.lit .none) true (.lit (.int 1))) (.lit (.str "-"))) (.slc (.var 0) true (.lit (.int 1)) false (.lit .none)) (.var 0)) (.lit (.str "/"))), .set 2 (.comp (.own "whole_in" [.var 3]) (.one 3) (.var 1) (.lit (.bool true))), .iff (.or (.cmp .Gt (.bi .len [.var 2]) (.lit (.int 2))) (.cmp .In (.lit .none) (.var 2))) [.ret (.lit .none)] [], .set 4 (.ife (.cmp .Eq (.slc (.var 0) false (.lit .none) true (.lit (.int 1))) (.lit (.str "-"))) (.bin .Sub (.lit (.int 0)) (.idx (.var 2) (.lit (.int 0)))) (.idx (.var 2) (.lit (.int 0)))), .set 5 (.tup [.var 4, .ife (.cmp .Eq (.bi .len [.var 2]) (.lit (.int 1))) (.lit (.int 1)) (.idx (.var 2) (.lit (.int 1)))]), .ret (.ife (.and (.own "is_number" [.var 5]) (.cmp .Eq (.own "number_text" [.var 5]) (.var 0))) (.var 5) (.lit .none))]
theorem cc_number_in : compB ["word", "parts", "numbers", "part", "top", "found"] 60 (defScope s_number_in) (defBody s_number_in) = some c_number_in := by kernel_rfl
abbrev s_row_in : Stmt := topS 45
theorem sc_row_in : FnScope ["text", "numbers", "word"] ["text"] (defScope s_row_in) := ⟨rfl, rfl, rfl, by decide +kernel, rfl, by decide +kernel, by decide +kernel⟩
def c_row_in : List CS := [.iff (.cmp .Eq (.var 0) (.glob "NONE")) [.ret (.tup [])] [], .set 1 (.comp (.own "number_in" [.var 2]) (.one 2) (.split (.var 0) (.lit (.str " "))) (.lit (.bool true))), .ret (.ife (.cmp .In (.lit .none) (.var 1)) (.lit .none) (.bi .tuple [.var 1]))]
theorem cc_row_in : compB ["text", "numbers", "word"] 60 (defScope s_row_in) (defBody s_row_in) = some c_row_in := by kernel_rfl
abbrev s_spell_in : Stmt := topS 46
theorem sc_spell_in : FnScope ["text", "names", "name"] ["text"] (defScope s_spell_in) := ⟨rfl, rfl, rfl, by decide +kernel, rfl, by decide +kernel, by decide +kernel⟩
def c_spell_in : List CS := [.iff (.cmp .Eq (.var 0) (.glob "NONE")) [.ret (.tup [])] [], .set 1 (.bi .tuple [.split (.var 0) (.lit (.str " "))]), .ret (.ife (.bi .all [.comp (.own "is_name" [.var 2]) (.one 2) (.var 1) (.lit (.bool true))]) (.var 1) (.lit .none))]
theorem cc_spell_in : compB ["text", "names", "name"] 60 (defScope s_spell_in) (defBody s_spell_in) = some c_spell_in := by kernel_rfl
abbrev s_rows_in : Stmt := topS 47
theorem sc_rows_in : FnScope ["text", "word", "rows", "part", "row"] ["text", "word"] (defScope s_rows_in) := ⟨rfl, rfl, rfl, by decide +kernel, rfl, by decide +kernel, by decide +kernel⟩
def c_rows_in : List CS := [.iff (.cmp .Eq (.var 0) (.var 1)) [.ret (.tup [])] [], .set 2 (.bi .tuple [.comp (.own "row_in" [.var 3]) (.one 3) (.split (.var 0) (.glob "COMMA")) (.lit (.bool true))]), .ret (.ife (.and (.cmp .NotIn (.lit .none) (.var 2)) (.bi .all [.comp (.cmp .Eq (.bi .len [.var 4]) (.bi .len [.idx (.var 2) (.lit (.int 0))])) (.one 4) (.var 2) (.lit (.bool true))])) (.var 2) (.lit .none))]
theorem cc_rows_in : compB ["text", "word", "rows", "part", "row"] 60 (defScope s_rows_in) (defBody s_rows_in) = some c_rows_in := by kernel_rfl
abbrev s_course_in : Stmt := topS 48
theorem sc_course_in : FnScope ["text"] ["text"] (defScope s_course_in) := ⟨rfl, rfl, rfl, by decide +kernel, rfl, by decide +kernel, by decide +kernel⟩
def c_course_in : List CS := [.ret (.own "rows_in" [.var 0, .glob "REST"])]
theorem cc_course_in : compB ["text"] 60 (defScope s_course_in) (defBody s_course_in) = some c_course_in := by kernel_rfl
abbrev s_readings_in : Stmt := topS 49
theorem sc_readings_in : FnScope ["text"] ["text"] (defScope s_readings_in) := ⟨rfl, rfl, rfl, by decide +kernel, rfl, by decide +kernel, by decide +kernel⟩
def c_readings_in : List CS := [.ret (.own "rows_in" [.var 0, .glob "NOTHING"])]
theorem cc_readings_in : compB ["text"] 60 (defScope s_readings_in) (defBody s_readings_in) = some c_readings_in := by kernel_rfl
abbrev s_lines_of : Stmt := topS 50
theorem sc_lines_of : FnScope ["text"] ["text"] (defScope s_lines_of) := ⟨rfl, rfl, rfl, by decide +kernel, rfl, by decide +kernel, by decide +kernel⟩
def c_lines_of : List CS := [.iff (.not (.isi (.var 0) .str)) [.rais] [], .ret (.split (.var 0) (.glob "LINE_END"))]
theorem cc_lines_of : compB ["text"] 60 (defScope s_lines_of) (defBody s_lines_of) = some c_lines_of := by kernel_rfl
abbrev s_one_line : Stmt := topS 51
theorem sc_one_line : FnScope ["text", "read", "lines", "found"] ["text", "read"] (defScope s_one_line) := ⟨rfl, rfl, rfl, by decide +kernel, rfl, by decide +kernel, by decide +kernel⟩
-- one_line: not taken (local call)
abbrev s_parse_number : Stmt := topS 52
theorem sc_parse_number : FnScope ["text"] ["text"] (defScope s_parse_number) := ⟨rfl, rfl, rfl, by decide +kernel, rfl, by decide +kernel, by decide +kernel⟩
def c_parse_number : List CS := [.ret (.own "one_line" [.var 0, .glob "number_in"])]
theorem cc_parse_number : compB ["text"] 60 (defScope s_parse_number) (defBody s_parse_number) = some c_parse_number := by kernel_rfl
abbrev s_parse_row : Stmt := topS 53
theorem sc_parse_row : FnScope ["text"] ["text"] (defScope s_parse_row) := ⟨rfl, rfl, rfl, by decide +kernel, rfl, by decide +kernel, by decide +kernel⟩
def c_parse_row : List CS := [.ret (.own "one_line" [.var 0, .glob "row_in"])]
theorem cc_parse_row : compB ["text"] 60 (defScope s_parse_row) (defBody s_parse_row) = some c_parse_row := by kernel_rfl
abbrev s_parse_spell : Stmt := topS 54
theorem sc_parse_spell : FnScope ["text"] ["text"] (defScope s_parse_spell) := ⟨rfl, rfl, rfl, by decide +kernel, rfl, by decide +kernel, by decide +kernel⟩
def c_parse_spell : List CS := [.ret (.own "one_line" [.var 0, .glob "spell_in"])]
theorem cc_parse_spell : compB ["text"] 60 (defScope s_parse_spell) (defBody s_parse_spell) = some c_parse_spell := by kernel_rfl
abbrev s_parse_course : Stmt := topS 55
theorem sc_parse_course : FnScope ["text"] ["text"] (defScope s_parse_course) := ⟨rfl, rfl, rfl, by decide +kernel, rfl, by decide +kernel, by decide +kernel⟩
def c_parse_course : List CS := [.ret (.own "one_line" [.var 0, .glob "course_in"])]
theorem cc_parse_course : compB ["text"] 60 (defScope s_parse_course) (defBody s_parse_course) = some c_parse_course := by kernel_rfl
abbrev s_parse_readings : Stmt := topS 56
theorem sc_parse_readings : FnScope ["text"] ["text"] (defScope s_parse_readings) := ⟨rfl, rfl, rfl, by decide +kernel, rfl, by decide +kernel, by decide +kernel⟩
def c_parse_readings : List CS := [.ret (.own "one_line" [.var 0, .glob "readings_in"])]
theorem cc_parse_readings : compB ["text"] 60 (defScope s_parse_readings) (defBody s_parse_readings) = some c_parse_readings := by kernel_rfl
abbrev s_law_dice : Stmt := topS 58
theorem sc_law_dice : FnScope ["script", "spot", "cell", "great", "seed"] ["script", "spot"] (defScope s_law_dice) := ⟨rfl, rfl, rfl, by decide +kernel, rfl, by decide +kernel, by decide +kernel⟩
def c_law_dice : List CS := [.set 2 (.ife (.cmp .Lt (.var 1) (.bi .len [.var 0])) (.bi .int [.idx (.var 0) (.var 1)]) (.bin .Add (.bin .Mult (.lit (.int 131)) (.var 1)) (.lit (.int 37)))), .set 3 (.bin .Mod (.bi .int [.bi .abs [.var 2]]) (.bin .Pow (.bin .Pow (.lit (.int 10)) (.lit (.int 53))) (.lit (.int 6)))), .set 4 (.bin .Add (.bin .Add (.bin .Add (.bin .Mult (.bin .Mod (.var 3) (.lit (.int 2305843009213693907))) (.lit (.int 73))) (.bin .Mult (.lit (.int 619)) (.var 1))) (.bin .Mult (.lit (.int 41)) (.bi .int [.cmp .Lt (.var 2) (.lit (.int 0))]))) (.lit (.int 17))), .ret (.lst [.bi .max2 [.lit (.int 0), .bin .Sub (.var 3) (.bin .Pow (.lit (.int 10)) (.lit (.int 16)))], .var 4, .lit (.int 0)])]
theorem cc_law_dice : compB ["script", "spot", "cell", "great", "seed"] 60 (defScope s_law_dice) (defBody s_law_dice) = some c_law_dice := by kernel_rfl
abbrev s_law_roll : Stmt := topS 59
theorem sc_law_roll : FnScope ["dice", "total", "found", "one", "two"] ["dice", "total"] (defScope s_law_roll) := ⟨rfl, rfl, rfl, by decide +kernel, rfl, by decide +kernel, by decide +kernel⟩
-- law_roll: not taken (assign)
abbrev s_law_pick : Stmt := topS 60
theorem sc_law_pick : FnScope ["dice", "things"] ["dice", "things"] (defScope s_law_pick) := ⟨rfl, rfl, rfl, by decide +kernel, rfl, by decide +kernel, by decide +kernel⟩
def c_law_pick : List CS := [.ret (.idx (.var 1) (.own "_law_roll" [.var 0, .bi .len [.var 1]]))]
theorem cc_law_pick : compB ["dice", "things"] 60 (defScope s_law_pick) (defBody s_law_pick) = some c_law_pick := by kernel_rfl
abbrev s_law_fr : Stmt := topS 61
theorem sc_law_fr : FnScope ["top", "bottom", "one", "other", "sign"] ["top", "bottom"] (defScope s_law_fr) := ⟨rfl, rfl, rfl, by decide +kernel, rfl, by decide +kernel, by decide +kernel⟩
def c_law_fr : List CS := [.par 2 3 (.bi .abs [.var 0]) (.bi .abs [.var 1]), .whl (.cmp .Gt (.var 3) (.lit (.int 0))) [.par 2 3 (.var 3) (.bin .Mod (.var 2) (.var 3))], .set 4 (.ife (.cmp .Lt (.var 1) (.lit (.int 0))) (.neg (.lit (.int 1))) (.lit (.int 1))), .ret (.tup [.bin .FloorDiv (.bin .Mult (.var 4) (.var 0)) (.var 2), .bin .FloorDiv (.bin .Mult (.var 4) (.var 1)) (.var 2)])]
theorem cc_law_fr : compB ["top", "bottom", "one", "other", "sign"] 60 (defScope s_law_fr) (defBody s_law_fr) = some c_law_fr := by kernel_rfl
abbrev s_law_number_text : Stmt := topS 62
theorem sc_law_number_text : FnScope ["number"] ["number"] (defScope s_law_number_text) := ⟨rfl, rfl, rfl, by decide +kernel, rfl, by decide +kernel, by decide +kernel⟩
def c_law_number_text : List CS := [.ret (.ife (.cmp .Eq (.idx (.var 0) (.lit (.int 1))) (.lit (.int 1))) (.bi .str [.idx (.var 0) (.lit (.int 0))]) (.bin .Add (.bin .Add (.bi .str [.idx (.var 0) (.lit (.int 0))]) (.lit (.str "/"))) (.bi .str [.idx (.var 0) (.lit (.int 1))])))]
theorem cc_law_number_text : compB ["number"] 60 (defScope s_law_number_text) (defBody s_law_number_text) = some c_law_number_text := by kernel_rfl
abbrev s_law_row_text : Stmt := topS 63
theorem sc_law_row_text : FnScope ["row", "one"] ["row"] (defScope s_law_row_text) := ⟨rfl, rfl, rfl, by decide +kernel, rfl, by decide +kernel, by decide +kernel⟩
def c_law_row_text : List CS := [.ret (.ife (.cmp .NotEq (.var 0) (.tup [])) (.join (.lit (.str " ")) (.comp (.own "_law_number_text" [.var 1]) (.one 1) (.var 0) (.lit (.bool true)))) (.lit (.str "none")))]
theorem cc_law_row_text : compB ["row", "one"] 60 (defScope s_law_row_text) (defBody s_law_row_text) = some c_law_row_text := by kernel_rfl
abbrev s_law_read_whole : Stmt := topS 64
theorem sc_law_read_whole : FnScope ["text", "digits", "sign", "found"] ["text"] (defScope s_law_read_whole) := ⟨rfl, rfl, rfl, by decide +kernel, rfl, by decide +kernel, by decide +kernel⟩
def c_law_read_whole : List CS := [.set 1 (.ife (.cmp .Eq (.slc (.var 0) false (.lit .none) true (.lit (.int 1))) (.lit (.str "-"))) (.slc (.var 0) true (.lit (.int 1)) false (.lit .none)) (.var 0)), .iff (.or (.cmp .Eq (.var 1) (.lit (.str ""))) (.or (.cmp .Gt (.bi .len [.var 1]) (.lit (.int 4000))) (.cmp .NotEq (.comp (.lit (.int 1)) (.one 2) (.var 1) (.cmp .NotIn (.var 2) (.lit (.str "0123456789")))) (.lst [])))) [.ret (.lit .none)] [], .set 3 (.ife (.cmp .Eq (.slc (.var 0) false (.lit .none) true (.lit (.int 1))) (.lit (.str "-"))) (.bin .Sub (.lit (.int 0)) (.bi .int [.var 1])) (.bi .int [.var 1])), .ret (.ife (.cmp .Eq (.bi .str [.var 3]) (.var 0)) (.var 3) (.lit .none))]
theorem cc_law_read_whole : compB ["text", "digits", "sign", "found"] 60 (defScope s_law_read_whole) (defBody s_law_read_whole) = some c_law_read_whole := by kernel_rfl
abbrev s_law_read_number : Stmt := topS 65
theorem sc_law_read_number : FnScope ["text", "parts", "top", "bottom", "found"] ["text"] (defScope s_law_read_number) := ⟨rfl, rfl, rfl, by decide +kernel, rfl, by decide +kernel, by decide +kernel⟩
def c_law_read_number : List CS := [.set 1 (.split (.var 0) (.lit (.str "/"))), .par 2 3 (.own "_law_read_whole" [.idx (.var 1) (.lit (.int 0))]) (.ife (.cmp .Eq (.bi .len [.var 1]) (.lit (.int 2))) (.own "_law_read_whole" [.idx (.var 1) (.lit (.int 1))]) (.lit (.int 1))), .iff (.or (.cmp .Gt (.bi .len [.var 1]) (.lit (.int 2))) (.or (.cmp .Is (.var 2) (.lit .none)) (.or (.cmp .Is (.var 3) (.lit .none)) (.cmp .Lt (.var 3) (.lit (.int 1)))))) [.ret (.lit .none)] [], .set 4 (.own "_law_fr" [.var 2, .var 3]), .ret (.ife (.cmp .Eq (.own "_law_number_text" [.var 4]) (.var 0)) (.var 4) (.lit .none))]
theorem cc_law_read_number : compB ["text", "parts", "top", "bottom", "found"] 60 (defScope s_law_read_number) (defBody s_law_read_number) = some c_law_read_number := by kernel_rfl
abbrev s_law_read_row : Stmt := topS 66
theorem sc_law_read_row : FnScope ["text", "row", "part"] ["text"] (defScope s_law_read_row) := ⟨rfl, rfl, rfl, by decide +kernel, rfl, by decide +kernel, by decide +kernel⟩
def c_law_read_row : List CS := [.iff (.cmp .Eq (.var 0) (.lit (.str "none"))) [.ret (.tup [])] [], .set 1 (.bi .tuple [.comp (.own "_law_read_number" [.var 2]) (.one 2) (.split (.var 0) (.lit (.str " "))) (.lit (.bool true))]), .ret (.ife (.cmp .NotIn (.lit .none) (.var 1)) (.var 1) (.lit .none))]
theorem cc_law_read_row : compB ["text", "row", "part"] 60 (defScope s_law_read_row) (defBody s_law_read_row) = some c_law_read_row := by kernel_rfl
abbrev s_law_is_name : Stmt := topS 67
theorem sc_law_is_name : FnScope ["value", "sign"] ["value"] (defScope s_law_is_name) := ⟨rfl, rfl, rfl, by decide +kernel, rfl, by decide +kernel, by decide +kernel⟩
def c_law_is_name : List CS := [.iff (.or (.not (.chain .LtE .LtE (.lit (.int 1)) (.bi .len [.var 0]) (.lit (.int 12)))) (.not (.chain .LtE .LtE (.lit (.str "a")) (.idx (.var 0) (.lit (.int 0))) (.lit (.str "z"))))) [.ret (.lit (.bool false))] [], .ret (.cmp .Eq (.comp (.var 1) (.one 1) (.var 0) (.cmp .NotIn (.var 1) (.lit (.str "abcdefghijklmnopqrstuvwxyz0123456789.")))) (.lst []))]
theorem cc_law_is_name : compB ["value", "sign"] 60 (defScope s_law_is_name) (defBody s_law_is_name) = some c_law_is_name := by kernel_rfl
abbrev s_law_spot : Stmt := topS 68
theorem sc_law_spot : FnScope ["call", "error"] ["call"] (defScope s_law_spot) := ⟨rfl, rfl, rfl, by decide +kernel, rfl, by decide +kernel, by decide +kernel⟩
-- law_spot: not taken (Try)
abbrev s_law_spell_text : Stmt := topS 69
theorem sc_law_spell_text : FnScope ["spell"] ["spell"] (defScope s_law_spell_text) := ⟨rfl, rfl, rfl, by decide +kernel, rfl, by decide +kernel, by decide +kernel⟩
def c_law_spell_text : List CS := [.ret (.ife (.cmp .NotEq (.var 0) (.tup [])) (.join (.lit (.str " ")) (.var 0)) (.lit (.str "none")))]
theorem cc_law_spell_text : compB ["spell"] 60 (defScope s_law_spell_text) (defBody s_law_spell_text) = some c_law_spell_text := by kernel_rfl
abbrev s_law_read_spell : Stmt := topS 70
theorem sc_law_read_spell : FnScope ["text", "names", "name"] ["text"] (defScope s_law_read_spell) := ⟨rfl, rfl, rfl, by decide +kernel, rfl, by decide +kernel, by decide +kernel⟩
def c_law_read_spell : List CS := [.iff (.cmp .Eq (.var 0) (.lit (.str "none"))) [.ret (.tup [])] [], .set 1 (.bi .tuple [.split (.var 0) (.lit (.str " "))]), .ret (.ife (.cmp .Eq (.comp (.var 2) (.one 2) (.var 1) (.not (.own "_law_is_name" [.var 2]))) (.lst [])) (.var 1) (.lit .none))]
theorem cc_law_read_spell : compB ["text", "names", "name"] 60 (defScope s_law_read_spell) (defBody s_law_read_spell) = some c_law_read_spell := by kernel_rfl
abbrev s_law_rows_text : Stmt := topS 71
theorem sc_law_rows_text : FnScope ["rows", "word", "row"] ["rows", "word"] (defScope s_law_rows_text) := ⟨rfl, rfl, rfl, by decide +kernel, rfl, by decide +kernel, by decide +kernel⟩
def c_law_rows_text : List CS := [.ret (.ife (.cmp .NotEq (.var 0) (.tup [])) (.join (.lit (.str ", ")) (.comp (.own "_law_row_text" [.var 2]) (.one 2) (.var 0) (.lit (.bool true)))) (.var 1))]
theorem cc_law_rows_text : compB ["rows", "word", "row"] 60 (defScope s_law_rows_text) (defBody s_law_rows_text) = some c_law_rows_text := by kernel_rfl
abbrev s_law_read_rows : Stmt := topS 72
theorem sc_law_read_rows : FnScope ["text", "word", "rows", "part", "row"] ["text", "word"] (defScope s_law_read_rows) := ⟨rfl, rfl, rfl, by decide +kernel, rfl, by decide +kernel, by decide +kernel⟩
def c_law_read_rows : List CS := [.iff (.cmp .Eq (.var 0) (.var 1)) [.ret (.tup [])] [], .set 2 (.bi .tuple [.comp (.own "_law_read_row" [.var 3]) (.one 3) (.split (.var 0) (.lit (.str ", "))) (.lit (.bool true))]), .iff (.or (.cmp .In (.lit .none) (.var 2)) (.cmp .NotEq (.comp (.var 4) (.one 4) (.var 2) (.cmp .NotEq (.bi .len [.var 4]) (.bi .len [.idx (.var 2) (.lit (.int 0))]))) (.lst []))) [.ret (.lit .none)] [], .ret (.var 2)]
theorem cc_law_read_rows : compB ["text", "word", "rows", "part", "row"] 60 (defScope s_law_read_rows) (defBody s_law_read_rows) = some c_law_read_rows := by kernel_rfl
abbrev s_law_read_course : Stmt := topS 73
theorem sc_law_read_course : FnScope ["text"] ["text"] (defScope s_law_read_course) := ⟨rfl, rfl, rfl, by decide +kernel, rfl, by decide +kernel, by decide +kernel⟩
def c_law_read_course : List CS := [.ret (.own "_law_read_rows" [.var 0, .lit (.str "rest")])]
theorem cc_law_read_course : compB ["text"] 60 (defScope s_law_read_course) (defBody s_law_read_course) = some c_law_read_course := by kernel_rfl
abbrev s_law_read_readings : Stmt := topS 74
theorem sc_law_read_readings : FnScope ["text"] ["text"] (defScope s_law_read_readings) := ⟨rfl, rfl, rfl, by decide +kernel, rfl, by decide +kernel, by decide +kernel⟩
def c_law_read_readings : List CS := [.ret (.own "_law_read_rows" [.var 0, .lit (.str "nothing")])]
theorem cc_law_read_readings : compB ["text"] 60 (defScope s_law_read_readings) (defBody s_law_read_readings) = some c_law_read_readings := by kernel_rfl
abbrev s_law_bent : Stmt := topS 75
theorem sc_law_bent : FnScope ["dice", "text", "at", "signs", "sign", "ways"] ["dice", "text"] (defScope s_law_bent) := ⟨rfl, rfl, rfl, by decide +kernel, rfl, by decide +kernel, by decide +kernel⟩
-- law_bent: not taken (call)
abbrev s_law_due : Stmt := topS 76
theorem sc_law_due : FnScope ["read", "text", "lines"] ["read", "text"] (defScope s_law_due) := ⟨rfl, rfl, rfl, by decide +kernel, rfl, by decide +kernel, by decide +kernel⟩
-- law_due: not taken (local call)
abbrev s_law_right : Stmt := topS 77
theorem sc_law_right : FnScope ["dice", "some", "width", "course", "turn", "row", "at", "number", "names", "spell", "told", "due", "back", "calls", "call", "read", "text", "bent"] ["dice"] (defScope s_law_right) := ⟨rfl, rfl, rfl, by decide +kernel, rfl, by decide +kernel, by decide +kernel⟩
-- law_right: not taken (call)
abbrev s_law : Stmt := topS 78
theorem sc_law : FnScope ["script", "texts", "calls", "call", "read", "text", "spot", "dice", "turn"] ["script"] (defScope s_law) := ⟨rfl, rfl, rfl, by decide +kernel, rfl, by decide +kernel, by decide +kernel⟩
-- law: not taken (Lambda)
end K81
set_option maxHeartbeats 2000000
namespace PySem
namespace PEX
open PySem.W PySem.Calls PyProof.Rows PySem.HandSPX
/-! ### the text of ParseError.__init__ -/
def initSt : Stmt := (C8.clsBody (K81.topS 7)).getD 0 (.Pass ⟨0, 0, 0, 0⟩)
abbrev iA : Arguments := L2.defArgs initSt
abbrev iS : Scope := L2.defScope initSt
def mkB (p0 p1 p3 p4 p5 p6 p8 p9 p10 p11 p12 : Pos) : List Stmt :=
  [.Expr (.Call (.Attribute (.Call (.Name "super" p0) [] [] p1) "__init__" ⟨17, 8, 17, 24⟩) [.JoinedStr [.Constant (.str "line ") 0 p3, .FormattedValue (.Name "line" p4) (-1) none p5] p6] [] ⟨17, 8, 17, 40⟩) p8, .Assign [.Attribute (.Name "self" p9) "line" p10] (.Name "line" p11) p12]
theorem iB_is : ∃ p0 p1 p3 p4 p5 p6 p8 p9 p10 p11 p12, L2.defBody initSt = mkB p0 p1 p3 p4 p5 p6 p8 p9 p10 p11 p12 := ⟨_, _, _, _, _, _, _, _, _, _, _, rfl⟩
theorem iS_self : iS.names.lookup ("self" : Str) = some .local := by kernel_rfl
theorem iS_line : iS.names.lookup ("line" : Str) = some .local := by kernel_rfl
theorem iS_cls : iS.names.lookup ("__class__" : Str) = some .free := by kernel_rfl
theorem iS_sup : iS.names.lookup ("super" : Str) = some .globalImplicit := by kernel_rfl
theorem iS_cell : ∀ x ∈ iS.names, x.2 ≠ .cell := by decide +kernel
/-- what the written part says of ParseError, at C, and of its __init__, at fI -/
structure ParTxt (K : Frag) (mg : Str → Option Value) (prog : Program) (C fI : Addr) : Prop where
  gC : mg "ParseError" = some (.ref C)
  gS : mg "super" = none
  cls : ∃ nm q N bs bm sn sub ab col dd k0 k1 k2 k3 k5, K.lookup C = some (excClassObj nm q C N bs bm true sn sub ab col dd k0 k1 k2 k3 k5 "ValueError.__new__") ∧ refsVE bm = true ∧ alongIn K "__init__" bm = some (some (.builtin "ValueError.__init__"))
  sa : findIn K (.ref C) "__setattr__" = some (some (.builtin "object.__setattr__"))
  ga : findIn K (.ref C) "__getattribute__" = some (some (.builtin "BaseException.__getattribute__"))
  gg : findIn K (.ref C) "__getattr__" = some none
  noN : findIn K (.ref C) "line" = some none
  iC : findIn K (.ref C) "__init__" = some (some (.ref fI))
  tC : typeIn K (.ref fI) = some (.type "function")
  kC : keepIn K (.ref C) = true
  exC : subIn K (.ref C) (.type "BaseException") = some true
  veC : subIn K (.ref C) (.type "ValueError") = some true
  slf : mroIn K C (.ref C) = some true
  tyC : typeIn K (.ref C) = some (.type "type")
  hdC : hasDictIn K C = true
  opq : nsIn K cStatics "thirdparty.any" = some none
  te : exmOne K (.ref C) (.ref C) = some true
  top : (prog.main.scope.names.lookup ("super" : Str)).isSome = false
  fn : ∃ (oc : Value) (od : Option Addr) (doc pm : Value) (an : Option Addr) (ct : Value) (osl : Array (Option Value)) (cda cc : Addr) (ccl : Value) (cdd : Option Addr) (vs : Array Value) (ccs : Array (Option Value)) (file : Str) (tf : Tok) (cl : Value) (cld : Option Addr) (csl : Array (Option Value)) (p0 p1 p3 p4 p5 p6 p8 p9 p10 p11 p12 : Pos),
    K.lookup fI = some ⟨oc, od, .func (ksFn "__init__" "ParseError.__init__" iA (mkB p0 p1 p3 p4 p5 p6 p8 p9 p10 p11 p12) iS .none .none doc pm an (.ref cda) ct cc), osl⟩ ∧ codeIn K (.ref cda) "ParseError.__init__" = true ∧
    K.lookup cda = some ⟨ccl, cdd, .fields vs, ccs⟩ ∧ vs[2]? = some (.str file tf) ∧ ((prog.main.file : Str) == file) = true ∧ K.lookup cc = some ⟨cl, cld, .cell (some (.ref C)), csl⟩
theorem one_size (v : Value) : [v].length ≤ sizeLine := by
  rw [sizeLine_eq]
  exact (by decide : 1 ≤ 16777216)
theorem ldC {M : Model} {A : Around} {s : Shared} {name : Str} {scope : Scope} {L a : Addr} {cd : Value} {cc : Addr} {m : Str → Option Value} {x : Str} {pos : Pos} {v : Value} {Q : Value → Shared → Prop} {E : Value → Shared → Prop} (hn : s.heap.Ns L m) (hv : m x = some v) (hl : (ksEnv name scope L a cd cc).kindOf x = some .local) (hk : scope.kind = .function) (h : Q v s)
    (hd : (x == ("__debug__" : Str)) = false := by decide) : wpAny M A (eval (.Name x pos) (ksEnv name scope L a cd cc)) Q E s := wpAny_Name (wpAny_loadName_local hk hl hn hv h) hd
/-- what __init__ leaves of a fresh exception at x -/
structure InitEnd (h h' : Heap) (x C dx t1 : Addr) (v : Value) : Prop where
  keep : ∀ b o, b ≠ x → h.get? b = some o → h'.get? b = some o
  obj : h'.get? x = some { cls := .ref C, dict := some dx, data := .fields #[.ref t1, .none, .none, .none, .bool false, .none] }
  dbig : h.objs.size ≤ dx
  dne : dx ≠ x
  ns : h'.Ns1 dx (fun y => if y = "line" then some v else none)
/-- a made ParseError -/
structure OwnMade (h h' : Heap) (e C d : Addr) (v : Value) : Prop where
  keep : ∀ b o, h.get? b = some o → h'.get? b = some o
  new : h.objs.size ≤ e
  obj : ∃ oe vs, h'.get? e = some oe ∧ oe.cls = .ref C ∧ oe.dict = some d ∧ oe.data = .fields vs ∧ vs[1]? = some .none
  dbig : h.objs.size ≤ d
  dne : d ≠ e
  ns : h'.Ns1 d (fun y => if y = "line" then some v else none)
theorem mod_keeps {K : Frag} {mg : Str → Option Value} {h h' : Heap} (M : L2.Mod K mg h) (k : ∀ b o, h.get? b = some o → h'.get? b = some o) : L2.Mod K mg h' :=
  ⟨M.kin.keeps k, M.glob.keeps k, let ⟨mb, a, b⟩ := M.blt; ⟨mb, a.keeps k, b⟩, M.nolimit.keeps k⟩
section
variable {prog : Program} {w : World} {A : Around} {E : Value → Shared → Prop} {R : Result → Shared → Prop} {s : Shared} {K : Frag} {mg : Str → Option Value} {C fI : Addr}
theorem call_ve {u e t0 : Addr} {nm q : Str} {N : Addr} {bs bm : List Value} {sn : List Str} {sub : List Value} {ab : Bool} {col : Option Bool} {dd : Option Addr} {k0 k1 k2 k3 k5 : Option Value} {rest : List Value} {Q : Value → Shared → Prop}
    (hC : s.heap.get? C = some (excClassObj nm q C N bs bm true sn sub ab col dd k0 k1 k2 k3 k5 "ValueError.__new__")) (he : s.heap.get? e = some (excO C t0)) (hu : s.heap.get? u = some (kxs_mw "ValueError.__init__" e)) (hrest : rest.length ≤ sizeLine)
    (hq : ∀ h' t1, (∀ b o, b ≠ e → s.heap.get? b = some o → h'.get? b = some o) → h'.get? e = some (excO C t1) → Q .none { s with heap := h' }) :
    wpAny (model prog w) A (call (.ref u) rest) Q E s := by
  obtain ⟨hh, g, d, tk, os⟩ := s
  refine wpAny_call (codeAny_of_tree ?_)
  show wpAny _ A.in1 (callAny (.ref u) ⟨rest, []⟩) _ _ _
  simp only [callAny]
  refine wpAny_bind (wpAny_load hu ?_)
  simp only [kxs_mw, show (Value.type "method-wrapper" == Value.type "method" || Value.type "method-wrapper" == Value.type "builtin_function_or_method" || Value.type "method-wrapper" == Value.type "method-wrapper") = true by decide, if_true]
  refine KFB.if_so (by decide) ?_
  refine wpAny_bind (check_bound_init F.excBase_ValueError.toExcCallFacts hC he rfl ?_)
  refine wpAny_bind (wpAny_pure (wpAny_pure ?_))
  refine ⟨plainId_quiet F.excBase_ValueError.init.plain _, codeAny_builtin F.excBase_ValueError.initEntry ?_⟩
  exact exc_init_tree (cls := .ref C) (t0 := t0) (dv := none) (c2 := .none) (c3 := .none) (b4 := .bool false) he hrest fun h' k e' t' => hq h' hh.objs.size k e'
theorem drop_own (C : Addr) (l : List Value) : ((Value.ref C :: l).dropWhile (· != .ref C)).drop 1 = l := by
  simp [List.dropWhile_cons]
theorem par_init (T : ParTxt K mg prog C fI) {x t0 : Addr} {i : Int} {tv : Tok} (M : L2.Mod K mg s.heap) (hx : s.heap.get? x = some (excO C t0)) (hnx : K.lookup x = none) (hroom : A.depth < recursionLimit) (hi : i = 0 ∨ i = 1)
    (hq : ∀ h' tk dx t1, InitEnd s.heap h' x C dx t1 (.int i tv) → R (.ok (.ret .none)) { s with heap := h', toks := tk }) :
    codeAny (model prog w) A (.call (.ref fI) ⟨[.ref x, .int i tv], []⟩) R s := by
  obtain ⟨oc, od, doc, pm, an, ct, osl, cda, cc, ccl, cdd, vs, ccs, file, tf, cl, cld, csl, p0, p1, p3, p4, p5, p6, p8, p9, p10, p11, p12, ho, hcd, hcda, hvs, hfile, hcc⟩ := T.fn
  obtain ⟨nm, q, N, bs, bm, sn, sub, ab, col, dd, k0, k1, k2, k3, k5, hC, hbm, hal⟩ := T.cls
  have hcl : clsIn K C = some { name := nm, bases := bs, mro := .ref C :: bm, ns := N, qualname := q, hasDict := true, slotNames := sn, subclasses := sub, abstract := ab, collection := col, hasDel := false } := by unfold clsIn; rw [hC] <;> rfl
  have X : K.In s.heap := M.kin
  refine ks_codeAny_call_defAt (binds := [("self", .ref x), ("line", .int i tv)]) hroom (X _ _ ho) rfl M.nolimit (codeRec_of X hcd) rfl (BindsTo.of_eq (by first | rfl | with_unfolding_all rfl)) iS_cell (fun y hy => ?_) (fun h₁ hns hk₁ => ?_) rfl rfl rfl
  · simp only [List.mem_cons, List.not_mem_nil, or_false] at hy
    rcases hy with rfl | rfl
    · exact iS_self
    · exact iS_line
  have M₁ := mod_keeps M hk₁
  have X₁ := M₁.kin
  have hx₁ := hk₁ _ _ hx
  have hxL : s.heap.objs.size ≠ x := Nat.ne_of_gt (Heap.lt_size hx)
  obtain ⟨mb, hb1, hb2⟩ := M₁.blt
  have vself : (fun y : Str => ([("self", Value.ref x), ("line", .int i tv)] : List (Str × Value)).reverse.lookup y) "self" = some (.ref x) := by first | rfl | with_unfolding_all rfl | kernel_rfl
  have vline : (fun y : Str => ([("self", Value.ref x), ("line", .int i tv)] : List (Str × Value)).reverse.lookup y) "line" = some (.int i tv) := by first | rfl | with_unfolding_all rfl | kernel_rfl
  have IA : InstAt h₁ x (excO C t0) C none := ⟨hx₁, rfl, rfl, trivial⟩
  -- super().__init__(f'line {line}')
  refine ks_wpAt_execs_cons (ks_wpAt_Expr_any (ks_wpAt_MethodCall ?_))
  refine ks_wpAt_super_base (env := ksEnv "ParseError.__init__" iS s.heap.objs.size fI (.ref cda) cc) iS_sup iS_cls rfl rfl (X₁ _ _ ho) rfl rfl rfl (X₁ _ _ hcda) rfl hvs hfile T.top ?_
  refine ks_loadName_global rfl iS_sup (loadGlobal_builtin (env := ksEnv "ParseError.__init__" iS s.heap.objs.size fI (.ref cda) cc) M₁.glob T.gS hb1 ((hb2 _ (by decide +kernel)).trans PyProof.Rows.Boot.«super») ⟨rfl, ?_⟩)
  refine wpAny_loadName_free rfl iS_cls rfl ⟨_, X₁ _ _ hcc, rfl⟩ ?_
  refine wpAny_loadName_local rfl iS_self hns vself ?_
  refine ks_wpAny_isType_cls (X₁ _ _ hC) rfl ⟨rfl, ?_⟩
  refine ks_wpAny_call_super (X₁ _ _ hC) rfl hx₁ rfl (fun c e => by cases e) (looks_mroIn X₁ T.slf) (fun h₂ e₂ k₂ => ?_)
  have M₂ := mod_keeps M₁ k₂
  have X₂ := M₂.kin
  have hx₂ := k₂ _ _ hx₁
  have IA2 : InstAt h₂ x (excO C t0) C none := ⟨hx₂, rfl, rfl, trivial⟩
  refine kxs_getMethod kxs_ValueError e₂ (looks_opaque X₂ T.opq) (l₀ := .ref C :: bm) (fun A Q E s k q => wpAny_bind ((looks_clsIn X₂ hcl) A _ E s k (wpAny_pure q))) (drop_own C bm) X₂ hal (IA2.type.andThen (looks_subIn X₂ T.veC)) (ks_ne X₂ IA2 hcl) (by decide) ?_
  have k₃ : ∀ b o, h₂.get? b = some o → (h₂.push (kxs_mw "ValueError.__init__" x)).get? b = some o := fun b o e => Heap.get?_push_of_some _ e
  have hu : (h₂.push (kxs_mw "ValueError.__init__" x)).get? h₂.objs.size = some (kxs_mw "ValueError.__init__" x) := Heap.get?_push_at rfl rfl
  have k13 : ∀ b o, h₁.get? b = some o → (h₂.push (kxs_mw "ValueError.__init__" x)).get? b = some o := fun b o e => k₃ b o (k₂ b o e)
  have hns₃ := hns.keeps k13
  show wpAny _ _ (callWith _ (.ref h₂.objs.size) [] (backTo _ ((false, eval (.JoinedStr [.Constant (.str "line ") 0 p3, .FormattedValue (.Name "line" p4) (-1) none p5] p6) (ksEnv "ParseError.__init__" iS s.heap.objs.size fI (.ref cda) cc)) :: starEach [] (ksEnv "ParseError.__init__" iS s.heap.objs.size fI (.ref cda) cc))) []) _ _ _
  refine kxs_callWith (i := "ValueError.__init__") (x := x) rfl (evalArgs_plain (Calls.spliced_cons ?_))
  have sz : (Str.empty ++ ("line " : Str)).length ≤ sizeLine := by rw [sizeLine_eq]; decide +kernel
  have sz2 : (Str.empty ++ ("line " : Str) ++ ((toString i : String) : Str)).length ≤ sizeLine := by
    rw [sizeLine_eq]
    rcases hi with rfl | rfl <;> decide +kernel
  have hlog : i.natAbs.log2 < 1920 := by rcases hi with rfl | rfl <;> decide
  refine JoinedStr_many (pos := p6) (joinParts_cons (Calls.Constant_str ⟨sz, joinParts_cons (FormattedValue_plain (ldC hns₃ vline iS_line rfl (formatField_int_small hlog ⟨sz2, joinParts_nil ?_ sz2⟩)))⟩))
  refine Calls.spliced_nil ⟨hu, ?_⟩
  refine call_ve (t0 := t0) (k₃ _ _ (X₂ _ _ hC)) (k₃ _ _ hx₂) hu (one_size _) (fun h₄ t1 k₄ hx₄ => ?_)
  -- self.line = line
  have k14 : ∀ b o, b ≠ x → h₁.get? b = some o → h₄.get? b = some o := fun b o hb e => k₄ b o hb (k13 b o e)
  have hns₄ : h₄.Ns s.heap.objs.size fun y => ([("self", Value.ref x), ("line", .int i tv)] : List (Str × Value)).reverse.lookup y := by
    obtain ⟨o, es, ep, a, r⟩ := hns
    exact ⟨o, es, ep, k14 _ _ hxL a, r⟩
  have kin₄ : K.In h₄ := fun b o e => k14 b o (fun z => by rw [z, hnx] at e; cases e) (X₁ b o e)
  refine ks_wpAt_execs_cons (wpAt_of_wpAny (plainObj_wpAny_Assign_Attribute ?_))
  refine ldC (v := .int i tv) hns₄ vline iS_line rfl (ldC (v := .ref x) hns₄ vself iS_self rfl ?_)
  refine set_plain kin₄ (ox := excO C t1) (od := none) ⟨hx₄, rfl, rfl, trivial⟩ T.sa ?_
  refine exc_osa kin₄ hx₄ hcl (show refsVE (.ref C :: bm) = true from hbm) rfl T.noN (fun h₅ tk₅ dx k₅ dn dne hx₅ hn₅ => ?_)
  have keep : ∀ b o, b ≠ x → s.heap.get? b = some o → h₅.get? b = some o := fun b o hb e => k₅ b o hb (k14 b o hb (hk₁ b o e))
  have hle : s.heap.objs.size ≤ dx := by
    obtain ⟨o, es, ep, a, r⟩ := hns₄
    exact Nat.le_of_lt (Nat.lt_of_lt_of_le (Heap.lt_size a) dn)
  exact wpAt_of_wpAny (wpAny_execs_nil (hq h₅ tk₅ dx t1 ⟨keep, hx₅, hle, dne, hn₅⟩))
theorem par_made (T : ParTxt K mg prog C fI) {i : Int} {tv : Tok} (M : L2.Mod K mg s.heap) (hroom : A.depth + 1 < recursionLimit) (hi : i = 0 ∨ i = 1)
    (hq : ∀ h' tk e d, OwnMade s.heap h' e C d (.int i tv) → R (.ok (.ret (.ref e))) { s with heap := h', toks := tk }) :
    codeAny (model prog w) A (.call (.ref C) ⟨[.int i tv], []⟩) R s := by
  obtain ⟨nm, q, N, bs, bm, sn, sub, ab, col, dd, k0, k1, k2, k3, k5, hC, hbm, _⟩ := T.cls
  obtain ⟨hp, g, dr, tk, os⟩ := s
  have X : K.In hp := M.kin
  have k : ∀ b o, hp.get? b = some o → ((hp.push (kdv_tup [.int i tv])).push (excO C hp.objs.size)).get? b = some o := fun b o e => Heap.get?_push_of_some _ (Heap.get?_push_of_some _ e)
  have hget : ((hp.push (kdv_tup [.int i tv])).push (excO C hp.objs.size)).get? (hp.objs.size + 1) = some (excO C hp.objs.size) := by heap_get
  have hnx : K.lookup (hp.objs.size + 1) = none := by
    cases e : K.lookup (hp.objs.size + 1) with
    | none => rfl
    | some o =>
      have z : hp.get? (hp.objs.size + 1) = some o := X _ _ e
      exact absurd (Nat.lt_of_succ_lt (Heap.lt_size z)) (Nat.lt_irrefl _)
  refine call_own F.excBase_ValueError (fun X => refsVE_contains X bm hbm) (X _ _ hC) (looks_findIn X T.iC) (fun self => bind_fn X self T.tC) (one_size (.int i tv)) ?_
  refine par_init (s := ⟨(hp.push (kdv_tup [.int i tv])).push (excO C hp.objs.size), g, dr, tk, os⟩) T (mod_keeps M k) hget hnx ?_ hi fun h' tk' dx t1 ⟨k', hx, dn, dne, hns⟩ => ?_
  · show A.depth + 1 < recursionLimit
    exact hroom
  · have old : ∀ b o, hp.get? b = some o → h'.get? b = some o := fun b o e => k' b o (Nat.ne_of_lt (Nat.lt_succ_of_lt (Heap.lt_size e))) (k b o e)
    have z : hp.objs.size + 1 + 1 ≤ dx := by
      first
        | (simpa only [Heap.size_push] using dn)
        | exact dn
        | (have q := dn; rw [Heap.size_push, Heap.size_push] at q; exact q)
    exact ⟨rfl, hq h' tk' (hp.objs.size + 1) dx ⟨old, Nat.le_succ _, ⟨_, _, hx, rfl, rfl, rfl, rfl⟩, Nat.le_trans (Nat.le_trans (Nat.le_succ _) (Nat.le_succ _)) z, dne, hns⟩⟩
end
end PEX
end PySem
namespace L2
open PySem PySem.Spec PyProof.Rows
theorem relO_par {v : V} {v' : Value} (r : RelV v v') (f : Str) : RelO (List.lookup f [(("line" : Str), v)]) (if f = "line" then some v' else none) := by
  by_cases hw : f = "line"
  · subst hw
    rw [if_pos rfl]
    have q : List.lookup ("line" : Str) [(("line" : Str), v)] = some v := by simp [List.lookup]
    rw [q]
    exact r
  · rw [if_neg hw]
    have qw : (f == ("line" : Str)) = false := by simpa using hw
    have q2 : List.lookup f [(("line" : Str), v)] = none := by simp [List.lookup, qw]
    rw [q2]
    trivial
section
variable {X : Cx} {C fI : Addr}
/-- ParseError(e), e 0 or 1 -/
def tMkPar (C : Addr) (ta : TA) : St → Hp → XK → Prop := fun σ H Q => ta σ H fun vs H1 => ∃ i : Int, vs = [.int i] ∧ (i = 0 ∨ i = 1) ∧ ∀ d, H1 d = none → Q (.ref C) (some d) (upd H1 d (.xd [(("line" : Str), .int i)]))
theorem pmk_par {a : Expr} {ta : TA} {p pos : Pos} {k : Nat} (T : PySem.PEX.ParTxt X.K X.mg X.prog C fI) (hr : Room k X.A) (ha : PA X [a] ta) (hg : Gl X "ParseError" := by rfl)
    (he : starEach (a :: []) X.env = (false, eval a X.env) :: starEach [] X.env := by rfl) (hpl : (backTo pos (starEach [] X.env)).any (·.1) = false := by rfl) :
    PMk X (.Call (.Name "ParseError" p) [a] [] pos) (tMkPar C ta) := by
  intro pins s σ H Q I h
  refine wpAny_Call_Name_kw (ld_glob I hg T.gC ?_)
  refine PySem.W.callWith_K (h₀ := X.base) I.ok.mod.kin T.kC (thn (ha.run pos pins s σ H _ I h) fun us s1 hh => ?_) he hpl
  obtain ⟨vs, H1, I1, r1, i, ev, hi, q1⟩ := hh
  subst ev
  refine ⟨I1.kIn, ?_⟩
  cases r1 with
  | cons rv rn =>
    rename_i v' us'
    cases rn
    obtain ⟨tv, rfl⟩ := rv
    show wpAny _ _ (call (.ref C) [.int i tv]) _ _ _
    have hm := PySem.PEX.mod_keeps I1.mod I1.bk
    obtain ⟨hp, g, dr, tk, os⟩ := s1
    refine wpAny_call (PySem.PEX.par_made T hm (by have := hr.dp; omega) hi fun h' tk' e d M => ?_)
    show MkP X pins σ Q (.ref e) ⟨h', g, dr, tk', os⟩
    obtain ⟨oe, fv, hoe, hc, hd, hdat, h1⟩ := M.obj
    have hns := M.ns
    obtain ⟨G', g1, g2⟩ := restrict h' fun b => decide (b ≠ e)
    have gk : ∀ b, b ≠ e → G'.get? b = h'.get? b := fun b hb => g1 b (decide_eq_true hb)
    have ge : G'.get? e = none := g2 e (by simp)
    have old : ∀ b o, hp.get? b = some o → G'.get? b = some o := fun b o q => (gk b (Nat.ne_of_lt (Nat.lt_of_lt_of_le (Heap.lt_size q) M.new))).trans (M.keep b o q)
    have ob : ObjOk X.prog X.w (upd H1 d (.xd [(("line" : Str), .int i)])) G' d (.xd [(("line" : Str), .int i)]) :=
      ⟨_, hns.at (fun o q => (gk d M.dne).trans q), fun f => relO_par (v := .int i) (v' := .int i tv) ⟨tv, rfl⟩ f⟩
    have J : Inv X pins σ (upd H1 d (.xd [(("line" : Str), .int i)])) ⟨G', g, dr, tk', os⟩ := I1.laid (t' := tk') old M.dbig ob
    refine ⟨e, oe, fv, ⟨G', g, dr, tk', os⟩, _, .ref C, some d, rfl, J, fun b o q => ?_, ge, hoe, ⟨hc, hd⟩, hdat, h1, ?_, rfl, I1.bare, raises_own T.exC T.tyC, q1 d (I1.hok.fresh M.dbig)⟩
    · by_cases hb : b = e
      · have q' : G'.get? b = some o := q
        rw [hb, ge] at q'; cases q'
      · exact (gk b hb).symm.trans q
    · rw [upd_ne (Ne.symm M.dne)]
      exact I1.hok.fresh M.new
/-- raise ParseError(e) -/
def tRaisePar (C : Addr) (W : WX) (ta : TA) : TS := fun _ σ H => tMkPar C ta σ H fun cls d H' => W cls d σ H'
theorem ps_raisePar {a : Expr} {ta : TA} {W : WX} {p pos pos2 : Pos} {k : Nat} (hc : X.calm = true) (T : PySem.PEX.ParTxt X.K X.mg X.prog C fI) (hr : Room k X.A) (tk : Takes X W) (ha : PA X [a] ta) (hg : Gl X "ParseError" := by rfl)
    (he : starEach (a :: []) X.env = (false, eval a X.env) :: starEach [] X.env := by rfl) (hpl : (backTo pos (starEach [] X.env)).any (·.1) = false := by rfl) :
    PS X (.Raise (some (.Call (.Name "ParseError" p) [a] [] pos)) none pos2) (tRaisePar C W ta) := ps_raise hc tk (pmk_par T hr ha hg he hpl)
/-- error.line, error the exception that the suite holds (at a; its class cls, its dict d) -/
def tByPar (C : Addr) (a : Addr) (cls : Value) (d : Option Addr) (te : TE) : TE := fun σ H Q => te σ H fun x H1 => x = .ref a ∧ cls = .ref C ∧ ∃ (dd : Addr) (v : V), d = some dd ∧ H1 dd = some (.xd [(("line" : Str), v)]) ∧ Q v H1
theorem pe_byPar {a : Addr} {oe : Obj} {cls : Value} {d : Option Addr} {pn : List (Addr × Obj)} {e : Expr} {te : TE} {pos : Pos} (T : PySem.PEX.ParTxt X.K X.mg X.prog C fI) (hz : Zc cls d oe) (hf : ∃ vs, oe.data = .fields vs) (he : PE (X.suite a ((a, oe) :: pn)) e te)
    (hb : attributeBase e "line" X.env (eval e X.env) = eval e X.env := by rfl) :
    PE (X.suite a ((a, oe) :: pn)) (.Attribute e "line" pos) (tByPar C a cls d te) := by
  refine ⟨fun pins s σ H Q I h => ?_⟩
  refine attr_of hb (thn (he.run pins s σ H _ I h) fun u s1 hh => ?_)
  obtain ⟨x, H1, I1, rx, ex, ec, dd, v, ed, ea, q⟩ := hh
  subst ex
  obtain rfl : u = Value.ref a := rx
  subst ec
  subst ed
  obtain ⟨ha, _⟩ := I1.pin (a, oe) (List.mem_append_left _ List.mem_cons_self)
  obtain ⟨vs, hd⟩ := hf
  have hx : ObjOk X.prog X.w H1 s1.heap dd (.xd [(("line" : Str), v)]) := I1.hok dd _ ea
  obtain ⟨mA, hns, hr⟩ := hx
  obtain ⟨od, ho, hl⟩ := lookIn_ns hns
  have l : List.lookup ("line" : Str) [(("line" : Str), v)] = some v := by simp [List.lookup]
  obtain ⟨u, hu, ru⟩ := RelO.some_of (v := v) (o := mA "line") (by rw [← l]; exact hr "line")
  have J : PySem.W.InstAt s1.heap a oe C (some od) := ⟨ha, hz.1, by unfold PySem.W.notCls; rw [hd] <;> rfl, by rw [hz.2]; exact ho⟩
  exact HandSPX.exc_get I1.kIn J T.ga T.gg T.exC (PySem.W.findObj_own T.hdC T.noN rfl (by rw [hl, hu])) (handed_of ru) ⟨v, H1, I1.tok _, ru, q⟩
end
end L2
namespace K81
open PySem PySem.Spec PyProof.Rows L2 JL M81 SX
open TL (tl)
theorem l_and (p : Bool) (x : Option PyData) : andD (.bool p) x = if p = true then x else some (.bool false) := by cases p <;> rfl
theorem l_or (p : Bool) (x : Option PyData) : orD (.bool p) x = if p = true then some (.bool true) else x := by cases p <;> rfl
theorem l_not (p : Bool) : notD (.bool p) = some (.bool (!p)) := rfl
theorem l_neg (i : Int) : negD (.int i) = some (.int (-i)) := rfl
theorem l_if (p : Bool) (x y : Option PyData) : ifD (.bool p) x y = if p = true then x else y := by cases p <;> rfl
theorem l_ifO (p : Bool) (x y : Option Out) : ifO (.bool p) x y = if p = true then x else y := by cases p <;> rfl
theorem l_lt (i j : Int) : cmpD .Lt (.int i) (.int j) = some (decide (i < j)) := rfl
theorem l_le (i j : Int) : cmpD .LtE (.int i) (.int j) = some (decide (i ≤ j)) := rfl
theorem l_gt (i j : Int) : cmpD .Gt (.int i) (.int j) = some (decide (j < i)) := rfl
theorem l_ge (i j : Int) : cmpD .GtE (.int i) (.int j) = some (decide (j ≤ i)) := rfl
theorem l_eq {a b : PyData} (ha : SeqAt.shaped a = true) (hb : SeqAt.shaped b = true) : cmpD .Eq a b = some (PyData.eqv a b) := by
  show (if (SeqAt.shaped a && SeqAt.shaped b) = true then some (PyData.eqv a b) else none) = _
  rw [ha, hb]
  rfl
theorem l_ne {a b : PyData} (ha : SeqAt.shaped a = true) (hb : SeqAt.shaped b = true) : cmpD .NotEq a b = some (!PyData.eqv a b) := by
  show (if (SeqAt.shaped a && SeqAt.shaped b) = true then some (!PyData.eqv a b) else none) = _
  rw [ha, hb]
  rfl
theorem l_eqI (i j : Int) : cmpD .Eq (.int i) (.int j) = some (decide (i = j)) := by
  rw [l_eq rfl rfl]
  show some (i == j) = _
  rw [Bool.beq_eq_decide_eq]
theorem l_neI (i j : Int) : cmpD .NotEq (.int i) (.int j) = some (!decide (i = j)) := by
  rw [l_ne rfl rfl]
  show some (!(i == j)) = _
  rw [Bool.beq_eq_decide_eq]
theorem l_chainI (i j k : Int) : chainD .LtE .LtE (.int i) (.int j) (some (.int k)) = some (.bool (decide (i ≤ j) && decide (j ≤ k))) := by
  show (match cmpD .LtE (.int i) (.int j) with | some true => (some (PyData.int k)).bind fun z => (cmpD .LtE (.int j) z).map PyData.bool | some false => some (PyData.bool false) | none => none) = _
  rw [l_le]
  cases decide (i ≤ j) <;> rfl
theorem l_inC (c : Nat) (z : Str) : cmpD .In (.str ⟨#[c]⟩) (.str z) = some (decide (c ∈ z.cps.toList)) := rfl
theorem l_ninC (c : Nat) (z : Str) : cmpD .NotIn (.str ⟨#[c]⟩) (.str z) = some (!decide (c ∈ z.cps.toList)) := rfl
theorem l_is (a : PyData) : cmpD .Is a .none = some (isNoneD a) := by cases a <;> rfl
theorem l_isn (a : PyData) : cmpD .IsNot a .none = some (!isNoneD a) := by cases a <;> rfl
theorem l_lenS {s : Str} (h : s.length ≤ lim) : biD .len [.str s] = some (.int s.length) := by
  show (if s.length ≤ lim then some (PyData.int s.length) else none) = _
  rw [if_pos h]
theorem l_lenL (ds : List PyData) : biD .len [.list ds] = some (.int ds.length) := rfl
theorem l_lenT (ds : List PyData) : biD .len [.tuple ds] = some (.int ds.length) := rfl
theorem l_abs (i : Int) : biD .abs [.int i] = some (.int (if i < 0 then -i else i)) := rfl
theorem l_tupL (ds : List PyData) : biD .tuple [.list ds] = some (.tuple ds) := rfl
theorem l_tupT (ds : List PyData) : biD .tuple [.tuple ds] = some (.tuple ds) := rfl
theorem l_add (i j : Int) : binD .Add (.int i) (.int j) = some (.int (i + j)) := rfl
theorem l_sub (i j : Int) : binD .Sub (.int i) (.int j) = some (.int (i - j)) := rfl
theorem l_isi_s (s : Str) (t : Ty) : isiO (.str s) t = some (.bool (isiD (.str s) t)) := rfl
theorem l_isi_t (s : List PyData) (t : Ty) : isiO (.tuple s) t = some (.bool (isiD (.tuple s) t)) := rfl
theorem allB_of {α : Type} (g : α → Bool) : ∀ l : List α, JL.allB (l.map fun x => .bool (g x)) = some (l.map g)
  | [] => rfl
  | x :: r => by
    rw [List.map_cons, JL.allB, allB_of g r]
    rfl
theorem l_itL (ds : List PyData) : iterD (.list ds) = some ds := rfl
theorem l_itT (ds : List PyData) : iterD (.tuple ds) = some ds := rfl
theorem l_itS (s : Str) : iterD (.str s) = some (signsD s) := rfl
theorem l_item0 {s : Str} {c : Nat} {r : List Nat} (h : s.length ≤ lim) (hs : tl s = c :: r) : itemD (.str s) (.int 0) = some (.str ⟨#[c]⟩) := by
  show (if s.length ≤ lim then (atI s.cps.toList 0).map fun c => PyData.str ⟨#[c]⟩ else none) = _
  rw [if_pos h]
  have e : s.cps.toList = c :: r := hs
  rw [e, show (0 : Int) = ((0 : Nat) : Int) from rfl, atI_nat (j := 0) (v := c) rfl]
  rfl
theorem l_itemT {ds : List PyData} {i : Nat} {d : PyData} (h : ds[i]? = some d) : itemD (.tuple ds) (.int i) = some d := atI_nat h
theorem l_itemL {ds : List PyData} {i : Nat} {d : PyData} (h : ds[i]? = some d) : itemD (.list ds) (.int i) = some d := atI_nat h
theorem l_it0 (d : PyData) (r : List PyData) : itemD (.tuple (d :: r)) (.int 0) = some d := l_itemT (i := 0) rfl
theorem l_it1 (c d : PyData) (r : List PyData) : itemD (.tuple (c :: d :: r)) (.int 1) = some d := l_itemT (i := 1) rfl
theorem l_il0 (d : PyData) (r : List PyData) : itemD (.list (d :: r)) (.int 0) = some d := l_itemL (i := 0) rfl
theorem l_il1 (c d : PyData) (r : List PyData) : itemD (.list (c :: d :: r)) (.int 1) = some d := l_itemL (i := 1) rfl
theorem l_all {α : Type} (g : α → Bool) (l : List α) : biD .all [.list (l.map fun x => .bool (g x))] = some (.bool (l.all g)) := by
  show (JL.allB (l.map fun x => PyData.bool (g x))).map (fun bs => PyData.bool (bs.all id)) = _
  rw [allB_of]
  show some (PyData.bool ((l.map g).all id)) = _
  rw [List.all_map]
  rfl
theorem l_any {α : Type} (g : α → Bool) (l : List α) : biD .any [.list (l.map fun x => .bool (g x))] = some (.bool (l.any g)) := by
  show (JL.allB (l.map fun x => PyData.bool (g x))).map (fun bs => PyData.bool (bs.any id)) = _
  rw [allB_of]
  show some (PyData.bool ((l.map g).any id)) = _
  rw [List.any_map]
  rfl
theorem l_seq_nx (ρ : Rho) (k : Rho → Option Out) : seqO (some (.nx ρ)) k = k ρ := rfl
theorem l_seq_rt (d : PyData) (k : Rho → Option Out) : seqO (some (.rt d)) k = some (.rt d) := rfl
section
variable (ft : Str → List PyData → Option PyData) (gv : Str → Option PyData) (W : Nat) (ρ : Rho)
theorem e_lit (d : PyData) : evE ft gv (.lit d) ρ = some d := rfl
theorem e_var (i : Nat) : evE ft gv (.var i) ρ = (ρ[i]?).join := rfl
theorem e_glob (x : Str) : evE ft gv (.glob x) ρ = gv x := rfl
theorem e_bin (op : Operator) (a b : CE) : evE ft gv (.bin op a b) ρ = (evE ft gv a ρ).bind fun x => (evE ft gv b ρ).bind fun y => binD op x y := rfl
theorem e_neg (a : CE) : evE ft gv (.neg a) ρ = (evE ft gv a ρ).bind negD := rfl
theorem e_cmp (op : CmpOp) (a b : CE) : evE ft gv (.cmp op a b) ρ = (evE ft gv a ρ).bind fun x => (evE ft gv b ρ).bind fun y => (cmpD op x y).map .bool := rfl
theorem e_chain (o o' : CmpOp) (a b c : CE) : evE ft gv (.chain o o' a b c) ρ = (evE ft gv a ρ).bind fun x => (evE ft gv b ρ).bind fun y => chainD o o' x y (evE ft gv c ρ) := rfl
theorem e_and (a b : CE) : evE ft gv (.and a b) ρ = (evE ft gv a ρ).bind fun x => andD x (evE ft gv b ρ) := rfl
theorem e_or (a b : CE) : evE ft gv (.or a b) ρ = (evE ft gv a ρ).bind fun x => orD x (evE ft gv b ρ) := rfl
theorem e_not (a : CE) : evE ft gv (.not a) ρ = (evE ft gv a ρ).bind notD := rfl
theorem e_ife (t a b : CE) : evE ft gv (.ife t a b) ρ = (evE ft gv t ρ).bind fun x => ifD x (evE ft gv a ρ) (evE ft gv b ρ) := rfl
theorem e_own (f : Str) (es : List CE) : evE ft gv (.own f es) ρ = (evA ft gv es ρ).bind (ft f) := rfl
theorem e_bi (f : Bi) (es : List CE) : evE ft gv (.bi f es) ρ = (evA ft gv es ρ).bind (biD f) := rfl
theorem e_isi (a : CE) (t : Ty) : evE ft gv (.isi a t) ρ = (evE ft gv a ρ).bind fun x => isiO x t := rfl
theorem e_split (a b : CE) : evE ft gv (.split a b) ρ = (evE ft gv a ρ).bind fun x => (evE ft gv b ρ).bind fun y => splitD x y := rfl
theorem e_join (a b : CE) : evE ft gv (.join a b) ρ = (evE ft gv a ρ).bind fun x => (evE ft gv b ρ).bind fun y => joinD x y := rfl
theorem e_idx (a b : CE) : evE ft gv (.idx a b) ρ = (evE ft gv a ρ).bind fun x => (evE ft gv b ρ).bind fun y => itemD x y := rfl
theorem e_slc (a : CE) (kl : Bool) (lo : CE) (kh : Bool) (hi : CE) : evE ft gv (.slc a kl lo kh hi) ρ = (evE ft gv a ρ).bind fun x => (evE ft gv lo ρ).bind fun l => (evE ft gv hi ρ).bind fun h => sliceD x kl l kh h := rfl
theorem e_tup (es : List CE) : evE ft gv (.tup es) ρ = (evA ft gv es ρ).bind fun ds => if ds.length ≤ 1000 then some (.tuple ds) else none := rfl
theorem e_lst (es : List CE) : evE ft gv (.lst es) ρ = (evA ft gv es ρ).bind fun ds => if ds.length ≤ 1000 then some (.list ds) else none := rfl
theorem e_fstr (es : List CE) : evE ft gv (.fstr es) ρ = (evA ft gv es ρ).bind fun ds => (catD ds Str.empty).map .str := rfl
theorem a_nil : evA ft gv [] ρ = some [] := rfl
theorem a_cons (e : CE) (r : List CE) : evA ft gv (e :: r) ρ = (evE ft gv e ρ).bind fun d => (evA ft gv r ρ).map (d :: ·) := rfl
theorem s_set (i : Nat) (e : CE) : evS ft gv W (.set i e) ρ = (evE ft gv e ρ).map fun d => .nx (ρ.set i (some d)) := rfl
theorem s_par (i j : Nat) (a b : CE) : evS ft gv W (.par i j a b) ρ = (evE ft gv a ρ).bind fun x => (evE ft gv b ρ).map fun y => .nx ((ρ.set i (some x)).set j (some y)) := rfl
theorem s_if (t : CE) (a b : List CS) : evS ft gv W (.iff t a b) ρ = (evE ft gv t ρ).bind fun c => ifO c (evB ft gv W a ρ) (evB ft gv W b ρ) := rfl
theorem s_ret (e : CE) : evS ft gv W (.ret e) ρ = (evE ft gv e ρ).map .rt := rfl
theorem s_drop (e : CE) : evS ft gv W (.drop e) ρ = (evE ft gv e ρ).map fun _ => .nx ρ := rfl
theorem s_whl (t : CE) (b : List CS) : evS ft gv W (.whl t b) ρ = whileL (evE ft gv t) (evB ft gv W b) W ρ := rfl
theorem s_for (t : Tg) (it : CE) (b : List CS) : evS ft gv W (.for_ t it b) ρ = (evE ft gv it ρ).bind fun d => (iterD d).bind fun items => forL t.bind (evB ft gv W b) items ρ := rfl
theorem b_nil : evB ft gv W [] ρ = some (.nx ρ) := rfl
theorem b_cons (s : CS) (r : List CS) : evB ft gv W (s :: r) ρ = seqO (evS ft gv W s ρ) (evB ft gv W r) := rfl
end
local macro_rules | `(tactic| walk_at "ev") => `(tactic| simp only [e_lit, e_var, e_glob, e_bin, e_neg, e_cmp, e_chain, e_and, e_or, e_not, e_ife, e_own, e_bi, e_isi, e_split, e_join, e_idx, e_slc, e_tup, e_lst, e_fstr, a_nil, a_cons, s_set, s_par, s_if, s_ret, s_drop, b_nil, b_cons, l_and, l_or, l_not, l_neg, l_if, l_ifO, l_lt, l_le, l_gt, l_ge, l_eqI, l_neI, l_chainI, l_inC, l_ninC, l_is, l_isn, l_lenL, l_lenT, l_abs, l_tupL, l_tupT, l_add, l_sub,
  l_isi_s, l_isi_t, isiD, l_seq_nx, l_seq_rt, l_itL, l_itT, l_itS, l_it0, l_it1, l_il0, l_il1, isNoneD, Tg.bind, Tg.wipe,
  Option.bind_some, Option.bind_none, Option.map_some, Option.map_none, List.getElem?_cons_zero, List.getElem?_cons_succ, List.getElem?_nil, Option.join_some, List.set_cons_zero, List.set_cons_succ, Bool.not_true, Bool.not_false, Bool.false_eq_true, if_true, if_false])

/-! ### general facts of the small language -/
theorem compL_map {bind : PyData → Option Rho} {elt : Rho → Option PyData} {f : PyData → PyData} : ∀ {items : List PyData}, (∀ x ∈ items, ∃ ρ, bind x = some ρ ∧ elt ρ = some (f x) ∧ noList (f x) = true) → compL bind (fun _ => some (.bool true)) elt items = some (items.map f)
  | [], _ => rfl
  | x :: r, h => by
    obtain ⟨ρ, h1, h2, h3⟩ := h x (List.mem_cons_self ..)
    unfold compL
    rw [h1]
    show (elt ρ).bind _ = _
    rw [h2]
    show (if noList (f x) = true then (compL bind (fun _ => some (.bool true)) elt r).map (f x :: ·) else none) = _
    rw [if_pos h3, compL_map fun y hy => h y (List.mem_cons_of_mem _ hy)]
    rfl
theorem e_map {ft : Str → List PyData → Option PyData} {gv : Str → Option PyData} {elt it : CE} {tg : Tg} {ρ : Rho} {dI : PyData} {items : List PyData} (f : PyData → PyData) (hI : evE ft gv it ρ = some dI) (hit : iterD dI = some items) (hl : items.length ≤ lim)
    (h : ∀ x ∈ items, ∃ ρ', tg.bind (tg.wipe ρ) x = some ρ' ∧ evE ft gv elt ρ' = some (f x) ∧ noList (f x) = true) : evE ft gv (.comp elt tg it (.lit (.bool true))) ρ = some (.list (items.map f)) := by
  show (evE ft gv it ρ).bind (fun x => (iterD x).bind fun items => if items.length ≤ lim then (compL (tg.bind (tg.wipe ρ)) (evE ft gv (.lit (.bool true))) (evE ft gv elt) items).map PyData.list else none) = _
  rw [hI]
  show (iterD dI).bind _ = _
  rw [hit]
  show (if items.length ≤ lim then _ else none) = _
  rw [if_pos hl]
  have : compL (tg.bind (tg.wipe ρ)) (evE ft gv (.lit (.bool true))) (evE ft gv elt) items = some (items.map f) := compL_map h
  rw [this]
  rfl
def numD (q : Q) : PyData := .tuple [.int q.1, .int q.2]
def strD (l : List Nat) : PyData := .str (S l)
def small (q : Q) : Prop := q.1.natAbs < 10 ^ 550 ∧ q.2.natAbs < 10 ^ 550
instance (q : Q) : Decidable (small q) := inferInstanceAs (Decidable (_ ∧ _))

/-! ### constants -/
def gv : Str → Option PyData := gvOf [("MAX_LETTERS", .int 12), ("LETTERS", .str "abcdefghijklmnopqrstuvwxyz"), ("SIGNS", .str "abcdefghijklmnopqrstuvwxyz0123456789."), ("MAX_TEXT", .int 9000), ("MAX_DIGITS", .int 4000), ("MOST_WRITTEN", .int (10 ^ 4000)), ("DIGITS", .str "0123456789"), ("LINE_END", .str "\n"), ("NONE", .str "none"), ("REST", .str "rest"), ("NOTHING", .str "nothing"), ("COMMA", .str ", ")]
theorem gv_ml : gv "MAX_LETTERS" = some (.int 12) := rfl
theorem gv_let : gv "LETTERS" = some (.str "abcdefghijklmnopqrstuvwxyz") := rfl
theorem gv_sig : gv "SIGNS" = some (.str "abcdefghijklmnopqrstuvwxyz0123456789.") := rfl
theorem gv_mt : gv "MAX_TEXT" = some (.int 9000) := rfl
theorem gv_md : gv "MAX_DIGITS" = some (.int 4000) := rfl
theorem gv_mw : gv "MOST_WRITTEN" = some (.int (10 ^ 4000)) := rfl
theorem gv_dig : gv "DIGITS" = some (.str "0123456789") := rfl
theorem gv_le : gv "LINE_END" = some (.str "\n") := rfl
theorem gv_none : gv "NONE" = some (.str "none") := rfl
theorem gv_rest : gv "REST" = some (.str "rest") := rfl
theorem gv_noth : gv "NOTHING" = some (.str "nothing") := rfl
theorem gv_comma : gv "COMMA" = some (.str ", ") := rfl

/-! ### is_integer -/
def m_is_integer : Fm
  | [d] => if (match d with | .dict _ => true | _ => false) then none else some (.bool (match d with | .int _ => true | _ => false))
  | _ => none
theorem ev_is_integer (ft) : ∀ ds d, m_is_integer ds = some d → ds.length = 1 ∧ evB ft gv 5000 c_is_integer (ds.map some ++ List.replicate (1 - ds.length) none) = some (.rt d) := by
  intro ds d h
  match ds, h with
  | [x], h =>
    refine ⟨rfl, ?_⟩
    cases x <;> first | (cases h; rfl) | cases h

/-! ### strings -/
theorem len_S (s : Str) : s.length = (tl s).length := TL.len_tl s
theorem shaped_str {s : Str} (h : ∀ c ∈ tl s, c < 128) : SeqAt.shaped (.str s) = true := by
  unfold SeqAt.shaped
  rw [Bool.and_eq_true]
  constructor
  · show s.cps.all (· < 0x110000) = true
    rw [← Array.all_toList, List.all_eq_true]
    intro c hc
    have := h c hc
    exact decide_eq_true (by omega)
  · exact decide_eq_true (by show (0 : Nat) ≤ 64; omega)
noncomputable def strOf (s : Str) : Option (List Nat) := open Classical in if Good (tl s) then some (tl s) else none
theorem strOf_some {s : Str} {l : List Nat} (h : strOf s = some l) : Good l ∧ s = S l := by
  unfold strOf at h
  by_cases g : Good (tl s)
  · rw [if_pos g] at h
    cases h
    exact ⟨g, (S_tl s).symm⟩
  · rw [if_neg g] at h
    cases h
theorem strOf_S {l : List Nat} (h : Good l) : strOf (S l) = some l := by
  unfold strOf
  have e : tl (S l) = l := rfl
  rw [e, if_pos h]
theorem lim_good {l : List Nat} (h : Good l) : (S l).length ≤ lim := by rw [S_len]; exact Nat.le_trans h.len (by decide)
theorem letters_S : ("abcdefghijklmnopqrstuvwxyz" : Str) = S ((List.range 26).map (· + 97)) := by decide +kernel
theorem mem_letters (c : Nat) : decide (c ∈ ("abcdefghijklmnopqrstuvwxyz" : Str).cps.toList) = isLet c := by
  rw [letters_S]
  show decide (c ∈ (List.range 26).map (· + 97)) = isLet c
  unfold isLet
  rw [← Bool.decide_and]
  apply decide_eq_decide.mpr
  rw [List.mem_map]
  constructor
  · rintro ⟨a, ha, rfl⟩
    have := List.mem_range.mp ha
    omega
  · intro h
    exact ⟨c - 97, List.mem_range.mpr (by omega), by omega⟩
theorem signs_S : ("abcdefghijklmnopqrstuvwxyz0123456789." : Str) = S ((List.range 26).map (· + 97) ++ (List.range 10).map (· + 48) ++ [46]) := by decide +kernel
theorem mem_signs (c : Nat) : decide (c ∈ ("abcdefghijklmnopqrstuvwxyz0123456789." : Str).cps.toList) = isSign c := by
  rw [signs_S]
  show decide (c ∈ (List.range 26).map (· + 97) ++ (List.range 10).map (· + 48) ++ [46]) = isSign c
  unfold isSign isLet
  rw [← Bool.decide_and, ← Bool.decide_and, ← Bool.decide_or, ← Bool.decide_or]
  apply decide_eq_decide.mpr
  simp only [List.mem_append, List.mem_map, List.mem_range, List.mem_singleton]
  constructor
  · rintro ((⟨a, ha, rfl⟩ | ⟨a, ha, rfl⟩) | rfl)
    · exact .inl (.inl (by omega))
    · exact .inl (.inr (by omega))
    · exact .inr rfl
  · rintro ((h | h) | h)
    · exact .inl (.inl ⟨c - 97, by omega, by omega⟩)
    · exact .inl (.inr ⟨c - 48, by omega, by omega⟩)
    · exact .inr h
theorem digits_S : ("0123456789" : Str) = S ((List.range 10).map (· + 48)) := by decide +kernel
theorem mem_digits (c : Nat) : decide (c ∈ ("0123456789" : Str).cps.toList) = (decide (48 ≤ c) && decide (c ≤ 57)) := by
  rw [digits_S]
  show decide (c ∈ (List.range 10).map (· + 48)) = _
  rw [← Bool.decide_and]
  apply decide_eq_decide.mpr
  rw [List.mem_map]
  constructor
  · rintro ⟨a, ha, rfl⟩
    have := List.mem_range.mp ha
    omega
  · intro h
    exact ⟨c - 48, List.mem_range.mpr (by omega), by omega⟩
theorem signsD_S (l : List Nat) : signsD (S l) = l.map fun c => .str ⟨#[c]⟩ := rfl
/-- a comprehension over a text's signs -/
theorem comp_signs {bind : PyData → Option Rho} {elt : Rho → Option PyData} {f : Nat → PyData} {l : List Nat} (h : ∀ c ∈ l, ∃ ρ, bind (.str ⟨#[c]⟩) = some ρ ∧ elt ρ = some (f c) ∧ noList (f c) = true) :
    compL bind (fun _ => some (.bool true)) elt (signsD (S l)) = some (l.map f) := by
  rw [signsD_S]
  have key : ∀ (m : List Nat), (∀ c ∈ m, ∃ ρ, bind (.str ⟨#[c]⟩) = some ρ ∧ elt ρ = some (f c) ∧ noList (f c) = true) → compL bind (fun _ => some (.bool true)) elt (m.map fun c => .str ⟨#[c]⟩) = some (m.map f) := by
    intro m
    induction m with
    | nil => intro _; rfl
    | cons c r ih =>
      intro h
      obtain ⟨ρ, h1, h2, h3⟩ := h c (List.mem_cons_self ..)
      rw [List.map_cons]
      unfold compL
      rw [h1]
      show (elt ρ).bind _ = _
      rw [h2]
      show (if noList (f c) = true then (compL bind (fun _ => some (.bool true)) elt (r.map fun c => .str ⟨#[c]⟩)).map (f c :: ·) else none) = _
      rw [if_pos h3, ih fun y hy => h y (List.mem_cons_of_mem _ hy)]
      rfl
  exact key l h
theorem e_signs {ft : Str → List PyData → Option PyData} {gv : Str → Option PyData} {elt it : CE} {tg : Tg} {ρ : Rho} {l : List Nat} (f : Nat → PyData) (hI : evE ft gv it ρ = some (.str (S l))) (hl : l.length ≤ lim)
    (h : ∀ c ∈ l, ∃ ρ', tg.bind (tg.wipe ρ) (.str ⟨#[c]⟩) = some ρ' ∧ evE ft gv elt ρ' = some (f c) ∧ noList (f c) = true) : evE ft gv (.comp elt tg it (.lit (.bool true))) ρ = some (.list (l.map f)) := by
  show (evE ft gv it ρ).bind (fun x => (iterD x).bind fun items => if items.length ≤ lim then (compL (tg.bind (tg.wipe ρ)) (evE ft gv (.lit (.bool true))) (evE ft gv elt) items).map PyData.list else none) = _
  rw [hI]
  show (if (signsD (S l)).length ≤ lim then _ else none) = _
  rw [if_pos (by unfold signsD; rw [List.length_map]; exact hl)]
  have : compL (tg.bind (tg.wipe ρ)) (evE ft gv (.lit (.bool true))) (evE ft gv elt) (signsD (S l)) = some (l.map f) := comp_signs h
  rw [this]
  rfl
/-! ### is_name -/
noncomputable def m_is_name : Fm
  | [.str s] => (strOf s).map fun l => .bool (nameB l)
  | _ => none
theorem ev_is_name (ft) : ∀ ds d, m_is_name ds = some d → ds.length = 1 ∧ evB ft gv 5000 c_is_name (ds.map some ++ List.replicate (2 - ds.length) none) = some (.rt d) := by
  intro ds d h
  match ds, h with
  | [.str s], h =>
    refine ⟨rfl, ?_⟩
    obtain ⟨l, hl, rfl⟩ := Option.map_eq_some_iff.mp (show (strOf s).map (fun l => PyData.bool (nameB l)) = some d from h)
    obtain ⟨g, rfl⟩ := strOf_some hl
    have hlim := lim_good g
    have hlen : (S l).length = l.length := S_len l
    show evB ft gv 5000 c_is_name [some (.str (S l)), none] = _
    unfold c_is_name
    walk_at "ev"
    rw [l_lenS hlim, gv_ml, gv_let]
    walk_at "ev"
    rw [hlen]
    by_cases hb : 1 ≤ l.length ∧ l.length ≤ 12
    · cases l with
      | nil => exact absurd hb.1 (by decide)
      | cons c r =>
        have h1 : decide ((1 : Int) ≤ (((c :: r).length : Nat) : Int)) = true := decide_eq_true (by omega)
        have h2 : decide ((((c :: r).length : Nat) : Int) ≤ 12) = true := decide_eq_true (by omega)
        rw [h1, h2, l_item0 hlim rfl]
        simp only [Bool.and_self, Bool.not_true]
        walk_at "ev"
        rw [mem_letters]
        have hn : nameB (c :: r) = (isLet c && (c :: r).all isSign) := by
          unfold nameB
          rw [decide_eq_true hb.1, decide_eq_true hb.2]
          simp
        cases hc : isLet c with
        | false =>
          walk_at "ev"
          rw [hn, hc]
          rfl
        | true =>
          walk_at "ev"
          rw [e_signs (l := c :: r) (fun c => .bool (isSign c)) rfl (Nat.le_trans g.len (by decide)) (fun k _ => ⟨_, rfl, by walk_at "ev"; rw [gv_sig]; walk_at "ev"; rw [mem_signs], rfl⟩)]
          walk_at "ev"
          rw [l_all]
          rw [hn, hc]
          rfl
    · have h1 : (decide ((1 : Int) ≤ ((l.length : Nat) : Int)) && decide (((l.length : Nat) : Int) ≤ 12)) = false := by
        rw [Bool.and_eq_false_iff, decide_eq_false_iff_not, decide_eq_false_iff_not]
        omega
      rw [h1]
      walk_at "ev"
      have hn : nameB l = false := by
        unfold nameB
        rw [← Bool.decide_and, decide_eq_false hb]
        rfl
      rw [hn]

/-! ### common_divisor -/
theorem euclid {T : Rho → Option PyData} {B : Rho → Option Out} (hT : ∀ a b : Nat, T [some (.int a), some (.int b)] = some (.bool (decide (0 < b)))) (hB : ∀ a b : Nat, b ≠ 0 → B [some (.int a), some (.int b)] = some (.nx [some (.int b), some (.int (a % b : Nat))])) :
    ∀ (m a b n : Nat), b < 2 ^ m → 2 * m + 1 ≤ n → whileL T B n [some (.int a), some (.int b)] = some (.nx [some (.int (Nat.gcd a b : Nat)), some (.int (0 : Nat))]) := by
  have stop : ∀ a n : Nat, 1 ≤ n → whileL T B n [some (.int a), some (.int (0 : Nat))] = some (.nx [some (.int a), some (.int (0 : Nat))]) := fun a n hn => by
    cases n with
    | zero => omega
    | succ n =>
      unfold whileL
      rw [hT a 0]
      rfl
  have go : ∀ a b n : Nat, b ≠ 0 → whileL T B (n + 1) [some (.int a), some (.int b)] = whileL T B n [some (.int b), some (.int (a % b : Nat))] := fun a b n hb => by
    conv => lhs; unfold whileL
    rw [hT a b, decide_eq_true (Nat.pos_of_ne_zero hb)]
    show (B [some (.int a), some (.int b)]).bind _ = _
    rw [hB a b hb]
    rfl
  intro m
  induction m with
  | zero =>
    intro a b n hb hn
    have : b = 0 := by
      have e : (2 : Nat) ^ 0 = 1 := rfl
      omega
    subst this
    rw [stop a n (by omega), Nat.gcd_zero_right]
  | succ m ih =>
    intro a b n hb hn
    by_cases h0 : b = 0
    · subst h0
      rw [stop a n (by omega), Nat.gcd_zero_right]
    · obtain ⟨n1, rfl⟩ : ∃ n1, n = n1 + 1 := ⟨n - 1, by omega⟩
      rw [go a b n1 h0]
      have eg : Nat.gcd a b = Nat.gcd b (a % b) := by rw [Nat.gcd_comm a b, Nat.gcd_rec b a, Nat.gcd_comm]
      have hlt : a % b < b := Nat.mod_lt _ (Nat.pos_of_ne_zero h0)
      by_cases h1 : a % b = 0
      · rw [h1, stop b n1 (by omega), eg, h1, Nat.gcd_zero_right]
      · obtain ⟨n2, rfl⟩ : ∃ n2, n1 = n2 + 1 := ⟨n1 - 1, by omega⟩
        rw [go b (a % b) n2 h1]
        have hlt2 : b % (a % b) < a % b := Nat.mod_lt _ (Nat.pos_of_ne_zero h1)
        have hhalf : 2 * (b % (a % b)) < b := by
          by_cases hc : 2 * (a % b) ≤ b
          · omega
          · have : b % (a % b) = b - a % b := by
              rw [Nat.mod_eq_sub_mod (by omega), Nat.mod_eq_of_lt (by omega)]
            omega
        have hp : (2 : Nat) ^ (m + 1) = 2 * 2 ^ m := by rw [Nat.pow_succ, Nat.mul_comm]
        rw [ih (a % b) (b % (a % b)) n2 (by omega) (by omega)]
        have eg2 : Nat.gcd b (a % b) = Nat.gcd (a % b) (b % (a % b)) := by rw [Nat.gcd_comm b (a % b), Nat.gcd_rec (a % b) b, Nat.gcd_comm]
        rw [eg, eg2]
def gcdI (a b : Int) : Int := ((Nat.gcd a.natAbs b.natAbs : Nat) : Int)
theorem pow550 : (10 : Nat) ^ 550 < 2 ^ 1830 := by decide +kernel
theorem ev_common_divisor (ft) (a b : Int) (hb : b.natAbs < 10 ^ 550) : evB ft gv 5000 c_common_divisor [some (.int a), some (.int b)] = some (.rt (.int (gcdI a b))) := by
  have ha : ∀ i : Int, (if i < 0 then -i else i) = ((i.natAbs : Nat) : Int) := fun i => by split <;> omega
  unfold c_common_divisor
  walk_at "ev"
  rw [ha, ha, s_whl]
  have e := euclid (T := evE ft gv (.cmp .Gt (.var 1) (.lit (.int 0)))) (B := evB ft gv 5000 [.par 0 1 (.var 1) (.bin .Mod (.var 0) (.var 1))])
    (fun a b => by
      walk_at "ev"
      have : decide ((0 : Int) < (b : Int)) = decide (0 < b) := decide_eq_decide.mpr (by omega)
      rw [this])
    (fun a b hb => by
      walk_at "ev"
      have : binD .Mod (.int (a : Int)) (.int (b : Int)) = some (.int ((a % b : Nat) : Int)) := by
        show (if (b : Int) ≠ 0 then some (PyData.int ((a : Int).fmod b)) else none) = _
        rw [if_pos (by omega), Int.fmod_eq_emod_of_nonneg _ (by omega)]
        rfl
      rw [this]
      walk_at "ev")
    1830 a.natAbs b.natAbs 5000 (Nat.lt_trans hb pow550) (by decide)
  rw [e]
  rfl

/-! ### is_number -/
theorem shaped_num (q : Q) : SeqAt.shaped (numD q) = true := rfl
theorem ev_is_number (ft : Str → List PyData → Option PyData) (hI : ∀ i, ft "is_integer" [.int i] = some (.bool true)) (hG : ∀ a b : Int, b.natAbs < 10 ^ 550 → ft "common_divisor" [.int a, .int b] = some (.int (gcdI a b))) (q : Q) (hq : small q) :
    evB ft gv 5000 c_is_number [some (numD q), none] = some (.rt (.bool (valid q))) := by
  obtain ⟨a, b⟩ := q
  unfold c_is_number numD
  walk_at "ev"
  rw [e_map (items := [.int a, .int b]) (fun _ => .bool true) rfl rfl (show 2 ≤ lim by decide) (fun x hx => ⟨_, rfl, by
    simp at hx
    rcases hx with rfl | rfl
    · walk_at "ev"; rw [hI]
    · walk_at "ev"; rw [hI], rfl⟩)]
  walk_at "ev"
  rw [l_all (g := fun _ => true)]
  walk_at "ev"
  rw [show decide ((([PyData.int a, PyData.int b].length : Nat) : Int) = 2) = true from rfl, show ([PyData.int a, PyData.int b].all fun _ => true) = true from rfl]
  walk_at "ev"
  rw [hG a b hq.2]
  walk_at "ev"
  have e : (decide (gcdI a b = 1)) = decide (Nat.gcd a.natAbs b.natAbs = 1) := decide_eq_decide.mpr (by unfold gcdI; omega)
  rw [e]
  show _ = some (Out.rt (PyData.bool (decide (1 ≤ b) && decide (Nat.gcd a.natAbs b.natAbs = 1))))
  cases decide (1 ≤ b) <;> rfl
end K81
namespace K81
open PySem PySem.Spec PyProof.Rows L2 JL M81 SX
open TL (tl)
local macro_rules | `(tactic| walk_at "ev") => `(tactic| simp only [e_lit, e_var, e_glob, e_bin, e_neg, e_cmp, e_chain, e_and, e_or, e_not, e_ife, e_own, e_bi, e_isi, e_split, e_join, e_idx, e_slc, e_tup, e_lst, e_fstr, a_nil, a_cons, s_set, s_par, s_if, s_ret, s_drop, b_nil, b_cons, l_and, l_or, l_not, l_neg, l_if, l_ifO, l_lt, l_le, l_gt, l_ge, l_eqI, l_neI, l_chainI, l_inC, l_ninC, l_is, l_isn, l_lenL, l_lenT, l_abs, l_tupL, l_tupT, l_add, l_sub,
  l_isi_s, l_isi_t, isiD, l_seq_nx, l_seq_rt, l_itL, l_itT, l_itS, l_it0, l_it1, l_il0, l_il1, isNoneD, Tg.bind, Tg.wipe,
  Option.bind_some, Option.bind_none, Option.map_some, Option.map_none, List.getElem?_cons_zero, List.getElem?_cons_succ, List.getElem?_nil, Option.join_some, List.set_cons_zero, List.set_cons_succ, Bool.not_true, Bool.not_false, Bool.false_eq_true, if_true, if_false])

/-! ### numbers: sizes, texts -/
abbrev FT := Str → List PyData → Option PyData
theorem log_small {i : Int} (h : i.natAbs < 10 ^ 550) : i.natAbs.log2 < 1920 := by
  have h2 : i.natAbs < 2 ^ 1830 := Nat.lt_trans h pow550
  by_cases h0 : i.natAbs = 0
  · rw [h0]; decide
  · exact Nat.lt_trans ((Nat.log2_lt h0).mpr h2) (by decide)
theorem intL_len {i : Int} {k : Nat} (hk : 0 < k) (h : i.natAbs < 10 ^ k) : (intL i).length ≤ k + 1 := by
  have := TL.numL_len hk h
  unfold intL
  split
  · simp; omega
  · omega
theorem numText_len {q : Q} {k : Nat} (hk : 0 < k) (h1 : q.1.natAbs < 10 ^ k) (h2 : q.2.natAbs < 10 ^ k) : (numText q).length ≤ 2 * k + 3 := by
  have a := intL_len hk h1
  have b := intL_len hk h2
  unfold numText
  split
  · omega
  · simp; omega
theorem ev_require_number (ft : FT) (hN : ∀ q, small q → ft "is_number" [numD q] = some (.bool (valid q))) (q : Q) (hq : small q) (hv : valid q = true) :
    evB ft gv 5000 c_require_number [some (numD q)] = some (.nx [some (numD q)]) := by
  unfold c_require_number
  walk_at "ev"
  rw [hN q hq, hv]
  walk_at "ev"
theorem ev_is_plain_row (ft : FT) (hN : ∀ q, small q → ft "is_number" [numD q] = some (.bool (valid q))) (r : List Q) (hr : ∀ q ∈ r, small q) (hl : r.length ≤ lim) :
    evB ft gv 5000 c_is_plain_row [some (.int r.length), some (.tuple (r.map numD)), none] = some (.rt (.bool (r.all valid))) := by
  unfold c_is_plain_row
  walk_at "ev"
  rw [e_map (items := r.map numD) (fun d => match d with | .tuple [.int a, .int b] => .bool (valid (a, b)) | _ => .none) rfl rfl (by rw [List.length_map]; exact hl) (fun x hx => by
    obtain ⟨q, hq, rfl⟩ := List.mem_map.mp hx
    exact ⟨_, rfl, by walk_at "ev"; rw [hN q (hr q hq)]; rfl, rfl⟩)]
  walk_at "ev"
  rw [List.map_map, List.length_map, decide_eq_true rfl]
  have e : (r.map ((fun d => match d with | .tuple [.int a, .int b] => PyData.bool (valid (a, b)) | _ => .none) ∘ numD)) = r.map fun q => .bool (valid q) := rfl
  rw [e, l_all]
  walk_at "ev"
theorem ev_require_text (ft : FT) (s : Str) (h : s.length ≤ 9000) : evB ft gv 5000 c_require_text [some (.str s)] = some (.rt (.str s)) := by
  unfold c_require_text
  walk_at "ev"
  rw [l_lenS (Nat.le_trans h (by decide)), gv_mt]
  walk_at "ev"
  rw [decide_eq_false (by omega)]
  walk_at "ev"
theorem most_big {i : Int} (h : i.natAbs < 10 ^ 550) : ¬ ((10 : Int) ^ 4000 ≤ i) := by
  intro z
  have p : (10 : Nat) ^ 550 < 10 ^ 4000 := Nat.pow_lt_pow_right (by decide) (by decide)
  have e : ((10 : Int) ^ 4000) = (((10 : Nat) ^ 4000 : Nat) : Int) := by rw [Int.natCast_pow]; rfl
  rw [e] at z
  generalize (10 : Nat) ^ 4000 = M at *
  generalize (10 : Nat) ^ 550 = m at *
  omega
theorem ev_require_sizes (ft : FT) {d : PyData} {rs : List (List Q)} (hd : iterD d = some (rs.map fun r => .tuple (r.map numD))) (hs : ∀ r ∈ rs, ∀ q ∈ r, small q) (hl : ∀ r ∈ rs, r.length ≤ lim) :
    ∃ ρ, evB ft gv 5000 c_require_sizes [some d, none, none, none] = some (.nx ρ) := by
  have key : ∀ (rs : List (List Q)), (∀ r ∈ rs, ∀ q ∈ r, small q) → (∀ r ∈ rs, r.length ≤ lim) → ∀ x y z w, ∃ ρ, forL (Tg.bind (.one 1)) (evB ft gv 5000 [.iff (.bi .any [.comp (.or (.cmp .GtE (.bi .abs [.var 2]) (.glob "MOST_WRITTEN")) (.cmp .GtE (.var 3) (.glob "MOST_WRITTEN"))) (.two 2 3) (.var 1) (.lit (.bool true))]) [.rais] []]) (rs.map fun r => .tuple (r.map numD)) [x, y, z, w] = some (.nx ρ) := by
    intro rs
    induction rs with
    | nil => intro _ _ x y z w; exact ⟨_, rfl⟩
    | cons r rs ih =>
      intro hs hl x y z w
      rw [List.map_cons]
      unfold forL
      have hb : evB ft gv 5000 [.iff (.bi .any [.comp (.or (.cmp .GtE (.bi .abs [.var 2]) (.glob "MOST_WRITTEN")) (.cmp .GtE (.var 3) (.glob "MOST_WRITTEN"))) (.two 2 3) (.var 1) (.lit (.bool true))]) [.rais] []] [x, some (.tuple (r.map numD)), z, w] = some (.nx [x, some (.tuple (r.map numD)), z, w]) := by
        walk_at "ev"
        rw [e_map (items := r.map numD) (fun _ => .bool false) rfl rfl (by rw [List.length_map]; exact hl r (List.mem_cons_self ..)) (fun d hd => by
          obtain ⟨q, hq, rfl⟩ := List.mem_map.mp hd
          have hq' := hs r (List.mem_cons_self ..) q hq
          refine ⟨[x, some (.tuple (r.map numD)), some (.int q.1), some (.int q.2)], rfl, ?_, rfl⟩
          walk_at "ev"
          rw [gv_mw]
          walk_at "ev"
          have ha : (if q.1 < 0 then -q.1 else q.1) = ((q.1.natAbs : Nat) : Int) := by split <;> omega
          rw [ha, decide_eq_false (most_big (i := ((q.1.natAbs : Nat) : Int)) (by simpa using hq'.1)), decide_eq_false (most_big hq'.2)]
          walk_at "ev")]
        walk_at "ev"
        rw [l_any (g := fun _ => false)]
        have : ((r.map numD).any fun _ => false) = false := by simp
        rw [this]
        walk_at "ev"
      simp only [Tg.bind, Option.bind_some, List.set_cons_zero, List.set_cons_succ]
      rw [hb]
      simp only [Option.bind_some]
      exact ih (fun r' h => hs r' (List.mem_cons_of_mem _ h)) (fun r' h => hl r' (List.mem_cons_of_mem _ h)) x _ z w
  obtain ⟨ρ, h⟩ := key rs hs hl (some d) none none none
  refine ⟨ρ, ?_⟩
  unfold c_require_sizes
  walk_at "ev"
  rw [s_for]
  walk_at "ev"
  rw [hd]
  walk_at "ev"
  rw [h]
  rfl
theorem l_str {i : Int} (h : i.natAbs.log2 < 1920) : biD .str [.int i] = some (strD (intL i)) := by
  show (if i.natAbs.log2 < 1920 then some (PyData.str (toString i : String)) else none) = _
  rw [if_pos h]
  show some (PyData.str (Str.ofString (toString i))) = _
  rw [S_int]
  rfl
theorem fmt_int {i : Int} (h : i.natAbs.log2 < 1920) : fmtD (.int i) = some (S (intL i)) := by
  show (if i.natAbs.log2 < 1920 then some ((toString i : String) : Str) else none) = _
  rw [if_pos h]
  show some (Str.ofString (toString i)) = _
  rw [S_int]
theorem slash_S : ("/" : Str) = S [47] := by decide +kernel
theorem minus_S : ("-" : Str) = S [45] := by decide +kernel
theorem blank_S : (" " : Str) = S [32] := by decide +kernel
theorem comma_S : (", " : Str) = S [44, 32] := by decide +kernel
theorem none_S : ("none" : Str) = S noneL := by decide +kernel
theorem rest_S : ("rest" : Str) = S restL := by decide +kernel
theorem noth_S : ("nothing" : Str) = S nothingL := by decide +kernel
theorem nought_S : ("0" : Str) = S [48] := by decide +kernel
theorem empty_S : ("" : Str) = S [] := by decide +kernel
theorem lend_S : ("\n" : Str) = S [10] := by decide +kernel
theorem S_emp : (Str.empty : Str) = S [] := by decide +kernel
theorem catD3 {a b : List Nat} {x y : Int} (hx : fmtD (.int x) = some (S a)) (hy : fmtD (.int y) = some (S b)) (h : a.length + 1 + b.length ≤ lim) : catD [.int x, .str "/", .int y] Str.empty = some (S (a ++ 47 :: b)) := by
  unfold catD
  rw [hx, S_emp]
  show (if (S [] ++ S a).length ≤ lim then catD [.str "/", .int y] (S [] ++ S a) else none) = _
  rw [S_cat, List.nil_append, S_len, if_pos (by omega)]
  unfold catD
  show (if ("/" : Str).length ≤ lim then some ("/" : Str) else none).bind _ = _
  rw [if_pos (by decide +kernel)]
  show (if (S a ++ ("/" : Str)).length ≤ lim then catD [.int y] (S a ++ ("/" : Str)) else none) = _
  rw [slash_S, S_cat, S_len, if_pos (by simp; omega)]
  unfold catD
  rw [hy]
  show (if (S (a ++ [47]) ++ S b).length ≤ lim then catD [] (S (a ++ [47]) ++ S b) else none) = _
  rw [S_cat, S_len, if_pos (by simp; omega)]
  unfold catD
  rw [List.append_assoc]
  rfl
theorem ev_number_text (ft : FT) (q : Q) (hq : small q) : evB ft gv 5000 c_number_text [some (numD q)] = some (.rt (strD (numText q))) := by
  obtain ⟨a, b⟩ := q
  unfold c_number_text numD
  have h1 := log_small hq.1
  have h2 := log_small hq.2
  walk_at "ev"
  rw [l_str h1, catD3 (fmt_int h1) (fmt_int h2) (by
    have := intL_len (by decide) hq.1
    have := intL_len (by decide) hq.2
    unfold lim
    simp only at *
    omega)]
  unfold numText
  by_cases hb : b = 1
  · rw [decide_eq_true hb, if_pos hb]
    walk_at "ev"
  · rw [decide_eq_false hb, if_neg hb]
    walk_at "ev"
    rfl

theorem l_join {z : List Nat} {ys : List (List Nat)} (h : (ys.map (·.length)).sum + ys.length * z.length ≤ lim) : joinD (strD z) (.list (ys.map strD)) = some (strD (TL.joinL z ys)) := by
  have e : allS (ys.map strD) = some (ys.map S) := by
    clear h
    induction ys with
    | nil => rfl
    | cons y r ih =>
      rw [List.map_cons]
      unfold strD allS
      show (allS (r.map strD)).map _ = _
      rw [ih]
      rfl
  show (allS (ys.map strD)).bind (fun ys => if (ys.map (·.length)).sum + ys.length * (S z).length ≤ lim then some (PyData.str (Txt.join (S z) ys)) else none) = _
  rw [e]
  show (if ((ys.map S).map (·.length)).sum + (ys.map S).length * (S z).length ≤ lim then some (PyData.str (Txt.join (S z) (ys.map S))) else none) = _
  rw [lens, S_len, List.length_map, if_pos h, join_S]
  rfl
theorem l_joinT {z : List Nat} {ys : List (List Nat)} (h : (ys.map (·.length)).sum + ys.length * z.length ≤ lim) : joinD (strD z) (.tuple (ys.map strD)) = some (strD (TL.joinL z ys)) := by
  have e := l_join h
  exact e
theorem sum_le {α : Type} {f : α → Nat} {k : Nat} : ∀ {l : List α}, (∀ x ∈ l, f x ≤ k) → (l.map f).sum ≤ l.length * k
  | [], _ => by simp
  | x :: r, h => by
    have h1 := h x (List.mem_cons_self ..)
    have h2 := sum_le (l := r) fun y hy => h y (List.mem_cons_of_mem _ hy)
    rw [List.map_cons, List.sum_cons, List.length_cons, Nat.succ_mul]
    omega
theorem joinL_len (z : List Nat) : ∀ ys : List (List Nat), (TL.joinL z ys).length ≤ (ys.map (·.length)).sum + ys.length * z.length
  | [] => by simp [TL.joinL]
  | [p] => by simp [TL.joinL]
  | p :: q :: r => by
    have ih := joinL_len z (q :: r)
    show (p ++ (z ++ TL.joinL z (q :: r))).length ≤ _
    rw [List.map_cons, List.sum_cons, List.length_cons, Nat.succ_mul, List.length_append, List.length_append]
    omega
/-- a row that is shown: few numbers, not too long ones -/
structure RowOk (r : List Q) : Prop where
  sm : ∀ q ∈ r, small q
  len : r.length ≤ 20
theorem row_len {r : List Q} (h : RowOk r) : (rowText r).length ≤ 22200 := by
  unfold rowText
  split
  · decide
  · have a := joinL_len [32] (r.map numText)
    have b : ((r.map numText).map (·.length)).sum ≤ r.length * 1103 := by
      rw [List.map_map]
      exact sum_le fun q hq => numText_len (k := 550) (by decide) (h.sm q hq).1 (h.sm q hq).2
    have c := h.len
    have e : r.length * 1103 ≤ 20 * 1103 := Nat.mul_le_mul_right _ c
    rw [List.length_map] at a
    simp only [List.length_cons, List.length_nil] at a
    omega
theorem eqv_nil (ds : List PyData) : PyData.eqv (.tuple ds) (.tuple []) = decide (ds = []) := by cases ds <;> rfl
theorem canLayAll_of {ds : List PyData} (h : ∀ d ∈ ds, d.canLay0 = true) : PyData.canLayAll0 ds = true := by
  induction ds with
  | nil => rfl
  | cons d r ih =>
    show (d.canLay0 && PyData.canLayAll0 r) = true
    rw [h d (List.mem_cons_self ..), ih fun x hx => h x (List.mem_cons_of_mem _ hx)]
    rfl
theorem depthAll_of {k : Nat} {ds : List PyData} (h : ∀ d ∈ ds, d.depth ≤ k) : PyData.depthAll ds ≤ k := by
  induction ds with
  | nil => exact Nat.zero_le _
  | cons d r ih =>
    have a := h d (List.mem_cons_self ..)
    have b := ih fun x hx => h x (List.mem_cons_of_mem _ hx)
    show max d.depth (PyData.depthAll r) ≤ k
    omega
/-- data that may be compared: of a depth below k -/
def Lay (k : Nat) (d : PyData) : Prop := d.canLay0 = true ∧ d.depth ≤ k
theorem Lay.shaped {k : Nat} {d : PyData} (h : Lay k d) (hk : k ≤ 64) : SeqAt.shaped d = true := by
  unfold SeqAt.shaped
  rw [Bool.and_eq_true]
  exact ⟨h.1, decide_eq_true (Nat.le_trans h.2 hk)⟩
theorem Lay.tup {k : Nat} {ds : List PyData} (h : ∀ d ∈ ds, Lay k d) : Lay (k + 1) (.tuple ds) :=
  ⟨canLayAll_of fun d hd => (h d hd).1, by
    have := depthAll_of (k := k) fun d hd => (h d hd).2
    show PyData.depthAll ds + 1 ≤ k + 1
    omega⟩
theorem Lay.lst {k : Nat} {ds : List PyData} (h : ∀ d ∈ ds, Lay k d) : Lay (k + 1) (.list ds) :=
  ⟨canLayAll_of fun d hd => (h d hd).1, by
    have := depthAll_of (k := k) fun d hd => (h d hd).2
    show PyData.depthAll ds + 1 ≤ k + 1
    omega⟩
theorem Lay.mono {j k : Nat} {d : PyData} (h : Lay j d) (hk : j ≤ k) : Lay k d := ⟨h.1, Nat.le_trans h.2 hk⟩
theorem lay_num (q : Q) : Lay 1 (numD q) := ⟨rfl, Nat.le_refl 1⟩
theorem lay_non : Lay 0 .none := ⟨rfl, Nat.le_refl 0⟩
theorem lay_row (r : List Q) : Lay 2 (.tuple (r.map numD)) := Lay.tup fun d hd => by
  obtain ⟨q, _, rfl⟩ := List.mem_map.mp hd
  exact lay_num q
def rowD (r : List Q) : PyData := .tuple (r.map numD)
theorem lay_rows (rs : List (List Q)) : Lay 3 (.tuple (rs.map rowD)) := Lay.tup fun d hd => by
  obtain ⟨q, _, rfl⟩ := List.mem_map.mp hd
  exact lay_row q
theorem shaped_nil : SeqAt.shaped (.tuple []) = true := rfl
theorem ev_row_text (ft : FT) (hT : ∀ q, small q → ft "number_text" [numD q] = some (strD (numText q))) (r : List Q) (h : RowOk r) : evB ft gv 5000 c_row_text [some (rowD r), none] = some (.rt (strD (rowText r))) := by
  unfold c_row_text rowD
  walk_at "ev"
  rw [if_pos (by decide)]
  walk_at "ev"
  rw [l_eq ((lay_row r).shaped (by decide)) shaped_nil, eqv_nil, gv_none]
  walk_at "ev"
  have hm : decide (r.map numD = []) = decide (r = []) := decide_eq_decide.mpr (by simp)
  rw [hm]
  unfold rowText
  by_cases hr : r = []
  · rw [decide_eq_true hr, if_pos hr, none_S]
    walk_at "ev"
    rfl
  · rw [decide_eq_false hr, if_neg hr]
    walk_at "ev"
    rw [e_map (items := r.map numD) (fun d => match d with | .tuple [.int a, .int b] => strD (numText (a, b)) | _ => .none) rfl rfl (by rw [List.length_map]; have := h.len; unfold lim; omega) (fun x hx => by
      obtain ⟨q, hq, rfl⟩ := List.mem_map.mp hx
      exact ⟨_, rfl, by walk_at "ev"; rw [hT q (h.sm q hq)]; rfl, rfl⟩)]
    walk_at "ev"
    have e : ((r.map numD).map fun d => match d with | .tuple [.int a, .int b] => strD (numText (a, b)) | _ => .none) = (r.map numText).map strD := by
      rw [List.map_map, List.map_map]
      rfl
    rw [e, blank_S]
    have hz := l_join (z := [32]) (ys := r.map numText) (by
      have b : ((r.map numText).map (·.length)).sum ≤ r.length * 1103 := by
        rw [List.map_map]
        exact sum_le fun q hq => numText_len (k := 550) (by decide) (h.sm q hq).1 (h.sm q hq).2
      have c := h.len
      have e : r.length * 1103 ≤ 20 * 1103 := Nat.mul_le_mul_right _ c
      rw [List.length_map]
      simp only [List.length_cons, List.length_nil]
      unfold lim
      omega)
    have hz' : joinD (.str (S [32])) (.list ((r.map numText).map strD)) = some (strD (TL.joinL [32] (r.map numText))) := hz
    rw [hz']
    walk_at "ev"

end K81
namespace K81
open PySem PySem.Spec PyProof.Rows L2 JL M81 SX
open TL (tl)
local macro_rules | `(tactic| walk_at "ev") => `(tactic| simp only [e_lit, e_var, e_glob, e_bin, e_neg, e_cmp, e_chain, e_and, e_or, e_not, e_ife, e_own, e_bi, e_isi, e_split, e_join, e_idx, e_slc, e_tup, e_lst, e_fstr, a_nil, a_cons, s_set, s_par, s_if, s_ret, s_drop, b_nil, b_cons, l_and, l_or, l_not, l_neg, l_if, l_ifO, l_lt, l_le, l_gt, l_ge, l_eqI, l_neI, l_chainI, l_inC, l_ninC, l_is, l_isn, l_lenL, l_lenT, l_abs, l_tupL, l_tupT, l_add, l_sub,
  l_isi_s, l_isi_t, isiD, l_seq_nx, l_seq_rt, l_itL, l_itT, l_itS, l_it0, l_it1, l_il0, l_il1, isNoneD, Tg.bind, Tg.wipe,
  Option.bind_some, Option.bind_none, Option.map_some, Option.map_none, List.getElem?_cons_zero, List.getElem?_cons_succ, List.getElem?_nil, Option.join_some, List.set_cons_zero, List.set_cons_succ, Bool.not_true, Bool.not_false, Bool.false_eq_true, if_true, if_false])

theorem one1000 (d : PyData) : ([d] : List PyData).length ≤ 1000 := by show 1 ≤ 1000; decide
theorem two1000 (d e : PyData) : ([d, e] : List PyData).length ≤ 1000 := by show 2 ≤ 1000; decide
structure RowsOk (rs : List (List Q)) : Prop where
  row : ∀ r ∈ rs, RowOk r
  len : rs.length ≤ 4
def rowsD (rs : List (List Q)) : PyData := .tuple (rs.map rowD)
theorem ev_rows_text (ft : FT) (hT : ∀ r, RowOk r → ft "row_text" [rowD r] = some (strD (rowText r))) (rs : List (List Q)) (w : List Nat) (h : RowsOk rs) : evB ft gv 5000 c_rows_text [some (rowsD rs), some (strD w), none] = some (.rt (strD (rowsText rs w))) := by
  unfold c_rows_text rowsD
  walk_at "ev"
  rw [if_pos (by decide)]
  walk_at "ev"
  rw [l_eq ((lay_rows rs).shaped (by decide)) shaped_nil, eqv_nil, gv_comma]
  walk_at "ev"
  have hm : decide (rs.map rowD = []) = decide (rs = []) := decide_eq_decide.mpr (by simp)
  rw [hm]
  unfold rowsText
  by_cases hr : rs = []
  · rw [decide_eq_true hr, if_pos hr]
    walk_at "ev"
  · rw [decide_eq_false hr, if_neg hr]
    walk_at "ev"
    have hmap : ∀ d ∈ rs.map rowD, ∃ ρ', Tg.bind (.one 2) (Tg.wipe (.one 2) [some (.tuple (rs.map rowD)), some (strD w), none]) d = some ρ' ∧ evE ft gv (.own "row_text" [.var 2]) ρ' = some ((fun d => (ft "row_text" [d]).getD .none) d) ∧ noList ((fun d => (ft "row_text" [d]).getD .none) d) = true := fun x hx => by
      obtain ⟨r, hq, rfl⟩ := List.mem_map.mp hx
      refine ⟨_, rfl, ?_, ?_⟩
      · walk_at "ev"
        rw [hT r (h.row r hq)]
        rfl
      · show noList ((ft "row_text" [rowD r]).getD .none) = true
        rw [hT r (h.row r hq)]
        rfl
    rw [e_map (items := rs.map rowD) (fun d => (ft "row_text" [d]).getD .none) rfl rfl (by rw [List.length_map]; have := h.len; unfold lim; omega) hmap]
    walk_at "ev"
    have e : ((rs.map rowD).map fun d => (ft "row_text" [d]).getD .none) = (rs.map rowText).map strD := by
      rw [List.map_map, List.map_map]
      refine List.map_congr_left fun r hr => ?_
      show (ft "row_text" [rowD r]).getD .none = strD (rowText r)
      rw [hT r (h.row r hr)]
      rfl
    rw [e, comma_S]
    have hz := l_join (z := [44, 32]) (ys := rs.map rowText) (by
      have b : ((rs.map rowText).map (·.length)).sum ≤ rs.length * 22200 := by
        rw [List.map_map]
        exact sum_le fun r hr => row_len (h.row r hr)
      have c := h.len
      have e : rs.length * 22200 ≤ 4 * 22200 := Nat.mul_le_mul_right _ c
      rw [List.length_map]
      simp only [List.length_cons, List.length_nil]
      unfold lim
      omega)
    have hz' : joinD (.str (S [44, 32])) (.list ((rs.map rowText).map strD)) = some (strD (TL.joinL [44, 32] (rs.map rowText))) := hz
    rw [hz']
    walk_at "ev"
theorem ev_format_number (ft : FT) (hR : ∀ q, small q → valid q = true → ft "require_number" [numD q] = some .none) (hS : ∀ q, small q → ft "require_sizes" [.list [.tuple [numD q]]] = some .none) (hT : ∀ q, small q → ft "number_text" [numD q] = some (strD (numText q)))
    (hX : ∀ l : List Nat, l.length ≤ 9000 → ft "require_text" [strD l] = some (strD l)) (q : Q) (hq : small q) (hv : valid q = true) (hl : (numText q).length ≤ 9000) : evB ft gv 5000 c_format_number [some (numD q)] = some (.rt (strD (numText q))) := by
  unfold c_format_number
  walk_at "ev"
  rw [hR q hq hv]
  walk_at "ev"
  rw [if_pos (one1000 _)]
  walk_at "ev"
  rw [if_pos (one1000 _)]
  walk_at "ev"
  rw [hS q hq]
  walk_at "ev"
  rw [hT q hq]
  walk_at "ev"
  rw [hX _ hl]
  walk_at "ev"
theorem ev_is_any_row (ft : FT) (hP : ∀ r : List Q, (∀ q ∈ r, small q) → r.length ≤ lim → ft "is_plain_row" [.int r.length, rowD r] = some (.bool (r.all valid))) (r : List Q) (h : ∀ q ∈ r, small q) (hl : r.length ≤ lim) :
    evB ft gv 5000 c_is_any_row [some (rowD r)] = some (.rt (.bool (r.all valid))) := by
  unfold c_is_any_row
  have hP' := hP r h hl
  unfold rowD at *
  walk_at "ev"
  rw [List.length_map, hP']
  walk_at "ev"
theorem ev_are_any_rows (ft : FT) (hA : ∀ r : List Q, (∀ q ∈ r, small q) → r.length ≤ lim → ft "is_any_row" [rowD r] = some (.bool (r.all valid))) (rs : List (List Q)) (h : RowsOk rs) :
    evB ft gv 5000 c_are_any_rows [some (rowsD rs), none] = some (.rt (.bool ((rs.all fun r => r.all valid) && wide rs))) := by
  unfold c_are_any_rows rowsD
  have hlen : rs.length ≤ lim := Nat.le_trans h.len (by decide)
  have hA' : ∀ r ∈ rs, ft "is_any_row" [rowD r] = some (.bool (r.all valid)) := fun r hr => hA r (h.row r hr).sm (Nat.le_trans (h.row r hr).len (by decide))
  walk_at "ev"
  have hmap : ∀ d ∈ rs.map rowD, ∃ ρ', Tg.bind (.one 1) (Tg.wipe (.one 1) [some (.tuple (rs.map rowD)), none]) d = some ρ' ∧ evE ft gv (.own "is_any_row" [.var 1]) ρ' = some ((fun d => (ft "is_any_row" [d]).getD .none) d) ∧ noList ((fun d => (ft "is_any_row" [d]).getD .none) d) = true := fun x hx => by
    obtain ⟨r, hq, rfl⟩ := List.mem_map.mp hx
    refine ⟨_, rfl, ?_, ?_⟩
    · walk_at "ev"
      rw [hA' r hq]
      rfl
    · show noList ((ft "is_any_row" [rowD r]).getD .none) = true
      rw [hA' r hq]
      rfl
  rw [e_map (items := rs.map rowD) (fun d => (ft "is_any_row" [d]).getD .none) rfl rfl (by rw [List.length_map]; exact hlen) hmap]
  walk_at "ev"
  have e : ((rs.map rowD).map fun d => (ft "is_any_row" [d]).getD .none) = rs.map fun r => .bool (r.all valid) := by
    rw [List.map_map]
    refine List.map_congr_left fun r hr => ?_
    show (ft "is_any_row" [rowD r]).getD .none = _
    rw [hA' r hr]
    rfl
  rw [e, l_all]
  walk_at "ev"
  cases hv : rs.all fun r => r.all valid with
  | false =>
    walk_at "ev"
    rfl
  | true =>
    walk_at "ev"
    have hmap2 : ∀ d ∈ rs.map rowD, ∃ ρ', Tg.bind (.one 1) (Tg.wipe (.one 1) [some (.tuple (rs.map rowD)), none]) d = some ρ' ∧ evE ft gv (.cmp .Eq (.bi .len [.var 1]) (.bi .len [.idx (.var 0) (.lit (.int 0))])) ρ' = some ((fun d => match d with | .tuple ds => .bool (decide (ds.length = (rs.headD []).length)) | _ => .none) d) ∧ noList ((fun d => match d with | .tuple ds => .bool (decide (ds.length = (rs.headD []).length)) | _ => .none) d) = true := fun x hx => by
      obtain ⟨r, hq, rfl⟩ := List.mem_map.mp hx
      cases rs with
      | nil => simp at hq
      | cons r0 rs =>
        refine ⟨_, rfl, ?_, rfl⟩
        walk_at "ev"
        rw [List.map_cons]
        unfold rowD
        walk_at "ev"
        rw [List.length_map, List.length_map]
        have : decide (((r.length : Nat) : Int) = ((r0.length : Nat) : Int)) = decide (r.length = r0.length) := decide_eq_decide.mpr (by omega)
        rw [this]
        rfl
    rw [e_map (items := rs.map rowD) _ rfl rfl (by rw [List.length_map]; exact hlen) hmap2]
    walk_at "ev"
    have e2 : ((rs.map rowD).map fun d => match d with | .tuple ds => PyData.bool (decide (ds.length = (rs.headD []).length)) | _ => .none) = rs.map fun r => .bool (decide (r.length = (rs.headD []).length)) := by
      rw [List.map_map]
      refine List.map_congr_left fun r hr => ?_
      show PyData.bool (decide ((r.map numD).length = _)) = _
      rw [List.length_map]
    rw [e2, l_all]
    walk_at "ev"
    rfl
theorem ev_format_row (ft : FT) (hA : ∀ r : List Q, (∀ q ∈ r, small q) → r.length ≤ lim → ft "is_any_row" [rowD r] = some (.bool (r.all valid))) (hS : ∀ r, RowOk r → ft "require_sizes" [.list [rowD r]] = some .none) (hT : ∀ r, RowOk r → ft "row_text" [rowD r] = some (strD (rowText r)))
    (hX : ∀ l : List Nat, l.length ≤ 9000 → ft "require_text" [strD l] = some (strD l)) (r : List Q) (h : RowOk r) (hv : r.all valid = true) (hl : (rowText r).length ≤ 9000) : evB ft gv 5000 c_format_row [some (rowD r)] = some (.rt (strD (rowText r))) := by
  unfold c_format_row
  walk_at "ev"
  rw [hA r h.sm (Nat.le_trans h.len (by decide)), hv]
  walk_at "ev"
  rw [if_pos (one1000 _)]
  walk_at "ev"
  rw [hS r h]
  walk_at "ev"
  rw [hT r h]
  walk_at "ev"
  rw [hX _ hl]
  walk_at "ev"
theorem ev_format_course (ft : FT) (hA : ∀ rs, RowsOk rs → ft "are_any_rows" [rowsD rs] = some (.bool ((rs.all fun r => r.all valid) && wide rs))) (hS : ∀ rs, RowsOk rs → ft "require_sizes" [rowsD rs] = some .none) (hT : ∀ rs w, RowsOk rs → ft "rows_text" [rowsD rs, strD w] = some (strD (rowsText rs w)))
    (hX : ∀ l : List Nat, l.length ≤ 9000 → ft "require_text" [strD l] = some (strD l)) (rs : List (List Q)) (h : RowsOk rs) (hv : (rs.all fun r => r.all valid) = true) (hw : wide rs = true) (hl : (rowsText rs restL).length ≤ 9000) : evB ft gv 5000 c_format_course [some (rowsD rs)] = some (.rt (strD (rowsText rs restL))) := by
  unfold c_format_course
  walk_at "ev"
  rw [hA rs h, hv, hw]
  walk_at "ev"
  rw [show (true && true) = true from rfl]
  walk_at "ev"
  rw [hS rs h]
  walk_at "ev"
  rw [gv_rest, rest_S]
  walk_at "ev"
  have hT' : ft "rows_text" [rowsD rs, .str (S restL)] = some (strD (rowsText rs restL)) := hT rs restL h
  rw [hT']
  walk_at "ev"
  rw [hX _ hl]
  walk_at "ev"
theorem ev_format_readings (ft : FT) (hA : ∀ rs, RowsOk rs → ft "are_any_rows" [rowsD rs] = some (.bool ((rs.all fun r => r.all valid) && wide rs))) (hS : ∀ rs, RowsOk rs → ft "require_sizes" [rowsD rs] = some .none) (hT : ∀ rs w, RowsOk rs → ft "rows_text" [rowsD rs, strD w] = some (strD (rowsText rs w)))
    (hX : ∀ l : List Nat, l.length ≤ 9000 → ft "require_text" [strD l] = some (strD l)) (rs : List (List Q)) (h : RowsOk rs) (hv : (rs.all fun r => r.all valid) = true) (hw : wide rs = true) (hl : (rowsText rs nothingL).length ≤ 9000) : evB ft gv 5000 c_format_readings [some (rowsD rs)] = some (.rt (strD (rowsText rs nothingL))) := by
  unfold c_format_readings
  walk_at "ev"
  rw [hA rs h, hv, hw]
  walk_at "ev"
  rw [show (true && true) = true from rfl]
  walk_at "ev"
  rw [hS rs h]
  walk_at "ev"
  rw [gv_noth, noth_S]
  walk_at "ev"
  have hT' : ft "rows_text" [rowsD rs, .str (S nothingL)] = some (strD (rowsText rs nothingL)) := hT rs nothingL h
  rw [hT']
  walk_at "ev"
  rw [hX _ hl]
  walk_at "ev"
/-! ### spells -/
def spellD (ns : List (List Nat)) : PyData := .tuple (ns.map strD)
theorem lay_str {l : List Nat} (h : ∀ c ∈ l, c < 128) : Lay 0 (strD l) := by
  have := shaped_str (s := S l) h
  unfold SeqAt.shaped at this
  rw [Bool.and_eq_true] at this
  exact ⟨this.1, Nat.le_refl 0⟩
theorem name_asc {l : List Nat} (h : nameB l = true) : ∀ c ∈ l, c < 128 := fun c hc => by
  unfold nameB at h
  simp only [Bool.and_eq_true, List.all_eq_true] at h
  have := h.2 c hc
  unfold isSign isLet at this
  simp at this
  omega
theorem name_len {l : List Nat} (h : nameB l = true) : l.length ≤ 12 := by
  unfold nameB at h
  simp only [Bool.and_eq_true, decide_eq_true_eq] at h
  exact h.1.1.2
theorem name_good {l : List Nat} (h : nameB l = true) : Good l := ⟨name_asc h, Nat.le_trans (name_len h) (by decide), DB.of_len (Nat.le_trans (name_len h) (by decide))⟩
theorem lay_spell {ns : List (List Nat)} (h : ∀ n ∈ ns, ∀ c ∈ n, c < 128) : Lay 1 (.tuple (ns.map strD)) := Lay.tup fun d hd => by
  obtain ⟨n, hn, rfl⟩ := List.mem_map.mp hd
  exact lay_str (h n hn)
theorem ev_spell_text (ft : FT) (ns : List (List Nat)) (h : ∀ n ∈ ns, nameB n = true) (hl : ns.length ≤ 1000) : evB ft gv 5000 c_spell_text [some (spellD ns)] = some (.rt (strD (spellText ns))) := by
  unfold c_spell_text spellD
  walk_at "ev"
  rw [if_pos (by decide)]
  walk_at "ev"
  rw [l_eq ((lay_spell fun n hn => name_asc (h n hn)).shaped (by decide)) shaped_nil, eqv_nil, gv_none]
  walk_at "ev"
  have hm : decide (ns.map strD = []) = decide (ns = []) := decide_eq_decide.mpr (by simp)
  rw [hm]
  unfold spellText
  by_cases hr : ns = []
  · rw [decide_eq_true hr, if_pos hr, none_S]
    walk_at "ev"
    rfl
  · rw [decide_eq_false hr, if_neg hr, blank_S]
    walk_at "ev"
    have hz : joinD (.str (S [32])) (.tuple (ns.map strD)) = some (strD (TL.joinL [32] ns)) := l_joinT (z := [32]) (ys := ns) (by
      have b : (ns.map (·.length)).sum ≤ ns.length * 12 := sum_le fun n hn => name_len (h n hn)
      simp only [List.length_cons, List.length_nil]
      unfold lim
      omega)
    rw [hz]
    walk_at "ev"
theorem eqv_spell1 {ns : List (List Nat)} {w : List Nat} : PyData.eqv (spellD ns) (.tuple [strD w]) = decide (ns = [w]) := by
  unfold spellD
  cases ns with
  | nil => rfl
  | cons n r =>
    cases r with
    | nil =>
      show ((S n == S w) && PyData.eqvAll [] []) = _
      rw [S_beq_eq]
      show (decide (n = w) && true) = decide ([n] = [w])
      rw [Bool.and_true]
      exact decide_eq_decide.mpr (by simp)
    | cons m r =>
      show ((S n == S w) && PyData.eqvAll (strD m :: r.map strD) []) = _
      have : PyData.eqvAll (strD m :: r.map strD) [] = false := rfl
      rw [this, Bool.and_false]
      exact (decide_eq_false (by simp)).symm
theorem ev_format_spell (ft : FT) (hN : ∀ l, Good l → ft "is_name" [strD l] = some (.bool (nameB l))) (hT : ∀ ns : List (List Nat), (∀ n ∈ ns, nameB n = true) → ns.length ≤ 1000 → ft "spell_text" [spellD ns] = some (strD (spellText ns)))
    (hX : ∀ l : List Nat, l.length ≤ 9000 → ft "require_text" [strD l] = some (strD l)) (ns : List (List Nat)) (h : ∀ n ∈ ns, nameB n = true) (h1 : ns ≠ [noneL]) (hl : ns.length ≤ 1000) (hl2 : (spellText ns).length ≤ 9000) :
    evB ft gv 5000 c_format_spell [some (spellD ns), none] = some (.rt (strD (spellText ns))) := by
  unfold c_format_spell
  have hsp : spellD ns = .tuple (ns.map strD) := rfl
  rw [hsp]
  walk_at "ev"
  rw [e_map (items := ns.map strD) (fun d => .bool true) rfl rfl (by rw [List.length_map]; unfold lim; omega) (fun x hx => by
    obtain ⟨n, hn, rfl⟩ := List.mem_map.mp hx
    exact ⟨_, rfl, by walk_at "ev"; rw [hN n (name_good (h n hn)), h n hn], rfl⟩)]
  walk_at "ev"
  rw [l_all (g := fun _ => true), gv_none, none_S]
  have : ((ns.map strD).all fun _ => true) = true := by simp
  rw [this]
  walk_at "ev"
  rw [if_pos (by decide)]
  walk_at "ev"
  rw [l_eq ((lay_spell fun n hn => name_asc (h n hn)).shaped (by decide)) (by decide +kernel)]
  have he : PyData.eqv (.tuple (ns.map strD)) (.tuple [.str (S noneL)]) = decide (ns = [noneL]) := eqv_spell1
  rw [he, decide_eq_false h1]
  walk_at "ev"
  rw [← hsp, hT ns h hl]
  walk_at "ev"
  rw [hX _ hl2]
  walk_at "ev"

end K81
namespace K81
open PySem PySem.Spec PyProof.Rows L2 JL M81 SX
open TL (tl)
local macro_rules | `(tactic| walk_at "ev") => `(tactic| simp only [e_lit, e_var, e_glob, e_bin, e_neg, e_cmp, e_chain, e_and, e_or, e_not, e_ife, e_own, e_bi, e_isi, e_split, e_join, e_idx, e_slc, e_tup, e_lst, e_fstr, a_nil, a_cons, s_set, s_par, s_if, s_ret, s_drop, b_nil, b_cons, l_and, l_or, l_not, l_neg, l_if, l_ifO, l_lt, l_le, l_gt, l_ge, l_eqI, l_neI, l_chainI, l_inC, l_ninC, l_is, l_isn, l_lenL, l_lenT, l_abs, l_tupL, l_tupT, l_add, l_sub,
  l_isi_s, l_isi_t, isiD, l_seq_nx, l_seq_rt, l_itL, l_itT, l_itS, l_it0, l_it1, l_il0, l_il1, isNoneD, Tg.bind, Tg.wipe,
  Option.bind_some, Option.bind_none, Option.map_some, Option.map_none, List.getElem?_cons_zero, List.getElem?_cons_succ, List.getElem?_nil, Option.join_some, List.set_cons_zero, List.set_cons_succ, Bool.not_true, Bool.not_false, Bool.false_eq_true, if_true, if_false])

/-! ### texts compared -/
theorem eqv_str (a b : List Nat) : PyData.eqv (.str (S a)) (.str (S b)) = decide (a = b) := by
  show (S a == S b) = _
  exact S_beq_eq
theorem l_eqS {a b : List Nat} (ha : ∀ c ∈ a, c < 128) (hb : ∀ c ∈ b, c < 128) : cmpD .Eq (.str (S a)) (.str (S b)) = some (decide (a = b)) := by
  rw [l_eq (shaped_str (s := S a) ha) (shaped_str (s := S b) hb), eqv_str]
theorem l_neS {a b : List Nat} (ha : ∀ c ∈ a, c < 128) (hb : ∀ c ∈ b, c < 128) : cmpD .NotEq (.str (S a)) (.str (S b)) = some (!decide (a = b)) := by
  rw [l_ne (shaped_str (s := S a) ha) (shaped_str (s := S b) hb), eqv_str]
theorem asc_nil : ∀ c ∈ ([] : List Nat), c < 128 := fun _ h => nomatch h
def optI : Option Nat → PyData
  | none => .none
  | some n => .int n
def optQ : Option Q → PyData
  | none => .none
  | some q => numD q
def optR : Option (List Q) → PyData
  | none => .none
  | some r => rowD r
def optRs : Option (List (List Q)) → PyData
  | none => .none
  | some r => rowsD r
def optSp : Option (List (List Nat)) → PyData
  | none => .none
  | some r => spellD r
theorem any_not_dig (l : List Nat) : (l.any fun c => !(decide (48 ≤ c) && decide (c ≤ 57))) = !allDig l := by
  unfold allDig
  rw [← List.not_all_eq_any_not]
theorem int_text {l : List Nat} (hd : allDig l = true) (hne : l ≠ []) (h : l.length ≤ 640) : biD .int [.str (S l)] = some (.int (NumText.digitsVal l)) := by
  show (if (S l).length ≤ 640 then (PySem.intText? (S l)).map PyData.int else none) = _
  rw [S_len, if_pos h, int_S hd hne (by omega)]
  rfl
theorem dig_short {l : List Nat} (g : Good l) (hd : allDig l = true) : l.length ≤ 500 := g.db [] l [] (by simp) hd
theorem ev_whole_in (ft : FT) (l : List Nat) (g : Good l) : evB ft gv 5000 c_whole_in [some (strD l), none] = some (.rt (optI (wholeIn l))) := by
  unfold c_whole_in strD
  walk_at "ev"
  rw [empty_S, l_eqS g.asc asc_nil]
  walk_at "ev"
  by_cases h0 : l = []
  · rw [decide_eq_true h0]
    walk_at "ev"
    unfold wholeIn
    rw [if_pos (.inl h0)]
    rfl
  rw [decide_eq_false h0]
  walk_at "ev"
  rw [e_signs (l := l) (fun c => .bool (!(decide (48 ≤ c) && decide (c ≤ 57)))) rfl (Nat.le_trans g.len (by decide)) (fun c _ => ⟨_, rfl, by walk_at "ev"; rw [gv_dig]; walk_at "ev"; rw [mem_digits], rfl⟩)]
  walk_at "ev"
  rw [l_any, any_not_dig]
  cases hd : allDig l with
  | false =>
    walk_at "ev"
    unfold wholeIn
    rw [if_pos (.inr (.inl hd))]
    rfl
  | true =>
    walk_at "ev"
    cases l with
    | nil => exact absurd rfl h0
    | cons c r =>
      rw [l_item0 (lim_good g) rfl, nought_S]
      walk_at "ev"
      have hc : ∀ d ∈ [c], d < 128 := fun d hd => g.asc d (by simp at hd; rw [hd]; exact List.mem_cons_self ..)
      have e1 : cmpD .Eq (.str ⟨#[c]⟩) (.str (S [48])) = some (decide ([c] = [48])) := l_eqS hc (by decide)
      rw [e1, l_neS g.asc (by decide)]
      walk_at "ev"
      have e2 : decide ([c] = [48]) = decide (c = 48) := decide_eq_decide.mpr (by simp)
      rw [e2]
      have fin : evE ft gv (.ife (.cmp .LtE (.bi .len [.var 0]) (.glob "MAX_DIGITS")) (.bi .int [.var 0]) (.lit .none)) [some (.str (S (c :: r))), none] = some (.int (NumText.digitsVal (c :: r))) := by
        walk_at "ev"
        rw [l_lenS (lim_good g), gv_md]
        walk_at "ev"
        have hs := dig_short g hd
        rw [S_len, decide_eq_true (by omega)]
        walk_at "ev"
        exact int_text hd h0 (by omega)
      by_cases h48 : c = 48
      · rw [decide_eq_true h48]
        walk_at "ev"
        by_cases hz : c :: r = [48]
        · rw [decide_eq_true hz]
          walk_at "ev"
          have fin' := fin
          simp only [e_ife, e_cmp, e_bi, e_var, e_glob, a_cons, a_nil, e_lit, List.getElem?_cons_zero, Option.join_some, Option.bind_some, Option.map_some] at fin'
          rw [fin']
          unfold wholeIn
          rw [if_neg (by rw [hd]; simp [hz])]
          rfl
        · rw [decide_eq_false hz]
          walk_at "ev"
          unfold wholeIn
          rw [if_pos (.inr (.inr ⟨by rw [h48]; rfl, hz⟩))]
          rfl
      · rw [decide_eq_false h48]
        walk_at "ev"
        have fin' := fin
        simp only [e_ife, e_cmp, e_bi, e_var, e_glob, a_cons, a_nil, e_lit, List.getElem?_cons_zero, Option.join_some, Option.bind_some, Option.map_some] at fin'
        rw [fin']
        unfold wholeIn
        rw [if_neg (by rw [hd]; simp [h48])]
        rfl
/-! ### slices -/
theorem cut1 (l : List Nat) : cutS (S l) none (some 1) = S (l.take 1) := by
  show (⟨((l.drop (HT.sIx (S l).length 0 none)).take (HT.sIx (S l).length (S l).length (some 1) - HT.sIx (S l).length 0 none)).toArray⟩ : Str) = _
  rw [HT.sIx_none, S_len]
  have e : HT.sIx l.length l.length (some 1) = min 1 l.length := HT.sIx_nat _ _ 1
  rw [e, List.drop_zero, Nat.sub_zero]
  cases l with
  | nil => rfl
  | cons c r =>
    rw [show min 1 (c :: r).length = 1 by simp]
theorem cut2 (l : List Nat) : cutS (S l) (some 1) none = S (l.drop 1) := by
  show (⟨((l.drop (HT.sIx (S l).length 0 (some 1))).take (HT.sIx (S l).length (S l).length none - HT.sIx (S l).length 0 (some 1))).toArray⟩ : Str) = _
  rw [HT.sIx_none, S_len]
  have e : HT.sIx l.length 0 (some 1) = min 1 l.length := HT.sIx_nat _ _ 1
  rw [e]
  cases l with
  | nil => rfl
  | cons c r =>
    rw [show min 1 (c :: r).length = 1 by simp]
    rw [List.take_of_length_le (by simp)]
theorem l_take1 {l : List Nat} (h : (S l).length ≤ lim) : sliceD (.str (S l)) false .none true (.int 1) = some (.str (S (l.take 1))) := by
  show (if (S l).length ≤ lim then some (PyData.str (cutS (S l) none (some 1))) else none) = _
  rw [if_pos h, cut1]
theorem l_drop1 {l : List Nat} (h : (S l).length ≤ lim) : sliceD (.str (S l)) true (.int 1) false .none = some (.str (S (l.drop 1))) := by
  show (if (S l).length ≤ lim then some (PyData.str (cutS (S l) (some 1) none)) else none) = _
  rw [if_pos h, cut2]
theorem l_split {a b : List Nat} (hb : b ≠ []) (hk : b.all (· < 256) = true) (h : (S a).length ≤ lim) : splitD (.str (S a)) (.str (S b)) = some (.list ((TL.spl b 0 [] a).map strD)) := by
  show (if (S b).length ≠ 0 ∧ (S a).length ≤ lim then some (PyData.list ((Txt.split (S a) (S b)).map .str)) else none) = _
  rw [if_pos ⟨by rw [S_len]; simpa using hb, h⟩, split_S hb hk, List.map_map]
  rfl
theorem take1_asc {l : List Nat} (h : ∀ c ∈ l, c < 128) (n : Nat) : ∀ c ∈ l.take n, c < 128 := fun c hc => h c (List.mem_of_mem_take hc)
/-! ### number_in -/
theorem shaped_int (i : Int) : SeqAt.shaped (.int i) = true := rfl
theorem in_none {α : Type} {f : α → Option α} (ds : List PyData) (h : ∀ d ∈ ds, ∃ k, Lay k d ∧ k ≤ 60) : cmpD .In .none (.list ds) = some (ds.any fun d => isNoneD d) ∧ cmpD .NotIn .none (.list ds) = some (!ds.any fun d => isNoneD d) ∧ cmpD .In .none (.tuple ds) = some (ds.any fun d => isNoneD d) ∧ cmpD .NotIn .none (.tuple ds) = some (!ds.any fun d => isNoneD d) := by
  have e : (fun z => PyData.eqv z .none) = fun d => isNoneD d := by
    funext d
    cases d <;> rfl
  have l1 : SeqAt.shaped (.list ds) = true := (Lay.lst (k := 60) fun d hd => let ⟨k, h1, h2⟩ := h d hd; h1.mono h2).shaped (by decide)
  have l2 : SeqAt.shaped (.tuple ds) = true := (Lay.tup (k := 60) fun d hd => let ⟨k, h1, h2⟩ := h d hd; h1.mono h2).shaped (by decide)
  refine ⟨?_, ?_, ?_, ?_⟩
  · show (if (SeqAt.shaped .none && SeqAt.shaped (.list ds)) = true then some (ds.any fun z => PyData.eqv z .none) else none) = _
    rw [l1, e]; rfl
  · show (if (SeqAt.shaped .none && SeqAt.shaped (.list ds)) = true then some (!ds.any fun z => PyData.eqv z .none) else none) = _
    rw [l1, e]; rfl
  · show (if (SeqAt.shaped .none && SeqAt.shaped (.tuple ds)) = true then some (ds.any fun z => PyData.eqv z .none) else none) = _
    rw [l2, e]; rfl
  · show (if (SeqAt.shaped .none && SeqAt.shaped (.tuple ds)) = true then some (!ds.any fun z => PyData.eqv z .none) else none) = _
    rw [l2, e]; rfl

theorem digits_lt : ∀ (l : List Nat) (a : Nat), NumText.AllDigits l → l.foldl (fun acc c => acc * 10 + (c - 48)) a < (a + 1) * 10 ^ l.length
  | [], a, _ => by simp
  | c :: r, a, h => by
    have hc := h.head
    have ih := digits_lt r (a * 10 + (c - 48)) h.tail
    rw [List.foldl_cons, List.length_cons, Nat.pow_succ]
    refine Nat.lt_of_lt_of_le ih ?_
    have e : (a + 1) * (10 ^ r.length * 10) = ((a + 1) * 10) * 10 ^ r.length := by rw [Nat.mul_comm (10 ^ r.length) 10, Nat.mul_assoc]
    rw [e]
    exact Nat.mul_le_mul_right _ (by omega)
theorem whole_lt {l : List Nat} {n : Nat} (g : Good l) (h : wholeIn l = some n) : n < 10 ^ 550 := by
  have e := wholeIn_iff.mp h
  have hd := TL.numL_digits n
  have hv := TL.numL_val n
  rw [← e] at hd hv
  have hl := dig_short g (allDig_iff.mpr hd)
  have := digits_lt l 0 hd
  have hv' : l.foldl (fun acc c => acc * 10 + (c - 48)) 0 = n := hv
  rw [hv', Nat.zero_add, Nat.one_mul] at this
  exact Nat.lt_of_lt_of_le this (Nat.pow_le_pow_right (by decide) (by omega))
theorem numText_asc (q : Q) : ∀ c ∈ numText q, c < 128 := fun c hc => by
  have := numText_chars q c hc
  omega
theorem spl_ne {s : List Nat} : ∀ (l : List Nat) (k : Nat) (acc : List Nat), TL.spl s k acc l ≠ []
  | [], k, acc => by rw [TL.spl_nil]; simp
  | c :: r, 0, acc => by
    show (if TL.pre s (c :: r) = true then acc :: TL.spl s (s.length - 1) [] r else TL.spl s 0 (acc ++ [c]) r) ≠ []
    split
    · simp
    · exact spl_ne r _ _
  | c :: r, k + 1, acc => spl_ne r k acc
theorem isNone_optI (o : Option Nat) : isNoneD (optI o) = o.isNone := by cases o <;> rfl
def numSel (l : List Nat) : List (Option Nat) → Option Q
  | [some a] => chk l (if l.take 1 = [45] then 0 - (a : Int) else a, 1)
  | [some a, some b] => chk l (if l.take 1 = [45] then 0 - (a : Int) else a, b)
  | _ => none
theorem ev_number_in (ft : FT) (hW : ∀ l, Good l → ft "whole_in" [strD l] = some (optI (wholeIn l))) (hN : ∀ q, small q → ft "is_number" [numD q] = some (.bool (valid q))) (hT : ∀ q, small q → ft "number_text" [numD q] = some (strD (numText q)))
    (l : List Nat) (g : Good l) : evB ft gv 5000 c_number_in [some (strD l), none, none, none, none, none] = some (.rt (optQ (numIn l))) := by
  have hlim := lim_good g
  unfold c_number_in strD
  walk_at "ev"
  rw [l_take1 hlim, l_drop1 hlim, minus_S]
  walk_at "ev"
  rw [l_eqS (take1_asc g.asc 1) (by decide)]
  walk_at "ev"
  -- the body without its sign
  have gb : Good (if l.take 1 = [45] then l.drop 1 else l) := by
    split
    · exact g.drop 1
    · exact g
  have hbody : (if decide (l.take 1 = [45]) = true then some (PyData.str (S (l.drop 1))) else some (.str (S l))) = some (.str (S (if l.take 1 = [45] then l.drop 1 else l))) := by
    by_cases hc : l.take 1 = [45]
    · rw [if_pos (decide_eq_true hc), if_pos hc]
    · rw [if_neg (by rw [decide_eq_false hc]; decide), if_neg hc]
  rw [hbody]
  walk_at "ev"
  rw [slash_S, l_split (by decide) (by decide) (lim_good gb)]
  walk_at "ev"
  generalize hp : TL.spl [47] 0 [] (if l.take 1 = [45] then l.drop 1 else l) = parts
  have gp : ∀ p ∈ parts, Good p := fun p h => gb.spl (by rw [hp]; exact h)
  have hpl : parts.length ≤ lim := by
    rw [← hp]
    have := spl_len (s := [47]) (if l.take 1 = [45] then l.drop 1 else l) 0 []
    have := gb.len
    unfold lim
    omega
  have hpn : parts ≠ [] := by rw [← hp]; exact spl_ne _ _ _
  rw [e_map (items := parts.map strD) (fun d => (ft "whole_in" [d]).getD .none) rfl rfl (by rw [List.length_map]; exact hpl) (fun x hx => by
    obtain ⟨p, h, rfl⟩ := List.mem_map.mp hx
    refine ⟨_, rfl, ?_, ?_⟩
    · walk_at "ev"
      rw [hW p (gp p h)]
      rfl
    · show noList ((ft "whole_in" [strD p]).getD .none) = true
      rw [hW p (gp p h)]
      cases wholeIn p <;> rfl)]
  walk_at "ev"
  have e1 : ((parts.map strD).map fun d => (ft "whole_in" [d]).getD .none) = (parts.map wholeIn).map optI := by
    rw [List.map_map, List.map_map]
    refine List.map_congr_left fun p h => ?_
    show (ft "whole_in" [strD p]).getD .none = optI (wholeIn p)
    rw [hW p (gp p h)]
    rfl
  rw [e1]
  generalize hws : parts.map wholeIn = ws
  have hlay : ∀ d ∈ ws.map optI, ∃ k, Lay k d ∧ k ≤ 60 := fun d hd => by
    obtain ⟨o, _, rfl⟩ := List.mem_map.mp hd
    cases o <;> exact ⟨0, ⟨rfl, Nat.le_refl 0⟩, by decide⟩
  have hany : ((ws.map optI).any fun d => isNoneD d) = ws.any (·.isNone) := by
    rw [List.any_map]
    congr 1
    funext o
    exact isNone_optI o
  have hnum : numIn l = numSel l ws := by
    unfold numIn
    rw [hp, hws]
    rfl
  have hsm : ∀ n, some n ∈ ws → n < 10 ^ 550 := fun n h => by
    rw [← hws] at h
    obtain ⟨p, hp1, hp2⟩ := List.mem_map.mp h
    exact whole_lt (gp p hp1) hp2
  have hwn : ws ≠ [] := by rw [← hws]; simpa using hpn
  rw [(in_none (f := fun (x : Nat) => some x) _ hlay).1, hany, List.length_map]
  walk_at "ev"
  -- the number that is found, told
  have told : ∀ q : Q, small q → (if valid q = true then (some (PyData.bool (decide (numText q = l)))) else some (.bool false)).bind (fun x => ifD x (some (numD q)) (some .none)) = some (optQ (chk l q)) := fun q hq => by
    unfold chk
    cases hv : valid q with
    | true =>
      rw [if_pos rfl]
      by_cases ht : numText q = l
      · rw [if_pos ⟨rfl, ht⟩, decide_eq_true ht]
        rfl
      · rw [if_neg (fun z => ht z.2), decide_eq_false ht]
        rfl
    | false =>
      rw [if_neg (by decide), if_neg (fun z => Bool.noConfusion z.1)]
      rfl
  rw [hnum]
  have top : ∀ a : Nat, (if decide (l.take 1 = [45]) = true then some (PyData.int (0 - (a : Int))) else some (.int a)) = some (.int (if l.take 1 = [45] then 0 - (a : Int) else a)) := fun a => by
    by_cases hc : l.take 1 = [45]
    · rw [if_pos (decide_eq_true hc), if_pos hc]
    · rw [if_neg (by rw [decide_eq_false hc]; decide), if_neg hc]
  have topn : ∀ a : Nat, (if l.take 1 = [45] then 0 - (a : Int) else a).natAbs = a := fun a => by split <;> omega
  have is1 : (1 : Int).natAbs < 10 ^ 550 := by
    have : (10 : Nat) ^ 0 < 10 ^ 550 := Nat.pow_lt_pow_right (by decide) (by decide)
    exact this
  match ws, hwn, hsm with
  | [none], _, _ => rfl
  | [some a], _, hsm =>
    simp only [List.any_cons, List.any_nil, Option.isNone_some, Bool.or_false, List.length_cons, List.length_nil]
    rw [decide_eq_false (by decide)]
    walk_at "ev"
    simp only [List.map_cons, List.map_nil, optI]
    walk_at "ev"
    rw [l_take1 hlim]
    walk_at "ev"
    rw [l_eqS (take1_asc g.asc 1) (by decide)]
    walk_at "ev"
    rw [top a]
    walk_at "ev"
    rw [show decide (((([PyData.int a]).length : Nat) : Int) = 1) = true from rfl]
    walk_at "ev"
    rw [if_pos (two1000 _ _)]
    have hq : small (if l.take 1 = [45] then 0 - (a : Int) else a, 1) := ⟨by show Int.natAbs _ < _; rw [topn]; exact hsm a (by simp), is1⟩
    have h1 : ft "is_number" [.tuple [.int (if l.take 1 = [45] then 0 - (a : Int) else a), .int 1]] = some (.bool (valid (if l.take 1 = [45] then 0 - (a : Int) else a, 1))) := hN _ hq
    have h2 : ft "number_text" [.tuple [.int (if l.take 1 = [45] then 0 - (a : Int) else a), .int 1]] = some (.str (S (numText (if l.take 1 = [45] then 0 - (a : Int) else a, 1)))) := hT _ hq
    walk_at "ev"
    rw [h1, h2]
    walk_at "ev"
    rw [l_eqS (numText_asc _) g.asc]
    walk_at "ev"
    have t := told _ hq
    have t' : (if valid (if l.take 1 = [45] then 0 - (a : Int) else a, 1) = true then (some (PyData.bool (decide (numText (if l.take 1 = [45] then 0 - (a : Int) else a, 1) = l)))) else some (.bool false)).bind (fun x => ifD x (some (.tuple [.int (if l.take 1 = [45] then 0 - (a : Int) else a), .int 1])) (some .none)) = some (optQ (chk l (if l.take 1 = [45] then 0 - (a : Int) else a, 1))) := t
    rw [t']
    rfl
  | [none, none], _, _ => rfl
  | [some a, none], _, _ => rfl
  | [none, some b], _, _ => rfl
  | [some a, some b], _, hsm =>
    simp only [List.any_cons, List.any_nil, Option.isNone_some, Bool.or_false, List.length_cons, List.length_nil]
    rw [decide_eq_false (by decide)]
    walk_at "ev"
    simp only [List.map_cons, List.map_nil, optI]
    walk_at "ev"
    rw [l_take1 hlim]
    walk_at "ev"
    rw [l_eqS (take1_asc g.asc 1) (by decide)]
    walk_at "ev"
    rw [top a]
    walk_at "ev"
    rw [show decide (((([PyData.int a, PyData.int b]).length : Nat) : Int) = 1) = false from rfl]
    walk_at "ev"
    rw [if_pos (two1000 _ _)]
    have hq : small (if l.take 1 = [45] then 0 - (a : Int) else a, (b : Int)) := ⟨by show Int.natAbs _ < _; rw [topn]; exact hsm a (by simp), by show Int.natAbs _ < _; rw [Int.natAbs_natCast]; exact hsm b (by simp)⟩
    have h1 : ft "is_number" [.tuple [.int (if l.take 1 = [45] then 0 - (a : Int) else a), .int b]] = some (.bool (valid (if l.take 1 = [45] then 0 - (a : Int) else a, (b : Int)))) := hN _ hq
    have h2 : ft "number_text" [.tuple [.int (if l.take 1 = [45] then 0 - (a : Int) else a), .int b]] = some (.str (S (numText (if l.take 1 = [45] then 0 - (a : Int) else a, (b : Int))))) := hT _ hq
    walk_at "ev"
    rw [h1, h2]
    walk_at "ev"
    rw [l_eqS (numText_asc _) g.asc]
    walk_at "ev"
    have t := told _ hq
    have t' : (if valid (if l.take 1 = [45] then 0 - (a : Int) else a, (b : Int)) = true then (some (PyData.bool (decide (numText (if l.take 1 = [45] then 0 - (a : Int) else a, (b : Int)) = l)))) else some (.bool false)).bind (fun x => ifD x (some (.tuple [.int (if l.take 1 = [45] then 0 - (a : Int) else a), .int b])) (some .none)) = some (optQ (chk l (if l.take 1 = [45] then 0 - (a : Int) else a, (b : Int)))) := t
    rw [t']
    rfl
  | a :: b :: c :: r, _, _ =>
    have h2 : decide ((2 : Int) < (((a :: b :: c :: r).length : Nat) : Int)) = true := decide_eq_true (by simp only [List.length_cons]; omega)
    rw [h2]
    walk_at "ev"
    have : numSel l (a :: b :: c :: r) = none := by
      cases a <;> cases b <;> rfl
    rw [this]
    rfl

end K81
namespace K81
open PySem PySem.Spec PyProof.Rows L2 JL M81 SX
open TL (tl)
local macro_rules | `(tactic| walk_at "ev") => `(tactic| simp only [e_lit, e_var, e_glob, e_bin, e_neg, e_cmp, e_chain, e_and, e_or, e_not, e_ife, e_own, e_bi, e_isi, e_split, e_join, e_idx, e_slc, e_tup, e_lst, e_fstr, a_nil, a_cons, s_set, s_par, s_if, s_ret, s_drop, b_nil, b_cons, l_and, l_or, l_not, l_neg, l_if, l_ifO, l_lt, l_le, l_gt, l_ge, l_eqI, l_neI, l_chainI, l_inC, l_ninC, l_is, l_isn, l_lenL, l_lenT, l_abs, l_tupL, l_tupT, l_add, l_sub,
  l_isi_s, l_isi_t, isiD, l_seq_nx, l_seq_rt, l_itL, l_itT, l_itS, l_it0, l_it1, l_il0, l_il1, isNoneD, Tg.bind, Tg.wipe,
  Option.bind_some, Option.bind_none, Option.map_some, Option.map_none, List.getElem?_cons_zero, List.getElem?_cons_succ, List.getElem?_nil, Option.join_some, List.set_cons_zero, List.set_cons_succ, Bool.not_true, Bool.not_false, Bool.false_eq_true, if_true, if_false])

theorem mapO_cases {α β : Type} {f : α → Option β} : ∀ l : List α, (∃ rs, mapO f l = some rs ∧ l.map f = rs.map some) ∨ (mapO f l = none ∧ (l.map f).any (·.isNone) = true)
  | [] => .inl ⟨[], rfl, rfl⟩
  | x :: r => by
    rw [List.map_cons, List.any_cons]
    show (∃ rs, (f x).bind (fun y => (mapO f r).map (y :: ·)) = some rs ∧ _) ∨ ((f x).bind (fun y => (mapO f r).map (y :: ·)) = none ∧ _)
    cases hx : f x with
    | none => exact .inr ⟨rfl, rfl⟩
    | some y =>
      rcases mapO_cases (f := f) r with ⟨rs, h1, h2⟩ | ⟨h1, h2⟩
      · rw [h1, h2]
        exact .inl ⟨y :: rs, rfl, rfl⟩
      · rw [h1, h2]
        exact .inr ⟨rfl, by simp⟩
theorem any_some {β : Type} (rs : List β) : (rs.map some).any (·.isNone) = false := by
  rw [List.any_map]
  exact List.any_eq_false.mpr fun x _ => by simp
theorem optQ_isNone (o : Option Q) : isNoneD (optQ o) = o.isNone := by cases o <;> rfl
theorem optR_isNone (o : Option (List Q)) : isNoneD (optR o) = o.isNone := by cases o <;> rfl
theorem noList_optQ (o : Option Q) : noList (optQ o) = true := by cases o <;> rfl
theorem any_isNone {α : Type} {f : α → PyData} {g : α → Bool} (h : ∀ x, isNoneD (f x) = g x) (l : List α) : ((l.map f).any fun d => isNoneD d) = l.any g := by
  rw [List.any_map]
  congr 1
  funext x
  exact h x
theorem ev_row_in (ft : FT) (hN : ∀ l, Good l → ft "number_in" [strD l] = some (optQ (numIn l))) (l : List Nat) (g : Good l) : evB ft gv 5000 c_row_in [some (strD l), none, none] = some (.rt (optR (rowIn l))) := by
  have hlim := lim_good g
  unfold c_row_in strD
  walk_at "ev"
  rw [gv_none, none_S]
  walk_at "ev"
  rw [l_eqS g.asc (by decide)]
  walk_at "ev"
  by_cases h0 : l = noneL
  · rw [decide_eq_true h0]
    walk_at "ev"
    unfold rowIn
    rw [if_pos h0]
    rfl
  rw [decide_eq_false h0]
  walk_at "ev"
  have gp : ∀ p ∈ TL.spl [32] 0 [] l, Good p := fun p h => g.spl h
  have hpl : (TL.spl [32] 0 [] l).length ≤ lim := by
    have := spl_len (s := [32]) l 0 []
    have := g.len
    unfold lim
    omega
  rw [e_map (items := (TL.spl [32] 0 [] l).map strD) (fun d => (ft "number_in" [d]).getD .none) (by walk_at "ev"; rw [blank_S]; exact l_split (by decide) (by decide) hlim) rfl (by rw [List.length_map]; exact hpl) (fun x hx => by
    obtain ⟨p, h, rfl⟩ := List.mem_map.mp hx
    refine ⟨_, rfl, ?_, ?_⟩
    · walk_at "ev"
      rw [hN p (gp p h)]
      rfl
    · show noList ((ft "number_in" [strD p]).getD .none) = true
      rw [hN p (gp p h)]
      exact noList_optQ _)]
  walk_at "ev"
  have e1 : (((TL.spl [32] 0 [] l).map strD).map fun d => (ft "number_in" [d]).getD .none) = ((TL.spl [32] 0 [] l).map numIn).map optQ := by
    rw [List.map_map, List.map_map]
    refine List.map_congr_left fun p h => ?_
    show (ft "number_in" [strD p]).getD .none = optQ (numIn p)
    rw [hN p (gp p h)]
    rfl
  rw [e1]
  have hlay : ∀ d ∈ ((TL.spl [32] 0 [] l).map numIn).map optQ, ∃ k, Lay k d ∧ k ≤ 60 := fun d hd => by
    obtain ⟨o, _, rfl⟩ := List.mem_map.mp hd
    cases o
    · exact ⟨0, lay_non, by decide⟩
    · exact ⟨1, lay_num _, by decide⟩
  rw [(in_none (f := fun (x : Nat) => some x) _ hlay).1, any_isNone optQ_isNone]
  walk_at "ev"
  unfold rowIn
  rw [if_neg h0]
  rcases mapO_cases (f := numIn) (TL.spl [32] 0 [] l) with ⟨rs, h1, h2⟩ | ⟨h1, h2⟩
  · rw [h1, h2, any_some]
    walk_at "ev"
    rw [List.map_map]
    rfl
  · rw [h1, h2]
    rfl
theorem ev_spell_in (ft : FT) (hN : ∀ l, Good l → ft "is_name" [strD l] = some (.bool (nameB l))) (l : List Nat) (g : Good l) : evB ft gv 5000 c_spell_in [some (strD l), none, none] = some (.rt (optSp (spellIn l))) := by
  have hlim := lim_good g
  unfold c_spell_in strD
  walk_at "ev"
  rw [gv_none, none_S]
  walk_at "ev"
  rw [l_eqS g.asc (by decide)]
  walk_at "ev"
  by_cases h0 : l = noneL
  · rw [decide_eq_true h0]
    walk_at "ev"
    unfold spellIn
    rw [if_pos h0]
    rfl
  rw [decide_eq_false h0]
  walk_at "ev"
  rw [blank_S, l_split (by decide) (by decide) hlim]
  walk_at "ev"
  have gp : ∀ p ∈ TL.spl [32] 0 [] l, Good p := fun p h => g.spl h
  have hpl : (TL.spl [32] 0 [] l).length ≤ lim := by
    have := spl_len (s := [32]) l 0 []
    have := g.len
    unfold lim
    omega
  rw [e_map (items := (TL.spl [32] 0 [] l).map strD) (fun d => (ft "is_name" [d]).getD .none) rfl rfl (by rw [List.length_map]; exact hpl) (fun x hx => by
    obtain ⟨p, h, rfl⟩ := List.mem_map.mp hx
    refine ⟨_, rfl, ?_, ?_⟩
    · walk_at "ev"
      rw [hN p (gp p h)]
      rfl
    · show noList ((ft "is_name" [strD p]).getD .none) = true
      rw [hN p (gp p h)]
      rfl)]
  walk_at "ev"
  have e1 : (((TL.spl [32] 0 [] l).map strD).map fun d => (ft "is_name" [d]).getD .none) = (TL.spl [32] 0 [] l).map fun p => .bool (nameB p) := by
    rw [List.map_map]
    refine List.map_congr_left fun p h => ?_
    show (ft "is_name" [strD p]).getD .none = .bool (nameB p)
    rw [hN p (gp p h)]
    rfl
  rw [e1, l_all]
  walk_at "ev"
  unfold spellIn
  rw [if_neg h0]
  cases (TL.spl [32] 0 [] l).all nameB <;> rfl
def wideD (rs : List (List Q)) : Bool := wide rs
theorem noListAll_of {α : Type} {f : α → PyData} (h : ∀ x, noList (f x) = true) : ∀ l : List α, noListAll (l.map f) = true
  | [] => rfl
  | x :: r => by
    show (noList (f x) && noListAll (r.map f)) = true
    rw [h x, noListAll_of h r]
    rfl
theorem noList_row (r : List Q) : noList (rowD r) = true := noListAll_of (f := numD) (fun _ => rfl) r
theorem noList_optR (o : Option (List Q)) : noList (optR o) = true := by
  cases o with
  | none => rfl
  | some r => exact noList_row r
theorem rowIn_len {l : List Nat} {r : List Q} (g : Good l) (h : rowIn l = some r) : r.length ≤ lim := by
  unfold rowIn at h
  split at h
  · cases h; decide
  · rcases mapO_cases (f := numIn) (TL.spl [32] 0 [] l) with ⟨rs, h1, h2⟩ | ⟨h1, _⟩
    · rw [h1] at h
      cases h
      have e := congrArg List.length h2
      rw [List.length_map, List.length_map] at e
      have := spl_len (s := [32]) l 0 []
      have := g.len
      unfold lim
      omega
    · rw [h1] at h; cases h
theorem ev_rows_in (ft : FT) (hN : ∀ l, Good l → ft "row_in" [strD l] = some (optR (rowIn l))) (l w : List Nat) (g : Good l) (gw : Good w) : evB ft gv 5000 c_rows_in [some (strD l), some (strD w), none, none, none] = some (.rt (optRs (rowsIn l w))) := by
  have hlim := lim_good g
  unfold c_rows_in strD
  walk_at "ev"
  rw [l_eqS g.asc gw.asc]
  walk_at "ev"
  by_cases h0 : l = w
  · rw [decide_eq_true h0]
    walk_at "ev"
    unfold rowsIn
    rw [if_pos h0]
    rfl
  rw [decide_eq_false h0]
  walk_at "ev"
  have gp : ∀ p ∈ TL.spl [44, 32] 0 [] l, Good p := fun p h => g.spl h
  have hpl : (TL.spl [44, 32] 0 [] l).length ≤ lim := by
    have := spl_len (s := [44, 32]) l 0 []
    have := g.len
    unfold lim
    omega
  rw [e_map (items := (TL.spl [44, 32] 0 [] l).map strD) (fun d => (ft "row_in" [d]).getD .none) (by walk_at "ev"; rw [gv_comma, comma_S]; walk_at "ev"; exact l_split (by decide) (by decide) hlim) rfl (by rw [List.length_map]; exact hpl) (fun x hx => by
    obtain ⟨p, h, rfl⟩ := List.mem_map.mp hx
    refine ⟨_, rfl, ?_, ?_⟩
    · walk_at "ev"
      rw [hN p (gp p h)]
      rfl
    · show noList ((ft "row_in" [strD p]).getD .none) = true
      rw [hN p (gp p h)]
      exact noList_optR _)]
  walk_at "ev"
  have e1 : (((TL.spl [44, 32] 0 [] l).map strD).map fun d => (ft "row_in" [d]).getD .none) = ((TL.spl [44, 32] 0 [] l).map rowIn).map optR := by
    rw [List.map_map, List.map_map]
    refine List.map_congr_left fun p h => ?_
    show (ft "row_in" [strD p]).getD .none = optR (rowIn p)
    rw [hN p (gp p h)]
    rfl
  rw [e1]
  have hlay : ∀ d ∈ ((TL.spl [44, 32] 0 [] l).map rowIn).map optR, ∃ k, Lay k d ∧ k ≤ 60 := fun d hd => by
    obtain ⟨o, _, rfl⟩ := List.mem_map.mp hd
    cases o
    · exact ⟨0, lay_non, by decide⟩
    · exact ⟨2, lay_row _, by decide⟩
  rw [(in_none (f := fun (x : Nat) => some x) _ hlay).2.2.2, any_isNone optR_isNone]
  walk_at "ev"
  unfold rowsIn
  rw [if_neg h0]
  rcases mapO_cases (f := rowIn) (TL.spl [44, 32] 0 [] l) with ⟨rs, h1, h2⟩ | ⟨h1, h2⟩
  · rw [h1, h2, any_some]
    walk_at "ev"
    have hrl : rs.length ≤ lim := by
      have e := congrArg List.length h2
      rw [List.length_map, List.length_map] at e
      omega
    have e2 : (rs.map some).map optR = rs.map rowD := by rw [List.map_map]; rfl
    rw [e2]
    cases rs with
    | nil =>
      exact absurd (List.map_eq_nil_iff.mp h2) (spl_ne _ _ _)
    | cons r0 rr =>
      rw [e_map (items := (r0 :: rr).map rowD) (fun d => match d with | .tuple ds => .bool (decide (ds.length = r0.length)) | _ => .none) rfl rfl (by rw [List.length_map]; exact hrl) (fun x hx => by
        obtain ⟨r, _, rfl⟩ := List.mem_map.mp hx
        refine ⟨_, rfl, ?_, rfl⟩
        unfold rowD
        rw [List.map_cons]
        walk_at "ev"
        rw [List.length_map, List.length_map]
        congr 2
        exact decide_eq_decide.mpr (by omega))]
      walk_at "ev"
      have e3 : (((r0 :: rr).map rowD).map fun d => match d with | .tuple ds => PyData.bool (decide (ds.length = r0.length)) | _ => .none) = (r0 :: rr).map fun r => .bool (decide (r.length = r0.length)) := by
        rw [List.map_map]
        refine List.map_congr_left fun r _ => ?_
        show PyData.bool (decide ((r.map numD).length = r0.length)) = _
        rw [List.length_map]
      rw [e3, l_all]
      walk_at "ev"
      show _ = some (Out.rt (optRs (if wide (r0 :: rr) = true then some (r0 :: rr) else none)))
      have : wide (r0 :: rr) = ((r0 :: rr).all fun r => decide (r.length = r0.length)) := rfl
      rw [this]
      cases ((r0 :: rr).all fun r => decide (r.length = r0.length)) <;> rfl
  · rw [h1, h2]
    rfl
theorem ev_course_in (ft : FT) (hN : ∀ l w, Good l → Good w → ft "rows_in" [strD l, strD w] = some (optRs (rowsIn l w))) (l : List Nat) (g : Good l) : evB ft gv 5000 c_course_in [some (strD l)] = some (.rt (optRs (rowsIn l restL))) := by
  unfold c_course_in strD
  walk_at "ev"
  rw [gv_rest, rest_S]
  walk_at "ev"
  have := hN l restL g ⟨by decide, by decide, DB.of_len (by decide)⟩
  unfold strD at this
  rw [this]
  rfl
theorem ev_readings_in (ft : FT) (hN : ∀ l w, Good l → Good w → ft "rows_in" [strD l, strD w] = some (optRs (rowsIn l w))) (l : List Nat) (g : Good l) : evB ft gv 5000 c_readings_in [some (strD l)] = some (.rt (optRs (rowsIn l nothingL))) := by
  unfold c_readings_in strD
  walk_at "ev"
  rw [gv_noth, noth_S]
  walk_at "ev"
  have := hN l nothingL g ⟨by decide, by decide, DB.of_len (by decide)⟩
  unfold strD at this
  rw [this]
  rfl
theorem ev_lines_of (ft : FT) (l : List Nat) (g : Good l) : evB ft gv 5000 c_lines_of [some (strD l)] = some (.rt (.list ((TL.spl [10] 0 [] l).map strD))) := by
  unfold c_lines_of strD
  walk_at "ev"
  rw [gv_le, lend_S]
  walk_at "ev"
  rw [l_split (by decide) (by decide) (lim_good g)]
  walk_at "ev"
  rfl

end K81
namespace K81
open PySem PySem.Spec PyProof.Rows L2 JL M81 SX
open TL (tl)
local macro_rules | `(tactic| walk_at "ev") => `(tactic| simp only [e_lit, e_var, e_glob, e_bin, e_neg, e_cmp, e_chain, e_and, e_or, e_not, e_ife, e_own, e_bi, e_isi, e_split, e_join, e_idx, e_slc, e_tup, e_lst, e_fstr, a_nil, a_cons, s_set, s_par, s_if, s_ret, s_drop, b_nil, b_cons, l_and, l_or, l_not, l_neg, l_if, l_ifO, l_lt, l_le, l_gt, l_ge, l_eqI, l_neI, l_chainI, l_inC, l_ninC, l_is, l_isn, l_lenL, l_lenT, l_abs, l_tupL, l_tupT, l_add, l_sub,
  l_isi_s, l_isi_t, isiD, l_seq_nx, l_seq_rt, l_itL, l_itT, l_itS, l_it0, l_it1, l_il0, l_il1, isNoneD, Tg.bind, Tg.wipe,
  Option.bind_some, Option.bind_none, Option.map_some, Option.map_none, List.getElem?_cons_zero, List.getElem?_cons_succ, List.getElem?_nil, Option.join_some, List.set_cons_zero, List.set_cons_succ, Bool.not_true, Bool.not_false, Bool.false_eq_true, if_true, if_false])

theorem compL_filter {α : Type} {bind : PyData → Option Rho} {cond elt : Rho → Option PyData} (h : α → PyData) (g : α → Bool) (f : α → PyData) : ∀ l : List α, (∀ x ∈ l, ∃ ρ, bind (h x) = some ρ ∧ cond ρ = some (.bool (g x)) ∧ (g x = true → elt ρ = some (f x) ∧ noList (f x) = true)) → compL bind cond elt (l.map h) = some ((l.filter g).map f)
  | [], _ => rfl
  | x :: r, hh => by
    obtain ⟨ρ, h1, h2, h3⟩ := hh x (List.mem_cons_self ..)
    have ih := compL_filter (bind := bind) (cond := cond) (elt := elt) h g f r fun y hy => hh y (List.mem_cons_of_mem _ hy)
    rw [List.map_cons]
    unfold compL
    rw [h1]
    show (cond ρ).bind _ = _
    rw [h2, List.filter_cons]
    cases hg : g x with
    | false =>
      show compL bind cond elt (r.map h) = _
      rw [ih]
      rfl
    | true =>
      obtain ⟨h4, h5⟩ := h3 hg
      show (elt ρ).bind (fun y => if noList y = true then (compL bind cond elt (r.map h)).map (y :: ·) else none) = _
      rw [h4]
      show (if noList (f x) = true then (compL bind cond elt (r.map h)).map (f x :: ·) else none) = _
      rw [if_pos h5, ih]
      rfl
theorem e_filter {α : Type} {ft : Str → List PyData → Option PyData} {gv : Str → Option PyData} {elt it cond : CE} {tg : Tg} {ρ : Rho} {dI : PyData} {l : List α} (h : α → PyData) (g : α → Bool) (f : α → PyData) (hI : evE ft gv it ρ = some dI) (hit : iterD dI = some (l.map h)) (hl : l.length ≤ lim)
    (hh : ∀ x ∈ l, ∃ ρ', tg.bind (tg.wipe ρ) (h x) = some ρ' ∧ evE ft gv cond ρ' = some (.bool (g x)) ∧ (g x = true → evE ft gv elt ρ' = some (f x) ∧ noList (f x) = true)) : evE ft gv (.comp elt tg it cond) ρ = some (.list ((l.filter g).map f)) := by
  show (evE ft gv it ρ).bind (fun x => (iterD x).bind fun items => if items.length ≤ lim then (compL (tg.bind (tg.wipe ρ)) (evE ft gv cond) (evE ft gv elt) items).map PyData.list else none) = _
  rw [hI]
  show (iterD dI).bind _ = _
  rw [hit]
  show (if (l.map h).length ≤ lim then _ else none) = _
  rw [if_pos (by rw [List.length_map]; exact hl)]
  have : compL (tg.bind (tg.wipe ρ)) (evE ft gv cond) (evE ft gv elt) (l.map h) = some ((l.filter g).map f) := compL_filter h g f l hh
  rw [this]
  rfl
theorem eqv_nilL (ds : List PyData) : PyData.eqv (.list ds) (.list []) = decide (ds = []) := by cases ds <;> rfl
theorem shaped_nilL : SeqAt.shaped (.list []) = true := rfl
theorem l_neNil {ds : List PyData} (h : ∀ d ∈ ds, Lay 3 d) : cmpD .NotEq (.list ds) (.list []) = some (!decide (ds = [])) := by
  rw [l_ne ((Lay.lst h).shaped (by decide)) shaped_nilL, eqv_nilL]
theorem l_eqNil {ds : List PyData} (h : ∀ d ∈ ds, Lay 3 d) : cmpD .Eq (.list ds) (.list []) = some (decide (ds = [])) := by
  rw [l_eq ((Lay.lst h).shaped (by decide)) shaped_nilL, eqv_nilL]
theorem filt_nil {α : Type} {g : α → Bool} {f : α → PyData} (l : List α) : decide ((l.filter g).map f = []) = !l.any g := by
  rw [Bool.eq_iff_iff]
  simp [List.filter_eq_nil_iff]
/-! ### the law's texts -/
theorem euclidG {T : Rho → Option PyData} {B : Rho → Option Out} (mk : Nat → Nat → Rho) (hT : ∀ a b : Nat, T (mk a b) = some (.bool (decide (0 < b)))) (hB : ∀ a b : Nat, b ≠ 0 → B (mk a b) = some (.nx (mk b (a % b)))) :
    ∀ (m a b n : Nat), b < 2 ^ m → 2 * m + 1 ≤ n → whileL T B n (mk a b) = some (.nx (mk (Nat.gcd a b) 0)) := by
  have stop : ∀ a n : Nat, 1 ≤ n → whileL T B n (mk a 0) = some (.nx (mk a 0)) := fun a n hn => by
    cases n with
    | zero => omega
    | succ n =>
      unfold whileL
      rw [hT a 0]
      rfl
  have go : ∀ a b n : Nat, b ≠ 0 → whileL T B (n + 1) (mk a b) = whileL T B n (mk b (a % b)) := fun a b n hb => by
    conv => lhs; unfold whileL
    rw [hT a b, decide_eq_true (Nat.pos_of_ne_zero hb)]
    show (B (mk a b)).bind _ = _
    rw [hB a b hb]
    rfl
  intro m
  induction m with
  | zero =>
    intro a b n hb hn
    have : b = 0 := by
      have e : (2 : Nat) ^ 0 = 1 := rfl
      omega
    subst this
    rw [stop a n (by omega), Nat.gcd_zero_right]
  | succ m ih =>
    intro a b n hb hn
    by_cases h0 : b = 0
    · subst h0
      rw [stop a n (by omega), Nat.gcd_zero_right]
    · obtain ⟨n1, rfl⟩ : ∃ n1, n = n1 + 1 := ⟨n - 1, by omega⟩
      rw [go a b n1 h0]
      have eg : Nat.gcd a b = Nat.gcd b (a % b) := by rw [Nat.gcd_comm a b, Nat.gcd_rec b a, Nat.gcd_comm]
      have hlt : a % b < b := Nat.mod_lt _ (Nat.pos_of_ne_zero h0)
      by_cases h1 : a % b = 0
      · rw [h1, stop b n1 (by omega), eg, h1, Nat.gcd_zero_right]
      · obtain ⟨n2, rfl⟩ : ∃ n2, n1 = n2 + 1 := ⟨n1 - 1, by omega⟩
        rw [go b (a % b) n2 h1]
        have hlt2 : b % (a % b) < a % b := Nat.mod_lt _ (Nat.pos_of_ne_zero h1)
        have hhalf : 2 * (b % (a % b)) < b := by
          by_cases hc : 2 * (a % b) ≤ b
          · omega
          · have : b % (a % b) = b - a % b := by
              rw [Nat.mod_eq_sub_mod (by omega), Nat.mod_eq_of_lt (by omega)]
            omega
        have hp : (2 : Nat) ^ (m + 1) = 2 * 2 ^ m := by rw [Nat.pow_succ, Nat.mul_comm]
        rw [ih (a % b) (b % (a % b)) n2 (by omega) (by omega)]
        have eg2 : Nat.gcd b (a % b) = Nat.gcd (a % b) (b % (a % b)) := by rw [Nat.gcd_comm b (a % b), Nat.gcd_rec (a % b) b, Nat.gcd_comm]
        rw [eg, eg2]
theorem log_lt {i : Int} {k : Nat} (h : i.natAbs < 2 ^ k) (hk : 0 < k) : i.natAbs.log2 < k := by
  by_cases h0 : i.natAbs = 0
  · rw [h0]; exact hk
  · exact (Nat.log2_lt h0).mpr h
theorem ev_law_fr (ft : FT) (t b : Int) (hb : 1 ≤ b) (h1 : t.natAbs < 10 ^ 550) (h2 : b.natAbs < 10 ^ 550) : evB ft gv 5000 c_law_fr [some (.int t), some (.int b), none, none, none] = some (.rt (numD (fr t b))) := by
  have ha : ∀ i : Int, (if i < 0 then -i else i) = ((i.natAbs : Nat) : Int) := fun i => by split <;> omega
  unfold c_law_fr
  walk_at "ev"
  rw [ha, ha, s_whl]
  have e := euclidG (T := evE ft gv (.cmp .Gt (.var 3) (.lit (.int 0)))) (B := evB ft gv 5000 [.par 2 3 (.var 3) (.bin .Mod (.var 2) (.var 3))]) (fun x y => [some (.int t), some (.int b), some (.int x), some (.int y), none])
    (fun a b => by
      walk_at "ev"
      have : decide ((0 : Int) < (b : Int)) = decide (0 < b) := decide_eq_decide.mpr (by omega)
      rw [this])
    (fun a b hb => by
      walk_at "ev"
      have : binD .Mod (.int (a : Int)) (.int (b : Int)) = some (.int ((a % b : Nat) : Int)) := by
        show (if (b : Int) ≠ 0 then some (PyData.int ((a : Int).fmod b)) else none) = _
        rw [if_pos (by omega), Int.fmod_eq_emod_of_nonneg _ (by omega)]
        rfl
      rw [this]
      walk_at "ev")
    1830 t.natAbs b.natAbs 5000 (Nat.lt_trans h2 pow550) (by decide)
  rw [e]
  walk_at "ev"
  rw [decide_eq_false (by omega)]
  walk_at "ev"
  have hg0 : 0 < Nat.gcd t.natAbs b.natAbs := Nat.gcd_pos_of_pos_right _ (by omega)
  have hgl : Nat.gcd t.natAbs b.natAbs < 2 ^ 1830 := Nat.lt_of_le_of_lt (Nat.le_of_dvd (by omega) (Nat.gcd_dvd_right _ _)) (Nat.lt_trans h2 pow550)
  have mul : ∀ i : Int, i.natAbs < 10 ^ 550 → binD .Mult (.int 1) (.int i) = some (.int i) := fun i hi => by
    show (if (1 : Int).natAbs.log2 + i.natAbs.log2 < 1000000 then some (PyData.int (1 * i)) else none) = _
    have := log_lt (Nat.lt_trans hi pow550) (by decide)
    rw [if_pos (by rw [show (1 : Int).natAbs.log2 = 0 from by decide]; omega), Int.one_mul]
  have div : ∀ i : Int, binD .FloorDiv (.int i) (.int (Nat.gcd t.natAbs b.natAbs : Nat)) = some (.int (i / (Nat.gcd t.natAbs b.natAbs : Nat))) := fun i => by
    show (if 0 < ((Nat.gcd t.natAbs b.natAbs : Nat) : Int) ∧ ((Nat.gcd t.natAbs b.natAbs : Nat) : Int).natAbs.log2 < 9000 then _ else none) = _
    rw [if_pos ⟨by omega, by
      have := log_lt (i := ((Nat.gcd t.natAbs b.natAbs : Nat) : Int)) (k := 1830) (by rw [Int.natAbs_natCast]; exact hgl) (by decide)
      omega⟩]
  rw [mul t h1, mul b h2]
  walk_at "ev"
  rw [div t, div b]
  walk_at "ev"
  rw [if_pos (two1000 _ _)]
  rfl

theorem l_cat {a b : List Nat} (h : a.length + b.length ≤ lim) : binD .Add (.str (S a)) (.str (S b)) = some (.str (S (a ++ b))) := by
  show (if (S a).length + (S b).length ≤ lim then some (PyData.str (S a ++ S b)) else none) = _
  rw [S_len, S_len, if_pos h, S_cat]
theorem ev_law_number_text (ft : FT) (q : Q) (hq : small q) : evB ft gv 5000 c_law_number_text [some (numD q)] = some (.rt (strD (numText q))) := by
  obtain ⟨a, b⟩ := q
  unfold c_law_number_text numD
  have h1 := log_small hq.1
  have h2 := log_small hq.2
  have k1 := intL_len (by decide) hq.1
  have k2 := intL_len (by decide) hq.2
  walk_at "ev"
  rw [l_str h1, l_str h2, slash_S]
  unfold strD
  walk_at "ev"
  rw [l_cat (by unfold lim; simp only at *; simp only [List.length_cons, List.length_nil]; omega)]
  walk_at "ev"
  rw [l_cat (by unfold lim; simp only at *; simp only [List.length_append, List.length_cons, List.length_nil]; omega)]
  unfold numText
  by_cases hb : b = 1
  · rw [decide_eq_true hb, if_pos hb]
    walk_at "ev"
  · rw [decide_eq_false hb, if_neg hb]
    walk_at "ev"
    rw [List.append_assoc]
    rfl
theorem ev_law_row_text (ft : FT) (hT : ∀ q, small q → ft "_law_number_text" [numD q] = some (strD (numText q))) (r : List Q) (h : RowOk r) : evB ft gv 5000 c_law_row_text [some (rowD r), none] = some (.rt (strD (rowText r))) := by
  unfold c_law_row_text rowD
  walk_at "ev"
  rw [if_pos (by decide)]
  walk_at "ev"
  rw [l_ne ((lay_row r).shaped (by decide)) shaped_nil, eqv_nil]
  walk_at "ev"
  have hm : decide (r.map numD = []) = decide (r = []) := decide_eq_decide.mpr (by simp)
  rw [hm]
  unfold rowText
  by_cases hr : r = []
  · rw [decide_eq_true hr, if_pos hr, none_S]
    walk_at "ev"
    rfl
  · rw [decide_eq_false hr, if_neg hr]
    walk_at "ev"
    have hmap : ∀ d ∈ r.map numD, ∃ ρ', Tg.bind (.one 1) (Tg.wipe (.one 1) [some (.tuple (r.map numD)), none]) d = some ρ' ∧ evE ft gv (.own "_law_number_text" [.var 1]) ρ' = some ((fun d => (ft "_law_number_text" [d]).getD .none) d) ∧ noList ((fun d => (ft "_law_number_text" [d]).getD .none) d) = true := fun x hx => by
      obtain ⟨q, hq, rfl⟩ := List.mem_map.mp hx
      refine ⟨_, rfl, ?_, ?_⟩
      · walk_at "ev"
        rw [hT q (h.sm q hq)]
        rfl
      · show noList ((ft "_law_number_text" [numD q]).getD .none) = true
        rw [hT q (h.sm q hq)]
        rfl
    rw [e_map (items := r.map numD) (fun d => (ft "_law_number_text" [d]).getD .none) rfl rfl (by rw [List.length_map]; have := h.len; unfold lim; omega) hmap]
    walk_at "ev"
    have e : ((r.map numD).map fun d => (ft "_law_number_text" [d]).getD .none) = (r.map numText).map strD := by
      rw [List.map_map, List.map_map]
      refine List.map_congr_left fun q hq => ?_
      show (ft "_law_number_text" [numD q]).getD .none = strD (numText q)
      rw [hT q (h.sm q hq)]
      rfl
    rw [e, blank_S]
    have hz := l_join (z := [32]) (ys := r.map numText) (by
      have b : ((r.map numText).map (·.length)).sum ≤ r.length * 1103 := by
        rw [List.map_map]
        exact sum_le fun q hq => numText_len (k := 550) (by decide) (h.sm q hq).1 (h.sm q hq).2
      have c := h.len
      have e : r.length * 1103 ≤ 20 * 1103 := Nat.mul_le_mul_right _ c
      rw [List.length_map]
      simp only [List.length_cons, List.length_nil]
      unfold lim
      omega)
    have hz' : joinD (.str (S [32])) (.list ((r.map numText).map strD)) = some (strD (TL.joinL [32] (r.map numText))) := hz
    rw [hz']
    walk_at "ev"
theorem ev_law_rows_text (ft : FT) (hT : ∀ r, RowOk r → ft "_law_row_text" [rowD r] = some (strD (rowText r))) (rs : List (List Q)) (w : List Nat) (h : RowsOk rs) : evB ft gv 5000 c_law_rows_text [some (rowsD rs), some (strD w), none] = some (.rt (strD (rowsText rs w))) := by
  unfold c_law_rows_text rowsD
  walk_at "ev"
  rw [if_pos (by decide)]
  walk_at "ev"
  rw [l_ne ((lay_rows rs).shaped (by decide)) shaped_nil, eqv_nil]
  walk_at "ev"
  have hm : decide (rs.map rowD = []) = decide (rs = []) := decide_eq_decide.mpr (by simp)
  rw [hm]
  unfold rowsText
  by_cases hr : rs = []
  · rw [decide_eq_true hr, if_pos hr]
    walk_at "ev"
  · rw [decide_eq_false hr, if_neg hr]
    walk_at "ev"
    have hmap : ∀ d ∈ rs.map rowD, ∃ ρ', Tg.bind (.one 2) (Tg.wipe (.one 2) [some (.tuple (rs.map rowD)), some (strD w), none]) d = some ρ' ∧ evE ft gv (.own "_law_row_text" [.var 2]) ρ' = some ((fun d => (ft "_law_row_text" [d]).getD .none) d) ∧ noList ((fun d => (ft "_law_row_text" [d]).getD .none) d) = true := fun x hx => by
      obtain ⟨r, hq, rfl⟩ := List.mem_map.mp hx
      refine ⟨_, rfl, ?_, ?_⟩
      · walk_at "ev"
        rw [hT r (h.row r hq)]
        rfl
      · show noList ((ft "_law_row_text" [rowD r]).getD .none) = true
        rw [hT r (h.row r hq)]
        rfl
    rw [e_map (items := rs.map rowD) (fun d => (ft "_law_row_text" [d]).getD .none) rfl rfl (by rw [List.length_map]; have := h.len; unfold lim; omega) hmap]
    walk_at "ev"
    have e : ((rs.map rowD).map fun d => (ft "_law_row_text" [d]).getD .none) = (rs.map rowText).map strD := by
      rw [List.map_map, List.map_map]
      refine List.map_congr_left fun r hr => ?_
      show (ft "_law_row_text" [rowD r]).getD .none = strD (rowText r)
      rw [hT r (h.row r hr)]
      rfl
    rw [e, comma_S]
    have hz := l_join (z := [44, 32]) (ys := rs.map rowText) (by
      have b : ((rs.map rowText).map (·.length)).sum ≤ rs.length * 22200 := by
        rw [List.map_map]
        exact sum_le fun r hr => row_len (h.row r hr)
      have c := h.len
      have e : rs.length * 22200 ≤ 4 * 22200 := Nat.mul_le_mul_right _ c
      rw [List.length_map]
      simp only [List.length_cons, List.length_nil]
      unfold lim
      omega)
    have hz' : joinD (.str (S [44, 32])) (.list ((rs.map rowText).map strD)) = some (strD (TL.joinL [44, 32] (rs.map rowText))) := hz
    rw [hz']
    walk_at "ev"
theorem ev_law_spell_text (ft : FT) (ns : List (List Nat)) (h : ∀ n ∈ ns, nameB n = true) (hl : ns.length ≤ 1000) : evB ft gv 5000 c_law_spell_text [some (spellD ns)] = some (.rt (strD (spellText ns))) := by
  unfold c_law_spell_text spellD
  walk_at "ev"
  rw [if_pos (by decide)]
  walk_at "ev"
  rw [l_ne ((lay_spell fun n hn => name_asc (h n hn)).shaped (by decide)) shaped_nil, eqv_nil]
  walk_at "ev"
  have hm : decide (ns.map strD = []) = decide (ns = []) := decide_eq_decide.mpr (by simp)
  rw [hm]
  unfold spellText
  by_cases hr : ns = []
  · rw [decide_eq_true hr, if_pos hr, none_S]
    walk_at "ev"
    rfl
  · rw [decide_eq_false hr, if_neg hr, blank_S]
    walk_at "ev"
    have hz : joinD (.str (S [32])) (.tuple (ns.map strD)) = some (strD (TL.joinL [32] ns)) := l_joinT (z := [32]) (ys := ns) (by
      have b : (ns.map (·.length)).sum ≤ ns.length * 12 := sum_le fun n hn => name_len (h n hn)
      simp only [List.length_cons, List.length_nil]
      unfold lim
      omega)
    rw [hz]
    walk_at "ev"

end K81
namespace K81
open PySem PySem.Spec PyProof.Rows L2 JL M81 SX
open TL (tl)
local macro_rules | `(tactic| walk_at "ev") => `(tactic| simp only [e_lit, e_var, e_glob, e_bin, e_neg, e_cmp, e_chain, e_and, e_or, e_not, e_ife, e_own, e_bi, e_isi, e_split, e_join, e_idx, e_slc, e_tup, e_lst, e_fstr, a_nil, a_cons, s_set, s_par, s_if, s_ret, s_drop, b_nil, b_cons, l_and, l_or, l_not, l_neg, l_if, l_ifO, l_lt, l_le, l_gt, l_ge, l_eqI, l_neI, l_chainI, l_inC, l_ninC, l_is, l_isn, l_lenL, l_lenT, l_abs, l_tupL, l_tupT, l_add, l_sub,
  l_isi_s, l_isi_t, isiD, l_seq_nx, l_seq_rt, l_itL, l_itT, l_itS, l_it0, l_it1, l_il0, l_il1, isNoneD, Tg.bind, Tg.wipe,
  Option.bind_some, Option.bind_none, Option.map_some, Option.map_none, List.getElem?_cons_zero, List.getElem?_cons_succ, List.getElem?_nil, Option.join_some, List.set_cons_zero, List.set_cons_succ, Bool.not_true, Bool.not_false, Bool.false_eq_true, if_true, if_false])

def optZ : Option Int → PyData
  | none => .none
  | some i => .int i
theorem readW_small {l : List Nat} {i : Int} (g : Good l) (h : readW l = some i) : i.natAbs < 10 ^ 550 := by
  have e := readW_iff.mp h
  have gn : Good (TL.numL i.natAbs) := by
    unfold intL at e
    split at e
    · have := g.drop 1
      rw [e] at this
      exact this
    · rw [e] at g
      exact g
  exact whole_lt gn (wholeIn_iff.mpr rfl)
theorem intL_asc (i : Int) : ∀ c ∈ intL i, c < 128 := numText_asc (i, 1)
theorem lay_int (i : Int) : Lay 3 (.int i) := ⟨rfl, Nat.zero_le _⟩
theorem ev_law_read_whole (ft : FT) (l : List Nat) (g : Good l) : evB ft gv 5000 c_law_read_whole [some (strD l), none, none, none] = some (.rt (optZ (readW l))) := by
  have hlim := lim_good g
  unfold c_law_read_whole strD
  walk_at "ev"
  rw [l_take1 hlim, l_drop1 hlim, minus_S]
  walk_at "ev"
  rw [l_eqS (take1_asc g.asc 1) (by decide)]
  walk_at "ev"
  have gb : Good (if l.take 1 = [45] then l.drop 1 else l) := by
    split
    · exact g.drop 1
    · exact g
  have hbody : (if decide (l.take 1 = [45]) = true then some (PyData.str (S (l.drop 1))) else some (.str (S l))) = some (.str (S (if l.take 1 = [45] then l.drop 1 else l))) := by
    by_cases hc : l.take 1 = [45]
    · rw [if_pos (decide_eq_true hc), if_pos hc]
    · rw [if_neg (by rw [decide_eq_false hc]; decide), if_neg hc]
  rw [hbody]
  walk_at "ev"
  unfold readW
  generalize hdg : (if l.take 1 = [45] then l.drop 1 else l) = dg at gb
  rw [empty_S, l_eqS gb.asc asc_nil]
  walk_at "ev"
  by_cases h0 : dg = []
  · rw [decide_eq_true h0]
    walk_at "ev"
    rw [if_pos (.inl h0)]
    rfl
  rw [decide_eq_false h0]
  walk_at "ev"
  rw [l_lenS (lim_good gb), S_len]
  walk_at "ev"
  rw [e_filter (l := dg) (fun c => .str ⟨#[c]⟩) (fun c => !(decide (48 ≤ c) && decide (c ≤ 57))) (fun _ => .int 1) rfl rfl (Nat.le_trans gb.len (by decide)) (fun c _ => ⟨_, rfl, by walk_at "ev"; rw [mem_digits], fun _ => ⟨rfl, rfl⟩⟩)]
  walk_at "ev"
  rw [if_pos (show ([] : List PyData).length ≤ 1000 by decide)]
  walk_at "ev"
  rw [l_neNil (fun d hd => by
    obtain ⟨c, _, rfl⟩ := List.mem_map.mp hd
    exact lay_int 1), filt_nil, any_not_dig]
  walk_at "ev"
  cases hd : allDig dg with
  | false =>
    have e : ∀ x : Bool, (if x = true then some (PyData.bool true) else some (PyData.bool (!!!false))) = some (.bool true) := fun x => by cases x <;> rfl
    rw [e]
    walk_at "ev"
    rw [if_pos (.inr trivial)]
    rfl
  | true =>
    have hs := dig_short gb hd
    rw [decide_eq_false (by omega)]
    walk_at "ev"
    rw [int_text hd h0 (by omega)]
    walk_at "ev"
    have hnd : ¬ (dg = [] ∨ true = false) := fun z => z.elim h0 (fun y => nomatch y)
    rw [if_neg hnd]
    have top : ∀ a : Nat, (if decide (l.take 1 = [45]) = true then some (PyData.int (0 - (a : Int))) else some (.int a)) = some (.int (if l.take 1 = [45] then 0 - (a : Int) else a)) := fun a => by
      by_cases hc : l.take 1 = [45]
      · rw [if_pos (decide_eq_true hc), if_pos hc]
      · rw [if_neg (by rw [decide_eq_false hc]; decide), if_neg hc]
    rw [l_take1 hlim]
    walk_at "ev"
    rw [l_eqS (take1_asc g.asc 1) (by decide)]
    walk_at "ev"
    rw [top]
    walk_at "ev"
    have hv := digits_lt dg 0 (allDig_iff.mp hd)
    have hv : NumText.digitsVal dg < (0 + 1) * 10 ^ dg.length := hv
    have hv : NumText.digitsVal dg < 10 ^ 550 := by
      rw [Nat.zero_add, Nat.one_mul] at hv
      exact Nat.lt_of_lt_of_le hv (Nat.pow_le_pow_right (by decide) (by omega))
    have hn : (if l.take 1 = [45] then 0 - (NumText.digitsVal dg : Int) else (NumText.digitsVal dg : Int)).natAbs < 10 ^ 550 := by
      have : (if l.take 1 = [45] then 0 - (NumText.digitsVal dg : Int) else (NumText.digitsVal dg : Int)).natAbs = NumText.digitsVal dg := by split <;> omega
      rw [this]
      exact hv
    generalize (if l.take 1 = [45] then 0 - (NumText.digitsVal dg : Int) else (NumText.digitsVal dg : Int)) = n at hn
    rw [l_str (log_small hn)]
    unfold strD
    walk_at "ev"
    rw [l_eqS (intL_asc n) g.asc]
    walk_at "ev"
    by_cases hc : intL n = l
    · rw [decide_eq_true hc, if_pos hc]
      rfl
    · rw [decide_eq_false hc, if_neg hc]
      rfl
theorem one_small : (1 : Int).natAbs < 10 ^ 550 := by
  have : (10 : Nat) ^ 0 < 10 ^ 550 := Nat.pow_lt_pow_right (by decide) (by decide)
  exact this
theorem fr_small {t b : Int} (h1 : t.natAbs < 10 ^ 550) (h2 : b.natAbs < 10 ^ 550) (hb : 1 ≤ b) : small (fr t b) := by
  have hg : 0 < Nat.gcd t.natAbs b.natAbs := Nat.gcd_pos_of_pos_right _ (by omega)
  have dv : ∀ i : Int, (i / (Nat.gcd t.natAbs b.natAbs : Int)).natAbs ≤ i.natAbs := fun i => Int.natAbs_ediv_le_natAbs _ _
  exact ⟨Nat.lt_of_le_of_lt (dv t) h1, Nat.lt_of_le_of_lt (dv b) h2⟩
theorem ev_law_read_number (ft : FT) (hW : ∀ l, Good l → ft "_law_read_whole" [strD l] = some (optZ (readW l))) (hF : ∀ t b : Int, 1 ≤ b → t.natAbs < 10 ^ 550 → b.natAbs < 10 ^ 550 → ft "_law_fr" [.int t, .int b] = some (numD (fr t b))) (hT : ∀ q, small q → ft "_law_number_text" [numD q] = some (strD (numText q)))
    (l : List Nat) (g : Good l) : evB ft gv 5000 c_law_read_number [some (strD l), none, none, none, none] = some (.rt (optQ (numLaw l))) := by
  have hlim := lim_good g
  unfold c_law_read_number strD
  walk_at "ev"
  rw [slash_S, l_split (by decide) (by decide) hlim]
  walk_at "ev"
  unfold numLaw
  generalize hp : TL.spl [47] 0 [] l = parts
  have gp : ∀ p ∈ parts, Good p := fun p h => g.spl (by rw [hp]; exact h)
  have hpn : parts ≠ [] := by rw [← hp]; exact spl_ne _ _ _
  -- once the number is found
  have fin : ∀ t b : Int, ∀ d1 d2 d3 : PyData, 1 ≤ b → t.natAbs < 10 ^ 550 → b.natAbs < 10 ^ 550 → evB ft gv 5000 [.set 4 (.own "_law_fr" [.var 2, .var 3]), .ret (.ife (.cmp .Eq (.own "_law_number_text" [.var 4]) (.var 0)) (.var 4) (.lit .none))] [some (.str (S l)), some d1, some (.int t), some (.int b), none] = some (.rt (optQ (if numText (fr t b) = l then some (fr t b) else none))) := fun t b d1 d2 d3 hb h1 h2 => by
    walk_at "ev"
    rw [hF t b hb h1 h2]
    walk_at "ev"
    rw [hT _ (fr_small h1 h2 hb)]
    unfold strD
    walk_at "ev"
    rw [l_eqS (numText_asc _) g.asc]
    walk_at "ev"
    by_cases hc : numText (fr t b) = l
    · rw [decide_eq_true hc, if_pos hc]
      rfl
    · rw [decide_eq_false hc, if_neg hc]
      rfl
  match parts, hpn, gp with
  | [p], _, gp =>
    simp only [List.map_cons, List.map_nil]
    walk_at "ev"
    rw [hW p (gp p (by simp))]
    walk_at "ev"
    rw [show decide (((([strD p]).length : Nat) : Int) = 2) = false from rfl]
    walk_at "ev"
    rw [show decide ((2 : Int) < ((([strD p]).length : Nat) : Int)) = false from rfl]
    walk_at "ev"
    cases h1 : readW p with
    | none => rfl
    | some t =>
      unfold optZ
      walk_at "ev"
      rw [show decide ((1 : Int) < 1) = false from rfl]
      walk_at "ev"
      exact fin t 1 _ .none .none (by decide) (readW_small (gp p (by simp)) h1) one_small
  | [p, r], _, gp =>
    simp only [List.map_cons, List.map_nil]
    walk_at "ev"
    rw [hW p (gp p (by simp))]
    walk_at "ev"
    rw [show decide (((([strD p, strD r]).length : Nat) : Int) = 2) = true from rfl]
    walk_at "ev"
    rw [hW r (gp r (by simp))]
    walk_at "ev"
    rw [show decide ((2 : Int) < ((([strD p, strD r]).length : Nat) : Int)) = false from rfl]
    walk_at "ev"
    cases h1 : readW p with
    | none => rfl
    | some t =>
      cases h2 : readW r with
      | none => rfl
      | some b =>
        unfold optZ
        walk_at "ev"
        by_cases hb : b < 1
        · rw [decide_eq_true hb]
          walk_at "ev"
          rw [if_pos hb]
          rfl
        · rw [decide_eq_false hb]
          walk_at "ev"
          rw [if_neg hb]
          exact fin t b _ .none .none (by omega) (readW_small (gp p (by simp)) h1) (readW_small (gp r (by simp)) h2)
  | p :: r :: s :: rest, _, gp =>
    simp only [List.map_cons]
    walk_at "ev"
    rw [hW p (gp p (by simp))]
    walk_at "ev"
    rw [decide_eq_false (by simp only [List.length_cons]; omega)]
    walk_at "ev"
    rw [decide_eq_true (by simp only [List.length_cons]; omega)]
    walk_at "ev"
    rfl
theorem ev_law_read_row (ft : FT) (hN : ∀ l, Good l → ft "_law_read_number" [strD l] = some (optQ (numLaw l))) (l : List Nat) (g : Good l) : evB ft gv 5000 c_law_read_row [some (strD l), none, none] = some (.rt (optR (rowLaw l))) := by
  have hlim := lim_good g
  unfold c_law_read_row strD
  walk_at "ev"
  rw [none_S, l_eqS g.asc (by decide)]
  walk_at "ev"
  by_cases h0 : l = noneL
  · rw [decide_eq_true h0]
    walk_at "ev"
    unfold rowLaw
    rw [if_pos h0]
    rfl
  rw [decide_eq_false h0]
  walk_at "ev"
  have gp : ∀ p ∈ TL.spl [32] 0 [] l, Good p := fun p h => g.spl h
  have hpl : (TL.spl [32] 0 [] l).length ≤ lim := by
    have := spl_len (s := [32]) l 0 []
    have := g.len
    unfold lim
    omega
  rw [e_map (items := (TL.spl [32] 0 [] l).map strD) (fun d => (ft "_law_read_number" [d]).getD .none) (by walk_at "ev"; rw [blank_S]; exact l_split (by decide) (by decide) hlim) rfl (by rw [List.length_map]; exact hpl) (fun x hx => by
    obtain ⟨p, h, rfl⟩ := List.mem_map.mp hx
    refine ⟨_, rfl, ?_, ?_⟩
    · walk_at "ev"
      rw [hN p (gp p h)]
      rfl
    · show noList ((ft "_law_read_number" [strD p]).getD .none) = true
      rw [hN p (gp p h)]
      exact noList_optQ _)]
  walk_at "ev"
  have e1 : (((TL.spl [32] 0 [] l).map strD).map fun d => (ft "_law_read_number" [d]).getD .none) = ((TL.spl [32] 0 [] l).map numLaw).map optQ := by
    rw [List.map_map, List.map_map]
    refine List.map_congr_left fun p h => ?_
    show (ft "_law_read_number" [strD p]).getD .none = optQ (numLaw p)
    rw [hN p (gp p h)]
    rfl
  rw [e1]
  have hlay : ∀ d ∈ ((TL.spl [32] 0 [] l).map numLaw).map optQ, ∃ k, Lay k d ∧ k ≤ 60 := fun d hd => by
    obtain ⟨o, _, rfl⟩ := List.mem_map.mp hd
    cases o
    · exact ⟨0, lay_non, by decide⟩
    · exact ⟨1, lay_num _, by decide⟩
  rw [(in_none (f := fun (x : Nat) => some x) _ hlay).2.2.2, any_isNone optQ_isNone]
  walk_at "ev"
  unfold rowLaw
  rw [if_neg h0]
  rcases mapO_cases (f := numLaw) (TL.spl [32] 0 [] l) with ⟨rs, h1, h2⟩ | ⟨h1, h2⟩
  · rw [h1, h2, any_some]
    walk_at "ev"
    rw [List.map_map]
    rfl
  · rw [h1, h2]
    rfl
theorem a_S : ("a" : Str) = S [97] := by decide +kernel
theorem z_S : ("z" : Str) = S [122] := by decide +kernel
theorem l_leC (c d : Nat) : cmpD .LtE (.str (S [c])) (.str (S [d])) = some (decide (c ≤ d)) := by
  show some (!decide ([d] < [c])) = _
  have h : ([d] < [c]) ↔ d < c := by
    rw [List.cons_lt_cons_iff]
    simp
  congr 1
  rw [Bool.eq_iff_iff]
  simp only [Bool.not_eq_true', decide_eq_false_iff_not, decide_eq_true_eq, h]
  omega
theorem l_chainC (c : Nat) : chainD .LtE .LtE (.str (S [97])) (.str (S [c])) (some (.str (S [122]))) = some (.bool (isLet c)) := by
  unfold chainD
  rw [l_leC]
  unfold isLet
  cases decide (97 ≤ c) with
  | false => rfl
  | true =>
    show (cmpD .LtE (.str (S [c])) (.str (S [122]))).map PyData.bool = _
    rw [l_leC]
    rfl
theorem ev_law_is_name (ft : FT) (l : List Nat) (g : Good l) : evB ft gv 5000 c_law_is_name [some (strD l), none] = some (.rt (.bool (nameB l))) := by
  have hlim := lim_good g
  have hlen : (S l).length = l.length := S_len l
  unfold c_law_is_name strD
  walk_at "ev"
  rw [l_lenS hlim]
  walk_at "ev"
  rw [hlen]
  by_cases hb : 1 ≤ l.length ∧ l.length ≤ 12
  · cases l with
    | nil => exact absurd hb.1 (by decide)
    | cons c r =>
      have h1 : decide ((1 : Int) ≤ (((c :: r).length : Nat) : Int)) = true := decide_eq_true (by omega)
      have h2 : decide ((((c :: r).length : Nat) : Int) ≤ 12) = true := decide_eq_true (by omega)
      rw [h1, h2, l_item0 hlim rfl]
      simp only [Bool.and_self, Bool.not_true]
      walk_at "ev"
      have hn : nameB (c :: r) = (isLet c && (c :: r).all isSign) := by
        unfold nameB
        rw [decide_eq_true hb.1, decide_eq_true hb.2]
        simp
      have hch : chainD .LtE .LtE (.str ("a" : Str)) (.str ⟨#[c]⟩) (some (.str ("z" : Str))) = some (.bool (isLet c)) := by
        rw [a_S, z_S]
        exact l_chainC c
      rw [hch]
      walk_at "ev"
      cases hc : isLet c with
      | false =>
        walk_at "ev"
        rw [hn, hc]
        rfl
      | true =>
        walk_at "ev"
        rw [e_filter (l := c :: r) (fun c => .str ⟨#[c]⟩) (fun c => !isSign c) (fun c => .str ⟨#[c]⟩) rfl rfl (Nat.le_trans g.len (by decide)) (fun k _ => ⟨_, rfl, by walk_at "ev"; rw [mem_signs], fun _ => ⟨rfl, rfl⟩⟩)]
        walk_at "ev"
        rw [if_pos (show ([] : List PyData).length ≤ 1000 by decide)]
        walk_at "ev"
        rw [l_eqNil (fun d hd => by
          obtain ⟨k, hk, rfl⟩ := List.mem_map.mp hd
          have hk := (List.mem_filter.mp hk).1
          exact (lay_str (l := [k]) (fun x hx => by simp at hx; rw [hx]; exact g.asc k hk)).mono (by decide)), filt_nil]
        walk_at "ev"
        rw [hn, hc]
        have : (!(c :: r).any fun c => !isSign c) = (c :: r).all isSign := by
          rw [← List.not_all_eq_any_not, Bool.not_not]
        rw [this]
        rfl
  · have h1 : (decide ((1 : Int) ≤ ((l.length : Nat) : Int)) && decide (((l.length : Nat) : Int) ≤ 12)) = false := by
      rw [Bool.and_eq_false_iff, decide_eq_false_iff_not, decide_eq_false_iff_not]
      omega
    rw [h1]
    walk_at "ev"
    have hn : nameB l = false := by
      unfold nameB
      rw [← Bool.decide_and, decide_eq_false hb]
      rfl
    rw [hn]
theorem ev_law_read_spell (ft : FT) (hN : ∀ l, Good l → ft "_law_is_name" [strD l] = some (.bool (nameB l))) (l : List Nat) (g : Good l) : evB ft gv 5000 c_law_read_spell [some (strD l), none, none] = some (.rt (optSp (spellIn l))) := by
  have hlim := lim_good g
  unfold c_law_read_spell strD
  walk_at "ev"
  rw [none_S, l_eqS g.asc (by decide)]
  walk_at "ev"
  by_cases h0 : l = noneL
  · rw [decide_eq_true h0]
    walk_at "ev"
    unfold spellIn
    rw [if_pos h0]
    rfl
  rw [decide_eq_false h0]
  walk_at "ev"
  rw [blank_S, l_split (by decide) (by decide) hlim]
  walk_at "ev"
  have gp : ∀ p ∈ TL.spl [32] 0 [] l, Good p := fun p h => g.spl h
  have hpl : (TL.spl [32] 0 [] l).length ≤ lim := by
    have := spl_len (s := [32]) l 0 []
    have := g.len
    unfold lim
    omega
  rw [e_filter (l := TL.spl [32] 0 [] l) strD (fun p => !nameB p) strD rfl rfl hpl (fun p h => ⟨_, rfl, by walk_at "ev"; rw [hN p (gp p h)]; walk_at "ev", fun _ => ⟨rfl, rfl⟩⟩)]
  walk_at "ev"
  rw [if_pos (show ([] : List PyData).length ≤ 1000 by decide)]
  walk_at "ev"
  rw [l_eqNil (fun d hd => by
    obtain ⟨p, hk, rfl⟩ := List.mem_map.mp hd
    have hk := (List.mem_filter.mp hk).1
    exact (lay_str (gp p hk).asc).mono (by decide)), filt_nil]
  walk_at "ev"
  unfold spellIn
  rw [if_neg h0]
  have : (!(TL.spl [32] 0 [] l).any fun c => !nameB c) = (TL.spl [32] 0 [] l).all nameB := by
    rw [← List.not_all_eq_any_not, Bool.not_not]
  rw [this]
  cases (TL.spl [32] 0 [] l).all nameB <;> rfl
theorem ev_law_read_rows (ft : FT) (hN : ∀ l, Good l → ft "_law_read_row" [strD l] = some (optR (rowLaw l))) (l w : List Nat) (g : Good l) (gw : Good w) : evB ft gv 5000 c_law_read_rows [some (strD l), some (strD w), none, none, none] = some (.rt (optRs (rowsIn l w))) := by
  have hlim := lim_good g
  unfold c_law_read_rows strD
  walk_at "ev"
  rw [l_eqS g.asc gw.asc]
  walk_at "ev"
  by_cases h0 : l = w
  · rw [decide_eq_true h0]
    walk_at "ev"
    unfold rowsIn
    rw [if_pos h0]
    rfl
  rw [decide_eq_false h0]
  walk_at "ev"
  have gp : ∀ p ∈ TL.spl [44, 32] 0 [] l, Good p := fun p h => g.spl h
  have hpl : (TL.spl [44, 32] 0 [] l).length ≤ lim := by
    have := spl_len (s := [44, 32]) l 0 []
    have := g.len
    unfold lim
    omega
  rw [e_map (items := (TL.spl [44, 32] 0 [] l).map strD) (fun d => (ft "_law_read_row" [d]).getD .none) (by walk_at "ev"; rw [comma_S]; exact l_split (by decide) (by decide) hlim) rfl (by rw [List.length_map]; exact hpl) (fun x hx => by
    obtain ⟨p, h, rfl⟩ := List.mem_map.mp hx
    refine ⟨_, rfl, ?_, ?_⟩
    · walk_at "ev"
      rw [hN p (gp p h)]
      rfl
    · show noList ((ft "_law_read_row" [strD p]).getD .none) = true
      rw [hN p (gp p h)]
      exact noList_optR _)]
  walk_at "ev"
  have e1 : (((TL.spl [44, 32] 0 [] l).map strD).map fun d => (ft "_law_read_row" [d]).getD .none) = ((TL.spl [44, 32] 0 [] l).map rowIn).map optR := by
    rw [List.map_map, List.map_map]
    refine List.map_congr_left fun p h => ?_
    show (ft "_law_read_row" [strD p]).getD .none = optR (rowIn p)
    rw [hN p (gp p h), rowIn_law]
    rfl
  rw [e1]
  have hlay : ∀ d ∈ ((TL.spl [44, 32] 0 [] l).map rowIn).map optR, ∃ k, Lay k d ∧ k ≤ 60 := fun d hd => by
    obtain ⟨o, _, rfl⟩ := List.mem_map.mp hd
    cases o
    · exact ⟨0, lay_non, by decide⟩
    · exact ⟨2, lay_row _, by decide⟩
  rw [(in_none (f := fun (x : Nat) => some x) _ hlay).2.2.1, any_isNone optR_isNone]
  walk_at "ev"
  unfold rowsIn
  rw [if_neg h0]
  rcases mapO_cases (f := rowIn) (TL.spl [44, 32] 0 [] l) with ⟨rs, h1, h2⟩ | ⟨h1, h2⟩
  · rw [h1, h2, any_some]
    walk_at "ev"
    have hrl : rs.length ≤ lim := by
      have e := congrArg List.length h2
      rw [List.length_map, List.length_map] at e
      omega
    have e2 : (rs.map some).map optR = rs.map rowD := by rw [List.map_map]; rfl
    rw [e2]
    cases rs with
    | nil =>
      exact absurd (List.map_eq_nil_iff.mp h2) (spl_ne _ _ _)
    | cons r0 rr =>
      rw [e_filter (l := r0 :: rr) rowD (fun r => !decide (r.length = r0.length)) rowD rfl rfl hrl (fun r _ => ⟨_, rfl, by
        unfold rowD
        rw [List.map_cons]
        walk_at "ev"
        rw [List.length_map, List.length_map]
        congr 3
        exact decide_eq_decide.mpr (by omega), fun _ => ⟨rfl, noList_row r⟩⟩)]
      walk_at "ev"
      rw [if_pos (show ([] : List PyData).length ≤ 1000 by decide)]
      walk_at "ev"
      rw [l_neNil (fun d hd => by
        obtain ⟨r, _, rfl⟩ := List.mem_map.mp hd
        exact (lay_row r).mono (by decide)), filt_nil]
      walk_at "ev"
      show _ = some (Out.rt (optRs (if wide (r0 :: rr) = true then some (r0 :: rr) else none)))
      have : wide (r0 :: rr) = ((r0 :: rr).all fun r => decide (r.length = r0.length)) := rfl
      rw [this]
      have : (!!((r0 :: rr).any fun r => !decide (r.length = r0.length))) = !((r0 :: rr).all fun r => decide (r.length = r0.length)) := by
        rw [← List.not_all_eq_any_not, Bool.not_not]
      rw [this]
      cases ((r0 :: rr).all fun r => decide (r.length = r0.length)) <;> rfl
  · rw [h1, h2]
    rfl
theorem ev_law_read_course (ft : FT) (hN : ∀ l w, Good l → Good w → ft "_law_read_rows" [strD l, strD w] = some (optRs (rowsIn l w))) (l : List Nat) (g : Good l) : evB ft gv 5000 c_law_read_course [some (strD l)] = some (.rt (optRs (rowsIn l restL))) := by
  unfold c_law_read_course strD
  walk_at "ev"
  rw [rest_S]
  have := hN l restL g ⟨by decide, by decide, DB.of_len (by decide)⟩
  unfold strD at this
  rw [this]
  rfl
theorem ev_law_read_readings (ft : FT) (hN : ∀ l w, Good l → Good w → ft "_law_read_rows" [strD l, strD w] = some (optRs (rowsIn l w))) (l : List Nat) (g : Good l) : evB ft gv 5000 c_law_read_readings [some (strD l)] = some (.rt (optRs (rowsIn l nothingL))) := by
  unfold c_law_read_readings strD
  walk_at "ev"
  rw [noth_S]
  have := hN l nothingL g ⟨by decide, by decide, DB.of_len (by decide)⟩
  unfold strD at this
  rw [this]
  rfl

end K81
namespace K81
open PySem PySem.Spec PyProof.Rows L2 JL M81 SX
open TL (tl)
local macro_rules | `(tactic| walk_at "ev") => `(tactic| simp only [e_lit, e_var, e_glob, e_bin, e_neg, e_cmp, e_chain, e_and, e_or, e_not, e_ife, e_own, e_bi, e_isi, e_split, e_join, e_idx, e_slc, e_tup, e_lst, e_fstr, a_nil, a_cons, s_set, s_par, s_if, s_ret, s_drop, b_nil, b_cons, l_and, l_or, l_not, l_neg, l_if, l_ifO, l_lt, l_le, l_gt, l_ge, l_eqI, l_neI, l_chainI, l_inC, l_ninC, l_is, l_isn, l_lenL, l_lenT, l_abs, l_tupL, l_tupT, l_add, l_sub,
  l_isi_s, l_isi_t, isiD, l_seq_nx, l_seq_rt, l_itL, l_itT, l_itS, l_it0, l_it1, l_il0, l_il1, isNoneD, Tg.bind, Tg.wipe,
  Option.bind_some, Option.bind_none, Option.map_some, Option.map_none, List.getElem?_cons_zero, List.getElem?_cons_succ, List.getElem?_nil, Option.join_some, List.set_cons_zero, List.set_cons_succ, Bool.not_true, Bool.not_false, Bool.false_eq_true, if_true, if_false])

def T0 : List (Str × Fm) := []
variable {G : Gb}
/-- what the head tells of the defs -/
structure Txt (G : Gb) : Prop where
  gv : GvOk G gv
  bn : BnOk G
  d_is_integer : DefX G "is_integer" s_is_integer
  d_is_name : DefX G "is_name" s_is_name
  d_common_divisor : DefX G "common_divisor" s_common_divisor
  d_is_number : DefX G "is_number" s_is_number
  d_require_number : DefX G "require_number" s_require_number
  d_is_plain_row : DefX G "is_plain_row" s_is_plain_row
  d_require_text : DefX G "require_text" s_require_text
  d_require_sizes : DefX G "require_sizes" s_require_sizes
  d_number_text : DefX G "number_text" s_number_text
  d_row_text : DefX G "row_text" s_row_text
  d_rows_text : DefX G "rows_text" s_rows_text
  d_format_number : DefX G "format_number" s_format_number
  d_is_any_row : DefX G "is_any_row" s_is_any_row
  d_are_any_rows : DefX G "are_any_rows" s_are_any_rows
  d_format_row : DefX G "format_row" s_format_row
  d_spell_text : DefX G "spell_text" s_spell_text
  d_format_spell : DefX G "format_spell" s_format_spell
  d_format_course : DefX G "format_course" s_format_course
  d_format_readings : DefX G "format_readings" s_format_readings
  d_whole_in : DefX G "whole_in" s_whole_in
  d_number_in : DefX G "number_in" s_number_in
  d_row_in : DefX G "row_in" s_row_in
  d_spell_in : DefX G "spell_in" s_spell_in
  d_rows_in : DefX G "rows_in" s_rows_in
  d_course_in : DefX G "course_in" s_course_in
  d_readings_in : DefX G "readings_in" s_readings_in
  d_lines_of : DefX G "lines_of" s_lines_of
  d_law_fr : DefX G "_law_fr" s_law_fr
  d_law_number_text : DefX G "_law_number_text" s_law_number_text
  d_law_row_text : DefX G "_law_row_text" s_law_row_text
  d_law_read_whole : DefX G "_law_read_whole" s_law_read_whole
  d_law_read_number : DefX G "_law_read_number" s_law_read_number
  d_law_read_row : DefX G "_law_read_row" s_law_read_row
  d_law_is_name : DefX G "_law_is_name" s_law_is_name
  d_law_spell_text : DefX G "_law_spell_text" s_law_spell_text
  d_law_read_spell : DefX G "_law_read_spell" s_law_read_spell
  d_law_rows_text : DefX G "_law_rows_text" s_law_rows_text
  d_law_read_rows : DefX G "_law_read_rows" s_law_read_rows
  d_law_read_course : DefX G "_law_read_course" s_law_read_course
  d_law_read_readings : DefX G "_law_read_readings" s_law_read_readings
theorem ok0 {G : Gb} : FtOk G 0 (ftOf T0) := FtOk.nil
noncomputable def f_is_integer : Fm := mkF (ftOf T0) gv 5000 1 1 c_is_integer
noncomputable def T1 : List (Str × Fm) := ("is_integer", f_is_integer) :: T0
theorem ok1 {G : Gb} (h : Txt G) : FtOk G 1 (ftOf T1) := FtOk.def ok0 h.gv h.bn h.d_is_integer sc_is_integer cc_is_integer (fun _ _ _ _ _ _ us hl => match us, hl with | [_], _ => rfl)
theorem a_is_integer (i : Int) : f_is_integer [.int i] = some (.bool true) := mkF_rt rfl ((ev_is_integer _ [.int i] (.bool true) rfl).2)
noncomputable def f_is_name : Fm := mkF (ftOf T1) gv 5000 1 2 c_is_name
noncomputable def T2 : List (Str × Fm) := ("is_name", f_is_name) :: T1
theorem ok2 {G : Gb} (h : Txt G) : FtOk G 2 (ftOf T2) := FtOk.def (ok1 h) h.gv h.bn h.d_is_name sc_is_name cc_is_name (fun _ _ _ _ _ _ us hl => match us, hl with | [_], _ => rfl)
theorem a_is_name (l : List Nat) (g : Good l) : f_is_name [strD l] = some (.bool (nameB l)) := mkF_rt rfl ((ev_is_name _ [strD l] (.bool (nameB l)) (by show (strOf (S l)).map _ = _; rw [strOf_S g]; rfl)).2)
noncomputable def f_common_divisor : Fm := mkF (ftOf T2) gv 5000 2 2 c_common_divisor
noncomputable def T3 : List (Str × Fm) := ("common_divisor", f_common_divisor) :: T2
theorem ok3 {G : Gb} (h : Txt G) : FtOk G 3 (ftOf T3) := FtOk.def (ok2 h) h.gv h.bn h.d_common_divisor sc_common_divisor cc_common_divisor (fun _ _ _ _ _ _ us hl => match us, hl with | [_, _], _ => rfl)
theorem a_common_divisor (a b : Int) (h : b.natAbs < 10 ^ 550) : f_common_divisor [.int a, .int b] = some (.int (gcdI a b)) := mkF_rt rfl (ev_common_divisor _ a b h)
noncomputable def f_is_number : Fm := mkF (ftOf T3) gv 5000 1 2 c_is_number
noncomputable def T4 : List (Str × Fm) := ("is_number", f_is_number) :: T3
theorem ok4 {G : Gb} (h : Txt G) : FtOk G 4 (ftOf T4) := FtOk.def (ok3 h) h.gv h.bn h.d_is_number sc_is_number cc_is_number (fun _ _ _ _ _ _ us hl => match us, hl with | [_], _ => rfl)
theorem a_is_number (q : Q) (hq : small q) : f_is_number [numD q] = some (.bool (valid q)) := mkF_rt rfl (ev_is_number _ (fun i => (ft_at (m := f_is_integer) (by kernel_rfl) _).trans (a_is_integer i)) (fun a b h => (ft_at (m := f_common_divisor) (by kernel_rfl) _).trans (a_common_divisor a b h)) q hq)
noncomputable def f_require_number : Fm := mkF (ftOf T4) gv 5000 1 1 c_require_number
noncomputable def T5 : List (Str × Fm) := ("require_number", f_require_number) :: T4
theorem ok5 {G : Gb} (h : Txt G) : FtOk G 5 (ftOf T5) := FtOk.def (ok4 h) h.gv h.bn h.d_require_number sc_require_number cc_require_number (fun _ _ _ _ _ _ us hl => match us, hl with | [_], _ => rfl)
theorem a_require_number (q : Q) (hq : small q) (hv : valid q = true) : f_require_number [numD q] = some (.none) := mkF_of rfl (ev_require_number _ (fun q hq => (ft_at (m := f_is_number) (by kernel_rfl) _).trans (a_is_number q hq)) q hq hv) rfl
noncomputable def f_is_plain_row : Fm := mkF (ftOf T5) gv 5000 2 3 c_is_plain_row
noncomputable def T6 : List (Str × Fm) := ("is_plain_row", f_is_plain_row) :: T5
theorem ok6 {G : Gb} (h : Txt G) : FtOk G 6 (ftOf T6) := FtOk.def (ok5 h) h.gv h.bn h.d_is_plain_row sc_is_plain_row cc_is_plain_row (fun _ _ _ _ _ _ us hl => match us, hl with | [_, _], _ => rfl)
theorem a_is_plain_row (r : List Q) (hr : ∀ q ∈ r, small q) (hl : r.length ≤ lim) : f_is_plain_row [.int r.length, rowD r] = some (.bool (r.all valid)) := mkF_rt rfl (ev_is_plain_row _ (fun q hq => (ft_at (m := f_is_number) (by kernel_rfl) _).trans (a_is_number q hq)) r hr hl)
noncomputable def f_require_text : Fm := mkF (ftOf T6) gv 5000 1 1 c_require_text
noncomputable def T7 : List (Str × Fm) := ("require_text", f_require_text) :: T6
theorem ok7 {G : Gb} (h : Txt G) : FtOk G 7 (ftOf T7) := FtOk.def (ok6 h) h.gv h.bn h.d_require_text sc_require_text cc_require_text (fun _ _ _ _ _ _ us hl => match us, hl with | [_], _ => rfl)
theorem a_require_text (l : List Nat) (h : l.length ≤ 9000) : f_require_text [strD l] = some (strD l) := mkF_rt rfl (ev_require_text _ (S l) (by rw [S_len]; exact h))
noncomputable def f_require_sizes : Fm := mkF (ftOf T7) gv 5000 1 4 c_require_sizes
noncomputable def T8 : List (Str × Fm) := ("require_sizes", f_require_sizes) :: T7
theorem ok8 {G : Gb} (h : Txt G) : FtOk G 8 (ftOf T8) := FtOk.def (ok7 h) h.gv h.bn h.d_require_sizes sc_require_sizes cc_require_sizes (fun _ _ _ _ _ _ us hl => match us, hl with | [_], _ => rfl)
theorem a_require_sizes1 (q : Q) (hq : small q) : f_require_sizes [.list [.tuple [numD q]]] = some .none := by
  obtain ⟨ρ, h'⟩ := ev_require_sizes (ftOf T7) (d := .list [.tuple [numD q]]) (rs := [[q]]) rfl (fun r hr q hq' => by simp at hr; subst hr; simp at hq'; rw [hq']; exact hq) (fun r hr => by simp at hr; subst hr; show 1 ≤ lim; decide)
  exact mkF_of rfl h' rfl
theorem a_require_sizes2 (r : List Q) (h : RowOk r) : f_require_sizes [.list [rowD r]] = some .none := by
  obtain ⟨ρ, h'⟩ := ev_require_sizes (ftOf T7) (d := .list [rowD r]) (rs := [r]) rfl (fun r' hr q hq' => by simp at hr; subst hr; exact h.sm q hq') (fun r' hr => by simp at hr; subst hr; exact Nat.le_trans h.len (by decide))
  exact mkF_of rfl h' rfl
theorem a_require_sizes3 (rs : List (List Q)) (h : RowsOk rs) : f_require_sizes [rowsD rs] = some .none := by
  obtain ⟨ρ, h'⟩ := ev_require_sizes (ftOf T7) (d := rowsD rs) (rs := rs) rfl (fun r hr q hq => (h.row r hr).sm q hq) (fun r hr => Nat.le_trans (h.row r hr).len (by decide))
  exact mkF_of rfl h' rfl
noncomputable def f_number_text : Fm := mkF (ftOf T8) gv 5000 1 1 c_number_text
noncomputable def T9 : List (Str × Fm) := ("number_text", f_number_text) :: T8
theorem ok9 {G : Gb} (h : Txt G) : FtOk G 9 (ftOf T9) := FtOk.def (ok8 h) h.gv h.bn h.d_number_text sc_number_text cc_number_text (fun _ _ _ _ _ _ us hl => match us, hl with | [_], _ => rfl)
theorem a_number_text (q : Q) (hq : small q) : f_number_text [numD q] = some (strD (numText q)) := mkF_rt rfl (ev_number_text _ q hq)
noncomputable def f_row_text : Fm := mkF (ftOf T9) gv 5000 1 2 c_row_text
noncomputable def T10 : List (Str × Fm) := ("row_text", f_row_text) :: T9
theorem ok10 {G : Gb} (h : Txt G) : FtOk G 10 (ftOf T10) := FtOk.def (ok9 h) h.gv h.bn h.d_row_text sc_row_text cc_row_text (fun _ _ _ _ _ _ us hl => match us, hl with | [_], _ => rfl)
theorem a_row_text (r : List Q) (h : RowOk r) : f_row_text [rowD r] = some (strD (rowText r)) := mkF_rt rfl (ev_row_text _ (fun q hq => (ft_at (m := f_number_text) (by kernel_rfl) _).trans (a_number_text q hq)) r h)
noncomputable def f_rows_text : Fm := mkF (ftOf T10) gv 5000 2 3 c_rows_text
noncomputable def T11 : List (Str × Fm) := ("rows_text", f_rows_text) :: T10
theorem ok11 {G : Gb} (h : Txt G) : FtOk G 11 (ftOf T11) := FtOk.def (ok10 h) h.gv h.bn h.d_rows_text sc_rows_text cc_rows_text (fun _ _ _ _ _ _ us hl => match us, hl with | [_, _], _ => rfl)
theorem a_rows_text (rs : List (List Q)) (w : List Nat) (h : RowsOk rs) : f_rows_text [rowsD rs, strD w] = some (strD (rowsText rs w)) := mkF_rt rfl (ev_rows_text _ (fun r h => (ft_at (m := f_row_text) (by kernel_rfl) _).trans (a_row_text r h)) rs w h)
noncomputable def f_format_number : Fm := mkF (ftOf T11) gv 5000 1 1 c_format_number
noncomputable def T12 : List (Str × Fm) := ("format_number", f_format_number) :: T11
theorem ok12 {G : Gb} (h : Txt G) : FtOk G 12 (ftOf T12) := FtOk.def (ok11 h) h.gv h.bn h.d_format_number sc_format_number cc_format_number (fun _ _ _ _ _ _ us hl => match us, hl with | [_], _ => rfl)
theorem a_format_number (q : Q) (hq : small q) (hv : valid q = true) (hl : (numText q).length ≤ 9000) : f_format_number [numD q] = some (strD (numText q)) := mkF_rt rfl (ev_format_number _ (fun q hq hv => (ft_at (m := f_require_number) (by kernel_rfl) _).trans (a_require_number q hq hv)) (fun q hq => (ft_at (m := f_require_sizes) (by kernel_rfl) _).trans (a_require_sizes1 q hq)) (fun q hq => (ft_at (m := f_number_text) (by kernel_rfl) _).trans (a_number_text q hq)) (fun l h => (ft_at (m := f_require_text) (by kernel_rfl) _).trans (a_require_text l h)) q hq hv hl)
noncomputable def f_is_any_row : Fm := mkF (ftOf T12) gv 5000 1 1 c_is_any_row
noncomputable def T13 : List (Str × Fm) := ("is_any_row", f_is_any_row) :: T12
theorem ok13 {G : Gb} (h : Txt G) : FtOk G 13 (ftOf T13) := FtOk.def (ok12 h) h.gv h.bn h.d_is_any_row sc_is_any_row cc_is_any_row (fun _ _ _ _ _ _ us hl => match us, hl with | [_], _ => rfl)
theorem a_is_any_row (r : List Q) (hr : ∀ q ∈ r, small q) (hl : r.length ≤ lim) : f_is_any_row [rowD r] = some (.bool (r.all valid)) := mkF_rt rfl (ev_is_any_row _ (fun r hr hl => (ft_at (m := f_is_plain_row) (by kernel_rfl) _).trans (a_is_plain_row r hr hl)) r hr hl)
noncomputable def f_are_any_rows : Fm := mkF (ftOf T13) gv 5000 1 2 c_are_any_rows
noncomputable def T14 : List (Str × Fm) := ("are_any_rows", f_are_any_rows) :: T13
theorem ok14 {G : Gb} (h : Txt G) : FtOk G 14 (ftOf T14) := FtOk.def (ok13 h) h.gv h.bn h.d_are_any_rows sc_are_any_rows cc_are_any_rows (fun _ _ _ _ _ _ us hl => match us, hl with | [_], _ => rfl)
theorem a_are_any_rows (rs : List (List Q)) (h : RowsOk rs) : f_are_any_rows [rowsD rs] = some (.bool ((rs.all fun r => r.all valid) && wide rs)) := mkF_rt rfl (ev_are_any_rows _ (fun r hr hl => (ft_at (m := f_is_any_row) (by kernel_rfl) _).trans (a_is_any_row r hr hl)) rs h)
noncomputable def f_format_row : Fm := mkF (ftOf T14) gv 5000 1 1 c_format_row
noncomputable def T15 : List (Str × Fm) := ("format_row", f_format_row) :: T14
theorem ok15 {G : Gb} (h : Txt G) : FtOk G 15 (ftOf T15) := FtOk.def (ok14 h) h.gv h.bn h.d_format_row sc_format_row cc_format_row (fun _ _ _ _ _ _ us hl => match us, hl with | [_], _ => rfl)
theorem a_format_row (r : List Q) (h : RowOk r) (hv : r.all valid = true) (hl : (rowText r).length ≤ 9000) : f_format_row [rowD r] = some (strD (rowText r)) := mkF_rt rfl (ev_format_row _ (fun r hr hl => (ft_at (m := f_is_any_row) (by kernel_rfl) _).trans (a_is_any_row r hr hl)) (fun r h => (ft_at (m := f_require_sizes) (by kernel_rfl) _).trans (a_require_sizes2 r h)) (fun r h => (ft_at (m := f_row_text) (by kernel_rfl) _).trans (a_row_text r h)) (fun l h => (ft_at (m := f_require_text) (by kernel_rfl) _).trans (a_require_text l h)) r h hv hl)
noncomputable def f_spell_text : Fm := mkF (ftOf T15) gv 5000 1 1 c_spell_text
noncomputable def T16 : List (Str × Fm) := ("spell_text", f_spell_text) :: T15
theorem ok16 {G : Gb} (h : Txt G) : FtOk G 16 (ftOf T16) := FtOk.def (ok15 h) h.gv h.bn h.d_spell_text sc_spell_text cc_spell_text (fun _ _ _ _ _ _ us hl => match us, hl with | [_], _ => rfl)
theorem a_spell_text (ns : List (List Nat)) (h : ∀ n ∈ ns, nameB n = true) (hl : ns.length ≤ 1000) : f_spell_text [spellD ns] = some (strD (spellText ns)) := mkF_rt rfl (ev_spell_text _ ns h hl)
noncomputable def f_format_spell : Fm := mkF (ftOf T16) gv 5000 1 2 c_format_spell
noncomputable def T17 : List (Str × Fm) := ("format_spell", f_format_spell) :: T16
theorem ok17 {G : Gb} (h : Txt G) : FtOk G 17 (ftOf T17) := FtOk.def (ok16 h) h.gv h.bn h.d_format_spell sc_format_spell cc_format_spell (fun _ _ _ _ _ _ us hl => match us, hl with | [_], _ => rfl)
theorem a_format_spell (ns : List (List Nat)) (h : ∀ n ∈ ns, nameB n = true) (h1 : ns ≠ [noneL]) (hl : ns.length ≤ 1000) (hl2 : (spellText ns).length ≤ 9000) : f_format_spell [spellD ns] = some (strD (spellText ns)) := mkF_rt rfl (ev_format_spell _ (fun l g => (ft_at (m := f_is_name) (by kernel_rfl) _).trans (a_is_name l g)) (fun ns h hl => (ft_at (m := f_spell_text) (by kernel_rfl) _).trans (a_spell_text ns h hl)) (fun l h => (ft_at (m := f_require_text) (by kernel_rfl) _).trans (a_require_text l h)) ns h h1 hl hl2)
noncomputable def f_format_course : Fm := mkF (ftOf T17) gv 5000 1 1 c_format_course
noncomputable def T18 : List (Str × Fm) := ("format_course", f_format_course) :: T17
theorem ok18 {G : Gb} (h : Txt G) : FtOk G 18 (ftOf T18) := FtOk.def (ok17 h) h.gv h.bn h.d_format_course sc_format_course cc_format_course (fun _ _ _ _ _ _ us hl => match us, hl with | [_], _ => rfl)
theorem a_format_course (rs : List (List Q)) (h : RowsOk rs) (hv : (rs.all fun r => r.all valid) = true) (hw : wide rs = true) (hl : (rowsText rs restL).length ≤ 9000) : f_format_course [rowsD rs] = some (strD (rowsText rs restL)) := mkF_rt rfl (ev_format_course _ (fun rs h => (ft_at (m := f_are_any_rows) (by kernel_rfl) _).trans (a_are_any_rows rs h)) (fun rs h => (ft_at (m := f_require_sizes) (by kernel_rfl) _).trans (a_require_sizes3 rs h)) (fun rs w h => (ft_at (m := f_rows_text) (by kernel_rfl) _).trans (a_rows_text rs w h)) (fun l h => (ft_at (m := f_require_text) (by kernel_rfl) _).trans (a_require_text l h)) rs h hv hw hl)
noncomputable def f_format_readings : Fm := mkF (ftOf T18) gv 5000 1 1 c_format_readings
noncomputable def T19 : List (Str × Fm) := ("format_readings", f_format_readings) :: T18
theorem ok19 {G : Gb} (h : Txt G) : FtOk G 19 (ftOf T19) := FtOk.def (ok18 h) h.gv h.bn h.d_format_readings sc_format_readings cc_format_readings (fun _ _ _ _ _ _ us hl => match us, hl with | [_], _ => rfl)
theorem a_format_readings (rs : List (List Q)) (h : RowsOk rs) (hv : (rs.all fun r => r.all valid) = true) (hw : wide rs = true) (hl : (rowsText rs nothingL).length ≤ 9000) : f_format_readings [rowsD rs] = some (strD (rowsText rs nothingL)) := mkF_rt rfl (ev_format_readings _ (fun rs h => (ft_at (m := f_are_any_rows) (by kernel_rfl) _).trans (a_are_any_rows rs h)) (fun rs h => (ft_at (m := f_require_sizes) (by kernel_rfl) _).trans (a_require_sizes3 rs h)) (fun rs w h => (ft_at (m := f_rows_text) (by kernel_rfl) _).trans (a_rows_text rs w h)) (fun l h => (ft_at (m := f_require_text) (by kernel_rfl) _).trans (a_require_text l h)) rs h hv hw hl)
noncomputable def f_whole_in : Fm := mkF (ftOf T19) gv 5000 1 2 c_whole_in
noncomputable def T20 : List (Str × Fm) := ("whole_in", f_whole_in) :: T19
theorem ok20 {G : Gb} (h : Txt G) : FtOk G 20 (ftOf T20) := FtOk.def (ok19 h) h.gv h.bn h.d_whole_in sc_whole_in cc_whole_in (fun _ _ _ _ _ _ us hl => match us, hl with | [_], _ => rfl)
theorem a_whole_in (l : List Nat) (g : Good l) : f_whole_in [strD l] = some (optI (wholeIn l)) := mkF_rt rfl (ev_whole_in _ l g)
noncomputable def f_number_in : Fm := mkF (ftOf T20) gv 5000 1 6 c_number_in
noncomputable def T21 : List (Str × Fm) := ("number_in", f_number_in) :: T20
theorem ok21 {G : Gb} (h : Txt G) : FtOk G 21 (ftOf T21) := FtOk.def (ok20 h) h.gv h.bn h.d_number_in sc_number_in cc_number_in (fun _ _ _ _ _ _ us hl => match us, hl with | [_], _ => rfl)
theorem a_number_in (l : List Nat) (g : Good l) : f_number_in [strD l] = some (optQ (numIn l)) := mkF_rt rfl (ev_number_in _ (fun l g => (ft_at (m := f_whole_in) (by kernel_rfl) _).trans (a_whole_in l g)) (fun q hq => (ft_at (m := f_is_number) (by kernel_rfl) _).trans (a_is_number q hq)) (fun q hq => (ft_at (m := f_number_text) (by kernel_rfl) _).trans (a_number_text q hq)) l g)
noncomputable def f_row_in : Fm := mkF (ftOf T21) gv 5000 1 3 c_row_in
noncomputable def T22 : List (Str × Fm) := ("row_in", f_row_in) :: T21
theorem ok22 {G : Gb} (h : Txt G) : FtOk G 22 (ftOf T22) := FtOk.def (ok21 h) h.gv h.bn h.d_row_in sc_row_in cc_row_in (fun _ _ _ _ _ _ us hl => match us, hl with | [_], _ => rfl)
theorem a_row_in (l : List Nat) (g : Good l) : f_row_in [strD l] = some (optR (rowIn l)) := mkF_rt rfl (ev_row_in _ (fun l g => (ft_at (m := f_number_in) (by kernel_rfl) _).trans (a_number_in l g)) l g)
noncomputable def f_spell_in : Fm := mkF (ftOf T22) gv 5000 1 3 c_spell_in
noncomputable def T23 : List (Str × Fm) := ("spell_in", f_spell_in) :: T22
theorem ok23 {G : Gb} (h : Txt G) : FtOk G 23 (ftOf T23) := FtOk.def (ok22 h) h.gv h.bn h.d_spell_in sc_spell_in cc_spell_in (fun _ _ _ _ _ _ us hl => match us, hl with | [_], _ => rfl)
theorem a_spell_in (l : List Nat) (g : Good l) : f_spell_in [strD l] = some (optSp (spellIn l)) := mkF_rt rfl (ev_spell_in _ (fun l g => (ft_at (m := f_is_name) (by kernel_rfl) _).trans (a_is_name l g)) l g)
noncomputable def f_rows_in : Fm := mkF (ftOf T23) gv 5000 2 5 c_rows_in
noncomputable def T24 : List (Str × Fm) := ("rows_in", f_rows_in) :: T23
theorem ok24 {G : Gb} (h : Txt G) : FtOk G 24 (ftOf T24) := FtOk.def (ok23 h) h.gv h.bn h.d_rows_in sc_rows_in cc_rows_in (fun _ _ _ _ _ _ us hl => match us, hl with | [_, _], _ => rfl)
theorem a_rows_in (l w : List Nat) (g : Good l) (gw : Good w) : f_rows_in [strD l, strD w] = some (optRs (rowsIn l w)) := mkF_rt rfl (ev_rows_in _ (fun l g => (ft_at (m := f_row_in) (by kernel_rfl) _).trans (a_row_in l g)) l w g gw)
noncomputable def f_course_in : Fm := mkF (ftOf T24) gv 5000 1 1 c_course_in
noncomputable def T25 : List (Str × Fm) := ("course_in", f_course_in) :: T24
theorem ok25 {G : Gb} (h : Txt G) : FtOk G 25 (ftOf T25) := FtOk.def (ok24 h) h.gv h.bn h.d_course_in sc_course_in cc_course_in (fun _ _ _ _ _ _ us hl => match us, hl with | [_], _ => rfl)
theorem a_course_in (l : List Nat) (g : Good l) : f_course_in [strD l] = some (optRs (rowsIn l restL)) := mkF_rt rfl (ev_course_in _ (fun l w g gw => (ft_at (m := f_rows_in) (by kernel_rfl) _).trans (a_rows_in l w g gw)) l g)
noncomputable def f_readings_in : Fm := mkF (ftOf T25) gv 5000 1 1 c_readings_in
noncomputable def T26 : List (Str × Fm) := ("readings_in", f_readings_in) :: T25
theorem ok26 {G : Gb} (h : Txt G) : FtOk G 26 (ftOf T26) := FtOk.def (ok25 h) h.gv h.bn h.d_readings_in sc_readings_in cc_readings_in (fun _ _ _ _ _ _ us hl => match us, hl with | [_], _ => rfl)
theorem a_readings_in (l : List Nat) (g : Good l) : f_readings_in [strD l] = some (optRs (rowsIn l nothingL)) := mkF_rt rfl (ev_readings_in _ (fun l w g gw => (ft_at (m := f_rows_in) (by kernel_rfl) _).trans (a_rows_in l w g gw)) l g)
noncomputable def f_lines_of : Fm := mkF (ftOf T26) gv 5000 1 1 c_lines_of
noncomputable def T27 : List (Str × Fm) := ("lines_of", f_lines_of) :: T26
theorem ok27 {G : Gb} (h : Txt G) : FtOk G 27 (ftOf T27) := FtOk.def (ok26 h) h.gv h.bn h.d_lines_of sc_lines_of cc_lines_of (fun _ _ _ _ _ _ us hl => match us, hl with | [_], _ => rfl)
theorem a_lines_of (l : List Nat) (g : Good l) : f_lines_of [strD l] = some (.list ((TL.spl [10] 0 [] l).map strD)) := mkF_rt rfl (ev_lines_of _ l g)
noncomputable def f_law_fr : Fm := mkF (ftOf T27) gv 5000 2 5 c_law_fr
noncomputable def T28 : List (Str × Fm) := ("_law_fr", f_law_fr) :: T27
theorem ok28 {G : Gb} (h : Txt G) : FtOk G 28 (ftOf T28) := FtOk.def (ok27 h) h.gv h.bn h.d_law_fr sc_law_fr cc_law_fr (fun _ _ _ _ _ _ us hl => match us, hl with | [_, _], _ => rfl)
theorem a_law_fr (t b : Int) (hb : 1 ≤ b) (h1 : t.natAbs < 10 ^ 550) (h2 : b.natAbs < 10 ^ 550) : f_law_fr [.int t, .int b] = some (numD (fr t b)) := mkF_rt rfl (ev_law_fr _ t b hb h1 h2)
noncomputable def f_law_number_text : Fm := mkF (ftOf T28) gv 5000 1 1 c_law_number_text
noncomputable def T29 : List (Str × Fm) := ("_law_number_text", f_law_number_text) :: T28
theorem ok29 {G : Gb} (h : Txt G) : FtOk G 29 (ftOf T29) := FtOk.def (ok28 h) h.gv h.bn h.d_law_number_text sc_law_number_text cc_law_number_text (fun _ _ _ _ _ _ us hl => match us, hl with | [_], _ => rfl)
theorem a_law_number_text (q : Q) (hq : small q) : f_law_number_text [numD q] = some (strD (numText q)) := mkF_rt rfl (ev_law_number_text _ q hq)
noncomputable def f_law_row_text : Fm := mkF (ftOf T29) gv 5000 1 2 c_law_row_text
noncomputable def T30 : List (Str × Fm) := ("_law_row_text", f_law_row_text) :: T29
theorem ok30 {G : Gb} (h : Txt G) : FtOk G 30 (ftOf T30) := FtOk.def (ok29 h) h.gv h.bn h.d_law_row_text sc_law_row_text cc_law_row_text (fun _ _ _ _ _ _ us hl => match us, hl with | [_], _ => rfl)
theorem a_law_row_text (r : List Q) (h : RowOk r) : f_law_row_text [rowD r] = some (strD (rowText r)) := mkF_rt rfl (ev_law_row_text _ (fun q hq => (ft_at (m := f_law_number_text) (by kernel_rfl) _).trans (a_law_number_text q hq)) r h)
noncomputable def f_law_read_whole : Fm := mkF (ftOf T30) gv 5000 1 4 c_law_read_whole
noncomputable def T31 : List (Str × Fm) := ("_law_read_whole", f_law_read_whole) :: T30
theorem ok31 {G : Gb} (h : Txt G) : FtOk G 31 (ftOf T31) := FtOk.def (ok30 h) h.gv h.bn h.d_law_read_whole sc_law_read_whole cc_law_read_whole (fun _ _ _ _ _ _ us hl => match us, hl with | [_], _ => rfl)
theorem a_law_read_whole (l : List Nat) (g : Good l) : f_law_read_whole [strD l] = some (optZ (readW l)) := mkF_rt rfl (ev_law_read_whole _ l g)
noncomputable def f_law_read_number : Fm := mkF (ftOf T31) gv 5000 1 5 c_law_read_number
noncomputable def T32 : List (Str × Fm) := ("_law_read_number", f_law_read_number) :: T31
theorem ok32 {G : Gb} (h : Txt G) : FtOk G 32 (ftOf T32) := FtOk.def (ok31 h) h.gv h.bn h.d_law_read_number sc_law_read_number cc_law_read_number (fun _ _ _ _ _ _ us hl => match us, hl with | [_], _ => rfl)
theorem a_law_read_number (l : List Nat) (g : Good l) : f_law_read_number [strD l] = some (optQ (numLaw l)) := mkF_rt rfl (ev_law_read_number _ (fun l g => (ft_at (m := f_law_read_whole) (by kernel_rfl) _).trans (a_law_read_whole l g)) (fun t b hb h1 h2 => (ft_at (m := f_law_fr) (by kernel_rfl) _).trans (a_law_fr t b hb h1 h2)) (fun q hq => (ft_at (m := f_law_number_text) (by kernel_rfl) _).trans (a_law_number_text q hq)) l g)
noncomputable def f_law_read_row : Fm := mkF (ftOf T32) gv 5000 1 3 c_law_read_row
noncomputable def T33 : List (Str × Fm) := ("_law_read_row", f_law_read_row) :: T32
theorem ok33 {G : Gb} (h : Txt G) : FtOk G 33 (ftOf T33) := FtOk.def (ok32 h) h.gv h.bn h.d_law_read_row sc_law_read_row cc_law_read_row (fun _ _ _ _ _ _ us hl => match us, hl with | [_], _ => rfl)
theorem a_law_read_row (l : List Nat) (g : Good l) : f_law_read_row [strD l] = some (optR (rowLaw l)) := mkF_rt rfl (ev_law_read_row _ (fun l g => (ft_at (m := f_law_read_number) (by kernel_rfl) _).trans (a_law_read_number l g)) l g)
noncomputable def f_law_is_name : Fm := mkF (ftOf T33) gv 5000 1 2 c_law_is_name
noncomputable def T34 : List (Str × Fm) := ("_law_is_name", f_law_is_name) :: T33
theorem ok34 {G : Gb} (h : Txt G) : FtOk G 34 (ftOf T34) := FtOk.def (ok33 h) h.gv h.bn h.d_law_is_name sc_law_is_name cc_law_is_name (fun _ _ _ _ _ _ us hl => match us, hl with | [_], _ => rfl)
theorem a_law_is_name (l : List Nat) (g : Good l) : f_law_is_name [strD l] = some (.bool (nameB l)) := mkF_rt rfl (ev_law_is_name _ l g)
noncomputable def f_law_spell_text : Fm := mkF (ftOf T34) gv 5000 1 1 c_law_spell_text
noncomputable def T35 : List (Str × Fm) := ("_law_spell_text", f_law_spell_text) :: T34
theorem ok35 {G : Gb} (h : Txt G) : FtOk G 35 (ftOf T35) := FtOk.def (ok34 h) h.gv h.bn h.d_law_spell_text sc_law_spell_text cc_law_spell_text (fun _ _ _ _ _ _ us hl => match us, hl with | [_], _ => rfl)
theorem a_law_spell_text (ns : List (List Nat)) (h : ∀ n ∈ ns, nameB n = true) (hl : ns.length ≤ 1000) : f_law_spell_text [spellD ns] = some (strD (spellText ns)) := mkF_rt rfl (ev_law_spell_text _ ns h hl)
noncomputable def f_law_read_spell : Fm := mkF (ftOf T35) gv 5000 1 3 c_law_read_spell
noncomputable def T36 : List (Str × Fm) := ("_law_read_spell", f_law_read_spell) :: T35
theorem ok36 {G : Gb} (h : Txt G) : FtOk G 36 (ftOf T36) := FtOk.def (ok35 h) h.gv h.bn h.d_law_read_spell sc_law_read_spell cc_law_read_spell (fun _ _ _ _ _ _ us hl => match us, hl with | [_], _ => rfl)
theorem a_law_read_spell (l : List Nat) (g : Good l) : f_law_read_spell [strD l] = some (optSp (spellIn l)) := mkF_rt rfl (ev_law_read_spell _ (fun l g => (ft_at (m := f_law_is_name) (by kernel_rfl) _).trans (a_law_is_name l g)) l g)
noncomputable def f_law_rows_text : Fm := mkF (ftOf T36) gv 5000 2 3 c_law_rows_text
noncomputable def T37 : List (Str × Fm) := ("_law_rows_text", f_law_rows_text) :: T36
theorem ok37 {G : Gb} (h : Txt G) : FtOk G 37 (ftOf T37) := FtOk.def (ok36 h) h.gv h.bn h.d_law_rows_text sc_law_rows_text cc_law_rows_text (fun _ _ _ _ _ _ us hl => match us, hl with | [_, _], _ => rfl)
theorem a_law_rows_text (rs : List (List Q)) (w : List Nat) (h : RowsOk rs) : f_law_rows_text [rowsD rs, strD w] = some (strD (rowsText rs w)) := mkF_rt rfl (ev_law_rows_text _ (fun r h => (ft_at (m := f_law_row_text) (by kernel_rfl) _).trans (a_law_row_text r h)) rs w h)
noncomputable def f_law_read_rows : Fm := mkF (ftOf T37) gv 5000 2 5 c_law_read_rows
noncomputable def T38 : List (Str × Fm) := ("_law_read_rows", f_law_read_rows) :: T37
theorem ok38 {G : Gb} (h : Txt G) : FtOk G 38 (ftOf T38) := FtOk.def (ok37 h) h.gv h.bn h.d_law_read_rows sc_law_read_rows cc_law_read_rows (fun _ _ _ _ _ _ us hl => match us, hl with | [_, _], _ => rfl)
theorem a_law_read_rows (l w : List Nat) (g : Good l) (gw : Good w) : f_law_read_rows [strD l, strD w] = some (optRs (rowsIn l w)) := mkF_rt rfl (ev_law_read_rows _ (fun l g => (ft_at (m := f_law_read_row) (by kernel_rfl) _).trans (a_law_read_row l g)) l w g gw)
noncomputable def f_law_read_course : Fm := mkF (ftOf T38) gv 5000 1 1 c_law_read_course
noncomputable def T39 : List (Str × Fm) := ("_law_read_course", f_law_read_course) :: T38
theorem ok39 {G : Gb} (h : Txt G) : FtOk G 39 (ftOf T39) := FtOk.def (ok38 h) h.gv h.bn h.d_law_read_course sc_law_read_course cc_law_read_course (fun _ _ _ _ _ _ us hl => match us, hl with | [_], _ => rfl)
theorem a_law_read_course (l : List Nat) (g : Good l) : f_law_read_course [strD l] = some (optRs (rowsIn l restL)) := mkF_rt rfl (ev_law_read_course _ (fun l w g gw => (ft_at (m := f_law_read_rows) (by kernel_rfl) _).trans (a_law_read_rows l w g gw)) l g)
noncomputable def f_law_read_readings : Fm := mkF (ftOf T39) gv 5000 1 1 c_law_read_readings
noncomputable def T40 : List (Str × Fm) := ("_law_read_readings", f_law_read_readings) :: T39
theorem ok40 {G : Gb} (h : Txt G) : FtOk G 40 (ftOf T40) := FtOk.def (ok39 h) h.gv h.bn h.d_law_read_readings sc_law_read_readings cc_law_read_readings (fun _ _ _ _ _ _ us hl => match us, hl with | [_], _ => rfl)
theorem a_law_read_readings (l : List Nat) (g : Good l) : f_law_read_readings [strD l] = some (optRs (rowsIn l nothingL)) := mkF_rt rfl (ev_law_read_readings _ (fun l w g gw => (ft_at (m := f_law_read_rows) (by kernel_rfl) _).trans (a_law_read_rows l w g gw)) l g)

end K81
namespace K81
open PySem PySem.Spec PyProof.Rows L2 JL M81 SX
open TL (tl)
local macro_rules | `(tactic| walk_at "ev") => `(tactic| simp only [e_lit, e_var, e_glob, e_bin, e_neg, e_cmp, e_chain, e_and, e_or, e_not, e_ife, e_own, e_bi, e_isi, e_split, e_join, e_idx, e_slc, e_tup, e_lst, e_fstr, a_nil, a_cons, s_set, s_par, s_if, s_ret, s_drop, b_nil, b_cons, l_and, l_or, l_not, l_neg, l_if, l_ifO, l_lt, l_le, l_gt, l_ge, l_eqI, l_neI, l_chainI, l_inC, l_ninC, l_is, l_isn, l_lenL, l_lenT, l_abs, l_tupL, l_tupT, l_add, l_sub,
  l_isi_s, l_isi_t, isiD, l_seq_nx, l_seq_rt, l_itL, l_itT, l_itS, l_it0, l_it1, l_il0, l_il1, isNoneD, Tg.bind, Tg.wipe,
  Option.bind_some, Option.bind_none, Option.map_some, Option.map_none, List.getElem?_cons_zero, List.getElem?_cons_succ, List.getElem?_nil, Option.join_some, List.set_cons_zero, List.set_cons_succ, Bool.not_true, Bool.not_false, Bool.false_eq_true, if_true, if_false])

/-! ### taken expressions as rules -/
def tEv (K : PySem.W.Frag) (ft : FT) (gv : Str → Option PyData) (ce : CE) : TE := fun σ H Q => ∃ ρ d, EnvD K H σ ρ ∧ evE ft gv ce ρ = some d ∧ ∀ v H2, Same H H2 → Dp K H2 v d → Q v H2
def tEvT (K : PySem.W.Frag) (ft : FT) (gv : Str → Option PyData) (ce : CE) : TT := fun σ H Q => ∃ ρ b, EnvD K H σ ρ ∧ evE ft gv ce ρ = some (.bool b) ∧ ∀ H2, Same H H2 → Q b H2
def tEvB (K : PySem.W.Frag) (ft : FT) (gv : Str → Option PyData) (cs : List CS) : TS := fun D σ H => ∃ ρ o, EnvD K H σ ρ ∧ evB ft gv 5000 cs ρ = some o ∧ Out.Ok K H D o
section
variable {G : Gb} {N : List Str} {k : Nat} {sc : Scope} {X : Cx} {ft : FT} {gv : Str → Option PyData}
theorem pe_ev (c : Ctx G N k sc X) (hft : FtOk G k ft) (hgv : GvOk G gv) (hbn : BnOk G) {e : Expr} {ce : CE} (h : compE N 40 sc e = some ce) : PE X e (tEv G.K ft gv ce) := by
  refine ⟨fun pins s σ H Q I q => ?_⟩
  obtain ⟨ρ, d, E, hd, q⟩ := q
  have j := (snd (ft := ft) (gv := gv) hft hgv hbn 40 sc e ce h X c).j ρ d hd
  rw [← c.hK] at E q
  exact j σ H E Q q pins s I
theorem pt_ev (c : Ctx G N k sc X) (hft : FtOk G k ft) (hgv : GvOk G gv) (hbn : BnOk G) {e : Expr} {ce : CE} (h : compE N 40 sc e = some ce) (hi : isIfE ce = false := by rfl) : PT X e (tEvT G.K ft gv ce) := by
  refine ⟨fun pins s σ H Q I q => ?_⟩
  obtain ⟨ρ, d, E, hd, q⟩ := q
  have j := (snd (ft := ft) (gv := gv) hft hgv hbn 40 sc e ce h X c).t hi ρ d hd
  rw [← c.hK] at E
  exact j σ H E Q q pins s I
theorem pss_ev (c : Ctx G N k sc X) (hft : FtOk G k ft) (hgv : GvOk G gv) (hbn : BnOk G) (hkind : sc.kind = .function) (hfn : ∀ x, X.fn x = true) {st : List Stmt} {cs : List CS} (h : compB N 60 sc st = some cs) : PSs X st (tEvB G.K ft gv cs) := by
  refine ⟨fun pins s σ H D I q => ?_⟩
  obtain ⟨ρ, o, E, ho, q⟩ := q
  rw [← c.hK] at E q
  exact snd_b hft hgv hbn hkind 60 st cs h X c hfn ρ o ho σ H E D q pins s I
theorem ctx_of {CX : CXT} {P : Program} {w : World} {K : PySem.W.Frag} {mg : Str → Option Value} {base : Heap} {qual : Str} {f : Addr} {cd : Value} {A : Around} {outer : List Env} {s : Shared} {H : Hp} {E : XK} (nd : N.Nodup) (hr : Room k (A.deeper (envOfC qual sc s.heap.objs.size f cd))) :
    Ctx ⟨P, w, K, mg, base⟩ N k sc (cxOf CX P w K mg base N qual sc f cd A outer s H E) := ⟨rfl, rfl, rfl, rfl, rfl, rfl, nd, rfl, rfl, passes_of rfl, hr⟩
end
/-! ### one_line -/
/-- a def that reads a text -/
structure Rd (G : Gb) (k : Nat) (f : Addr) (m : List Nat → PyData) : Prop where
  ex : ∃ (fd : FuncData) (ps : List Str), FnOk G.P G.w G.K G.mg G.base CX0 k f fd ps (spR G.K fun ds d => ∃ l, Good l ∧ ds = [strD l] ∧ d = m l) ∧ PySem.W.keepIn G.K (.ref f) = true ∧ Binds G.K fd ps []
def fst (l : List Nat) : List Nat := (TL.spl [10] 0 [] l).headD []
def many (l : List Nat) : Bool := decide (1 < (TL.spl [10] 0 [] l).length)
/-- the error's way out: at a line -/
def lineX (C : Addr) (H : Hp) (E : XK) (i : Int) : Prop := ∀ (d : Addr) (H2 : Hp), Same H H2 → H2 d = none → E (.ref C) (some d) (upd H2 d (.xd [(("line" : Str), .int i)]))
def lineOut (K : PySem.W.Frag) (C : Addr) (m : List Nat → PyData) (l : List Nat) (H : Hp) (Q : VK) (E : XK) : Prop :=
  if isNoneD (m (fst l)) = true then lineX C H E 0 else if many l = true then lineX C H E 1 else ∀ v H2, Same H H2 → Dp K H2 v (m (fst l)) → Q v H2
def spLine (G : Gb) (k : Nat) (C : Addr) : Sp := fun vs H Q E => ∃ (l : List Nat) (f : Addr) (m : List Nat → PyData), vs = [.str (S l), .ref f] ∧ Good l ∧ Rd G k f m ∧ lineOut G.K C m l H Q E
theorem fst_good {l : List Nat} (g : Good l) : Good (fst l) := by
  unfold fst
  cases h : TL.spl [10] 0 [] l with
  | nil => exact absurd h (spl_ne _ _ _)
  | cons a r => exact g.spl (s := [10]) (by rw [h]; exact List.mem_cons_self ..)
theorem _root_.JL.EnvD.nil {K : PySem.W.Frag} {H : Hp} : EnvD K H [] [] := ⟨rfl, fun i d h => by cases h⟩
theorem _root_.JL.EnvD.conS {K : PySem.W.Frag} {H : Hp} {v : V} {d : PyData} {σ : L2.St} {ρ : Rho} (h : Dp K H v d) (E : EnvD K H σ ρ) : EnvD K H (some v :: σ) (some d :: ρ) := ⟨by simp [E.len], fun i d' hi => by
  cases i with
  | zero =>
    rw [List.getElem?_cons_zero] at hi
    cases hi
    exact ⟨v, rfl, h⟩
  | succ i =>
    rw [List.getElem?_cons_succ] at hi
    obtain ⟨v', h1, h2⟩ := E.get i d' hi
    exact ⟨v', by rw [List.getElem?_cons_succ]; exact h1, h2⟩⟩
theorem _root_.JL.EnvD.conN {K : PySem.W.Frag} {H : Hp} {o : Option V} {σ : L2.St} {ρ : Rho} (E : EnvD K H σ ρ) : EnvD K H (o :: σ) (none :: ρ) := ⟨by simp [E.len], fun i d' hi => by
  cases i with
  | zero =>
    rw [List.getElem?_cons_zero] at hi
    cases hi
  | succ i =>
    rw [List.getElem?_cons_succ] at hi
    obtain ⟨v', h1, h2⟩ := E.get i d' hi
    exact ⟨v', by rw [List.getElem?_cons_succ]; exact h1, h2⟩⟩
theorem if_true_of {c : Bool} {A B : Prop} (hc : c = true) (h : A) : if c = true then A else B := by
  rw [if_pos hc]
  exact h
theorem if_false_of {c : Bool} {A B : Prop} (hc : c = false) (h : B) : if c = true then A else B := by
  rw [hc, if_neg Bool.false_ne_true]
  exact h
theorem dp_int_inv {K : PySem.W.Frag} {H : Hp} {v : V} {i : Int} (h : Dp K H v (.int i)) : v = .int i := by
  cases h
  rfl
theorem ok_one_line {G : Gb} {C fI : Addr} (h : Txt G) (T : PySem.PEX.ParTxt G.K G.mg G.P C fI) {f : Addr} {fd : FuncData} (F : Fun G.K "one_line" "one_line" s_one_line f fd) : FnOk G.P G.w G.K G.mg G.base (L2.CX G.P G.w) 41 f fd ["text", "read"] (spLine G 40 C) := by
  refine F.okX sc_one_line (fun vs H Q E h => ?_) (fun cdv A outer s H vs Q E hr hs => ?_)
  · obtain ⟨l, f, m, rfl, _⟩ := h
    rfl
  obtain ⟨l, fr, m, rfl, g, R, out⟩ := hs
  obtain ⟨fdr, psr, FR, hk, hb⟩ := R.ex
  have c : Ctx G ["text", "read", "lines", "found"] 40 (defScope s_one_line) (cxOf (L2.CX G.P G.w) G.P G.w G.K G.mg G.base ["text", "read", "lines", "found"] "one_line" (defScope s_one_line) f cdv A outer s H E) := ctx_of sc_one_line.nd hr
  have hft : FtOk G 40 (ftOf T40) := ok40 h
  refine ⟨_, pss_cons (ps_set (i := 2) sc_one_line.nd rfl (Or.inl rfl) (pe_ev (ce := .own "lines_of" [.var 0]) c hft h.gv h.bn (by kernel_rfl)))
    (pss_cons (ps_set (i := 3) sc_one_line.nd rfl (Or.inl rfl) (pe_callL (i := 1) (E := fun _ _ _ => False) FR hr rfl (Or.inl rfl) hk hb .nil (fun _ _ _ _ _ _ _ z => z.elim) (pa_cons (pe_ev (ce := .idx (.var 2) (.lit (.int 0))) c hft h.gv h.bn (by kernel_rfl)) pa_nil)))
    (pss_cons (ps_if (pt_ev (ce := .or (.cmp .Is (.var 3) (.lit .none)) (.cmp .Gt (.bi .len [.var 2]) (.lit (.int 1)))) c hft h.gv h.bn (by kernel_rfl))
      (pss_one (ps_raisePar rfl T hr (takes_of rfl rfl rfl rfl) (pa_cons (pe_ev (ce := .ife (.cmp .Is (.var 3) (.lit .none)) (.lit (.int 0)) (.lit (.int 1))) c hft h.gv h.bn (by kernel_rfl)) pa_nil))) pss_nil)
    (pss_one (ps_ret (pe_ev (ce := .var 3) c hft h.gv h.bn (by kernel_rfl)))))), ?_⟩
  obtain ⟨p0, r, hp⟩ : ∃ p0 r, TL.spl [10] 0 [] l = p0 :: r := by
    cases hq : TL.spl [10] 0 [] l with
    | nil => exact absurd hq (spl_ne _ _ _)
    | cons a r => exact ⟨a, r, rfl⟩
  have hfst : fst l = p0 := by unfold fst; rw [hp]; rfl
  have hmany : many l = decide ((1 : Int) < (((p0 :: r).length : Nat) : Int)) := by unfold many; rw [hp]; exact decide_eq_decide.mpr (by omega)
  unfold lineOut at out
  rw [hfst] at out
  have e1 : evE (ftOf T40) gv (.own "lines_of" [.var 0]) [some (strD l), none, none, none] = some (.list ((p0 :: r).map strD)) := by
    walk_at "ev"
    rw [ft_at (m := f_lines_of) (by kernel_rfl), a_lines_of l g, hp]
  refine ⟨[some (strD l), none, none, none], _, .conS (.str _) (.conN (.conN (.conN .nil))), e1, fun v2 H2 s2 hv2 => ?_⟩
  have e2 : evE (ftOf T40) gv (.idx (.var 2) (.lit (.int 0))) [some (strD l), none, some (.list ((p0 :: r).map strD)), none] = some (strD p0) := by
    rw [List.map_cons]
    walk_at "ev"
  refine ⟨rfl, [some (strD l), none, some (.list ((p0 :: r).map strD)), none], _, .conS (.str _) (.conN (.conS hv2 (.conN .nil))), e2, fun v3 H3 s3 hv3 => ?_⟩
  refine ⟨[strD p0], m p0, .cons hv3 .nil, ⟨p0, by rw [← hfst]; exact fst_good g, rfl, rfl⟩, fun v4 H4 s4 hv4 => ?_⟩
  have s24 : Same H2 H4 := s3.trans s4
  have hv2' := dp_mono s24 hv2
  have e3 : evE (ftOf T40) gv (.or (.cmp .Is (.var 3) (.lit .none)) (.cmp .Gt (.bi .len [.var 2]) (.lit (.int 1)))) [some (strD l), none, some (.list ((p0 :: r).map strD)), some (m p0)] = some (.bool (isNoneD (m p0) || many l)) := by
    walk_at "ev"
    rw [hmany, List.length_map]
    cases m p0 <;> rfl
  refine ⟨[some (strD l), none, some (.list ((p0 :: r).map strD)), some (m p0)], _, .conS (.str _) (.conN (.conS hv2' (.conS hv4 .nil))), e3, fun H5 s5 => ?_⟩
  have sf : Same H H5 := (s2.trans s24).trans s5
  have hE : ∀ H6, Same H5 H6 → EnvD G.K H6 [some (.str (S l)), some (.ref fr), some v2, some v4] [some (strD l), none, some (.list ((p0 :: r).map strD)), some (m p0)] := fun H6 s6 => .conS (.str _) (.conN (.conS (dp_mono (s5.trans s6) hv2') (.conS (dp_mono (s5.trans s6) hv4) .nil)))
  have e4 : evE (ftOf T40) gv (.ife (.cmp .Is (.var 3) (.lit .none)) (.lit (.int 0)) (.lit (.int 1))) [some (strD l), none, some (.list ((p0 :: r).map strD)), some (m p0)] = some (.int (if isNoneD (m p0) = true then 0 else 1)) := by
    walk_at "ev"
    cases m p0 <;> rfl
  by_cases hc : (isNoneD (m p0) || many l) = true
  · refine if_true_of hc ?_
    refine ⟨_, _, hE _ (Same.refl _), e4, fun v6 H6 s6 hv6 => ?_⟩
    have := dp_int_inv hv6
    subst this
    refine ⟨_, rfl, by split <;> simp, fun d hd => ?_⟩
    by_cases hn : isNoneD (m p0) = true
    · rw [if_pos hn] at out ⊢
      exact out d H6 (sf.trans s6) hd
    · rw [if_neg hn] at out ⊢
      have hm : many l = true := by
        rw [Bool.eq_false_iff.mpr hn] at hc
        exact hc
      rw [if_pos hm] at out
      exact out d H6 (sf.trans s6) hd
  · have hc0 := Bool.eq_false_iff.mpr hc
    refine if_false_of hc0 ?_
    have hc := hc0
    rw [Bool.or_eq_false_iff] at hc
    rw [hc.1, hc.2] at out
    have out : ∀ v H2, Same H H2 → Dp G.K H2 v (m p0) → Q v H2 := out
    have e5 : evE (ftOf T40) gv (.var 3) [some (strD l), none, some (.list ((p0 :: r).map strD)), some (m p0)] = some (m p0) := by walk_at "ev"
    exact ⟨_, _, hE _ (Same.refl _), e5, fun v6 H6 s6 hv6 => out v6 H6 (sf.trans s6) hv6⟩

end K81
namespace K81
open PySem PySem.Spec PyProof.Rows L2 JL M81 SX
open TL (tl)
local macro_rules | `(tactic| walk_at "ev") => `(tactic| simp only [e_lit, e_var, e_glob, e_bin, e_neg, e_cmp, e_chain, e_and, e_or, e_not, e_ife, e_own, e_bi, e_isi, e_split, e_join, e_idx, e_slc, e_tup, e_lst, e_fstr, a_nil, a_cons, s_set, s_par, s_if, s_ret, s_drop, b_nil, b_cons, l_and, l_or, l_not, l_neg, l_if, l_ifO, l_lt, l_le, l_gt, l_ge, l_eqI, l_neI, l_chainI, l_inC, l_ninC, l_is, l_isn, l_lenL, l_lenT, l_abs, l_tupL, l_tupT, l_add, l_sub,
  l_isi_s, l_isi_t, isiD, l_seq_nx, l_seq_rt, l_itL, l_itT, l_itS, l_it0, l_it1, l_il0, l_il1, isNoneD, Tg.bind, Tg.wipe,
  Option.bind_some, Option.bind_none, Option.map_some, Option.map_none, List.getElem?_cons_zero, List.getElem?_cons_succ, List.getElem?_nil, Option.join_some, List.set_cons_zero, List.set_cons_succ, Bool.not_true, Bool.not_false, Bool.false_eq_true, if_true, if_false])

theorem Rd.of {G : Gb} {k j : Nat} {tb : List (Str × Fm)} {x : Str} {st : Stmt} {N ps : List Str} {n : Nat} {cs : List CS} {m : List Nat → PyData} (h : FtOk G k (ftOf tb)) (hgv : GvOk G gv) (hbn : BnOk G) (D : DefX G x st) (S : FnScope N ps (defScope st)) (hc : compB N n (defScope st) (defBody st) = some cs) (hl : ps.length = 1)
    (hb : ∀ (kV doc pm : Value) (an : Option Addr) (cdv ct : Value) (us : List Value), us.length = ps.length → bindArgs (PySem.W.fnOf x x (defArgs st) (defBody st) (defScope st) .none kV doc pm an cdv ct) ⟨us, []⟩ = pure (ps.zip us))
    (ha : ∀ l, Good l → mkF (ftOf tb) gv 5000 1 N.length cs [strD l] = some (m l)) (hj : k + 1 ≤ j) : ∃ f, G.mg x = some (.ref f) ∧ Rd G j f m := by
  obtain ⟨f, fd, F, hm⟩ := D.ex
  refine ⟨f, hm, ⟨fd, ps, (fn_pure2 (W := 5000) F S hc h hgv hbn fun ds d hd => ?_).mono hj, F.kp, F.binds hb⟩⟩
  obtain ⟨l, g, rfl, rfl⟩ := hd
  have e := ha l g
  have e2 : mkF (ftOf tb) gv 5000 1 N.length cs [strD l] = (evB (ftOf tb) gv 5000 cs ([strD l].map some ++ List.replicate (N.length - 1) none)).bind outV := by
    unfold mkF
    rw [if_pos (show ([strD l] : List PyData).length = 1 from rfl)]
    rfl
  rw [e2] at e
  obtain ⟨o, h1, h2⟩ := Option.bind_eq_some_iff.mp e
  exact ⟨hl.symm, o, h1, h2⟩
/-! ### parse_.. -/
def spParse (G : Gb) (C : Addr) (m : List Nat → PyData) : Sp := fun vs H Q E => ∃ l : List Nat, vs = [.str (S l)] ∧ Good l ∧ lineOut G.K C m l H Q E
/-- a parser, as its callers want it -/
structure Pr (G : Gb) (C f : Addr) (m : List Nat → PyData) : Prop where
  ex : ∃ (fd : FuncData), FnOk G.P G.w G.K G.mg G.base (L2.CX G.P G.w) 42 f fd ["text"] (spParse G C m) ∧ PySem.W.keepIn G.K (.ref f) = true ∧ Binds G.K fd ["text"] []
theorem ok_parse_number {G : Gb} {C fI : Addr} (h : Txt G) (T : PySem.PEX.ParTxt G.K G.mg G.P C fI) (D1 : DefX G "one_line" s_one_line) (D : DefX G "parse_number" s_parse_number) : ∃ f, G.mg "parse_number" = some (.ref f) ∧ Pr G C f (fun l => optQ (numIn l)) := by
  obtain ⟨f, fd, F, hm⟩ := D.ex
  obtain ⟨f1, fd1, F1, hm1⟩ := D1.ex
  obtain ⟨fr, hmr, R⟩ := Rd.of (j := 40) (ok20 h) h.gv h.bn h.d_number_in sc_number_in cc_number_in rfl (fun _ _ _ _ _ _ us hl => match us, hl with | [_], _ => rfl) a_number_in (by decide)
  have b1 := F1.binds (ps := ["text", "read"]) fun _ _ _ _ _ _ us hl => match us, hl with | [_, _], _ => rfl
  refine ⟨f, hm, ⟨fd, ?_, F.kp, F.binds fun _ _ _ _ _ _ us hl => match us, hl with | [_], _ => rfl⟩⟩
  refine F.okX sc_parse_number (fun vs H Q E h => ?_) (fun cdv A outer s H vs Q E hr hs => ?_)
  · obtain ⟨l, rfl, _⟩ := h
    rfl
  obtain ⟨l, rfl, g, out⟩ := hs
  refine ⟨_, pss_one (ps_ret (pe_call (dvs := []) (E := E) (ok_one_line h T F1) hr rfl hm1 F1.kp b1 .nil (passes_call (takes_of rfl rfl rfl rfl) fun _ _ _ _ h => h) (pa_cons (pv 0) (pa_cons (pe_glob (v := .ref fr) rfl hmr rfl) pa_nil)))), ?_⟩
  exact ⟨_, rfl, l, fr, _, rfl, g, R, out⟩
theorem ok_parse_row {G : Gb} {C fI : Addr} (h : Txt G) (T : PySem.PEX.ParTxt G.K G.mg G.P C fI) (D1 : DefX G "one_line" s_one_line) (D : DefX G "parse_row" s_parse_row) : ∃ f, G.mg "parse_row" = some (.ref f) ∧ Pr G C f (fun l => optR (rowIn l)) := by
  obtain ⟨f, fd, F, hm⟩ := D.ex
  obtain ⟨f1, fd1, F1, hm1⟩ := D1.ex
  obtain ⟨fr, hmr, R⟩ := Rd.of (j := 40) (ok21 h) h.gv h.bn h.d_row_in sc_row_in cc_row_in rfl (fun _ _ _ _ _ _ us hl => match us, hl with | [_], _ => rfl) a_row_in (by decide)
  have b1 := F1.binds (ps := ["text", "read"]) fun _ _ _ _ _ _ us hl => match us, hl with | [_, _], _ => rfl
  refine ⟨f, hm, ⟨fd, ?_, F.kp, F.binds fun _ _ _ _ _ _ us hl => match us, hl with | [_], _ => rfl⟩⟩
  refine F.okX sc_parse_row (fun vs H Q E h => ?_) (fun cdv A outer s H vs Q E hr hs => ?_)
  · obtain ⟨l, rfl, _⟩ := h
    rfl
  obtain ⟨l, rfl, g, out⟩ := hs
  refine ⟨_, pss_one (ps_ret (pe_call (dvs := []) (E := E) (ok_one_line h T F1) hr rfl hm1 F1.kp b1 .nil (passes_call (takes_of rfl rfl rfl rfl) fun _ _ _ _ h => h) (pa_cons (pv 0) (pa_cons (pe_glob (v := .ref fr) rfl hmr rfl) pa_nil)))), ?_⟩
  exact ⟨_, rfl, l, fr, _, rfl, g, R, out⟩
theorem ok_parse_spell {G : Gb} {C fI : Addr} (h : Txt G) (T : PySem.PEX.ParTxt G.K G.mg G.P C fI) (D1 : DefX G "one_line" s_one_line) (D : DefX G "parse_spell" s_parse_spell) : ∃ f, G.mg "parse_spell" = some (.ref f) ∧ Pr G C f (fun l => optSp (spellIn l)) := by
  obtain ⟨f, fd, F, hm⟩ := D.ex
  obtain ⟨f1, fd1, F1, hm1⟩ := D1.ex
  obtain ⟨fr, hmr, R⟩ := Rd.of (j := 40) (ok22 h) h.gv h.bn h.d_spell_in sc_spell_in cc_spell_in rfl (fun _ _ _ _ _ _ us hl => match us, hl with | [_], _ => rfl) a_spell_in (by decide)
  have b1 := F1.binds (ps := ["text", "read"]) fun _ _ _ _ _ _ us hl => match us, hl with | [_, _], _ => rfl
  refine ⟨f, hm, ⟨fd, ?_, F.kp, F.binds fun _ _ _ _ _ _ us hl => match us, hl with | [_], _ => rfl⟩⟩
  refine F.okX sc_parse_spell (fun vs H Q E h => ?_) (fun cdv A outer s H vs Q E hr hs => ?_)
  · obtain ⟨l, rfl, _⟩ := h
    rfl
  obtain ⟨l, rfl, g, out⟩ := hs
  refine ⟨_, pss_one (ps_ret (pe_call (dvs := []) (E := E) (ok_one_line h T F1) hr rfl hm1 F1.kp b1 .nil (passes_call (takes_of rfl rfl rfl rfl) fun _ _ _ _ h => h) (pa_cons (pv 0) (pa_cons (pe_glob (v := .ref fr) rfl hmr rfl) pa_nil)))), ?_⟩
  exact ⟨_, rfl, l, fr, _, rfl, g, R, out⟩
theorem ok_parse_course {G : Gb} {C fI : Addr} (h : Txt G) (T : PySem.PEX.ParTxt G.K G.mg G.P C fI) (D1 : DefX G "one_line" s_one_line) (D : DefX G "parse_course" s_parse_course) : ∃ f, G.mg "parse_course" = some (.ref f) ∧ Pr G C f (fun l => optRs (rowsIn l restL)) := by
  obtain ⟨f, fd, F, hm⟩ := D.ex
  obtain ⟨f1, fd1, F1, hm1⟩ := D1.ex
  obtain ⟨fr, hmr, R⟩ := Rd.of (j := 40) (ok24 h) h.gv h.bn h.d_course_in sc_course_in cc_course_in rfl (fun _ _ _ _ _ _ us hl => match us, hl with | [_], _ => rfl) a_course_in (by decide)
  have b1 := F1.binds (ps := ["text", "read"]) fun _ _ _ _ _ _ us hl => match us, hl with | [_, _], _ => rfl
  refine ⟨f, hm, ⟨fd, ?_, F.kp, F.binds fun _ _ _ _ _ _ us hl => match us, hl with | [_], _ => rfl⟩⟩
  refine F.okX sc_parse_course (fun vs H Q E h => ?_) (fun cdv A outer s H vs Q E hr hs => ?_)
  · obtain ⟨l, rfl, _⟩ := h
    rfl
  obtain ⟨l, rfl, g, out⟩ := hs
  refine ⟨_, pss_one (ps_ret (pe_call (dvs := []) (E := E) (ok_one_line h T F1) hr rfl hm1 F1.kp b1 .nil (passes_call (takes_of rfl rfl rfl rfl) fun _ _ _ _ h => h) (pa_cons (pv 0) (pa_cons (pe_glob (v := .ref fr) rfl hmr rfl) pa_nil)))), ?_⟩
  exact ⟨_, rfl, l, fr, _, rfl, g, R, out⟩
theorem ok_parse_readings {G : Gb} {C fI : Addr} (h : Txt G) (T : PySem.PEX.ParTxt G.K G.mg G.P C fI) (D1 : DefX G "one_line" s_one_line) (D : DefX G "parse_readings" s_parse_readings) : ∃ f, G.mg "parse_readings" = some (.ref f) ∧ Pr G C f (fun l => optRs (rowsIn l nothingL)) := by
  obtain ⟨f, fd, F, hm⟩ := D.ex
  obtain ⟨f1, fd1, F1, hm1⟩ := D1.ex
  obtain ⟨fr, hmr, R⟩ := Rd.of (j := 40) (ok25 h) h.gv h.bn h.d_readings_in sc_readings_in cc_readings_in rfl (fun _ _ _ _ _ _ us hl => match us, hl with | [_], _ => rfl) a_readings_in (by decide)
  have b1 := F1.binds (ps := ["text", "read"]) fun _ _ _ _ _ _ us hl => match us, hl with | [_, _], _ => rfl
  refine ⟨f, hm, ⟨fd, ?_, F.kp, F.binds fun _ _ _ _ _ _ us hl => match us, hl with | [_], _ => rfl⟩⟩
  refine F.okX sc_parse_readings (fun vs H Q E h => ?_) (fun cdv A outer s H vs Q E hr hs => ?_)
  · obtain ⟨l, rfl, _⟩ := h
    rfl
  obtain ⟨l, rfl, g, out⟩ := hs
  refine ⟨_, pss_one (ps_ret (pe_call (dvs := []) (E := E) (ok_one_line h T F1) hr rfl hm1 F1.kp b1 .nil (passes_call (takes_of rfl rfl rfl rfl) fun _ _ _ _ h => h) (pa_cons (pv 0) (pa_cons (pe_glob (v := .ref fr) rfl hmr rfl) pa_nil)))), ?_⟩
  exact ⟨_, rfl, l, fr, _, rfl, g, R, out⟩

end K81
namespace K81
open PySem PySem.Spec PyProof.Rows L2 JL M81 SX
open TL (tl)
local macro_rules | `(tactic| walk_at "ev") => `(tactic| simp only [e_lit, e_var, e_glob, e_bin, e_neg, e_cmp, e_chain, e_and, e_or, e_not, e_ife, e_own, e_bi, e_isi, e_split, e_join, e_idx, e_slc, e_tup, e_lst, e_fstr, a_nil, a_cons, s_set, s_par, s_if, s_ret, s_drop, b_nil, b_cons, l_and, l_or, l_not, l_neg, l_if, l_ifO, l_lt, l_le, l_gt, l_ge, l_eqI, l_neI, l_chainI, l_inC, l_ninC, l_is, l_isn, l_lenL, l_lenT, l_abs, l_tupL, l_tupT, l_add, l_sub,
  l_isi_s, l_isi_t, isiD, l_seq_nx, l_seq_rt, l_itL, l_itT, l_itS, l_it0, l_it1, l_il0, l_il1, isNoneD, Tg.bind, Tg.wipe,
  Option.bind_some, Option.bind_none, Option.map_some, Option.map_none, List.getElem?_cons_zero, List.getElem?_cons_succ, List.getElem?_nil, Option.join_some, List.set_cons_zero, List.set_cons_succ, Bool.not_true, Bool.not_false, Bool.false_eq_true, if_true, if_false])

theorem pre10 (c : Nat) (r : List Nat) : TL.pre [10] (c :: r) = decide (c = 10) := by
  show ((c :: r).take 1 == [10]) = _
  rw [List.take_succ_cons, List.take_zero, Bool.eq_iff_iff]
  simp
theorem spl10_join : ∀ (l acc : List Nat), TL.joinL [10] (TL.spl [10] 0 acc l) = acc ++ l
  | [], acc => by
    rw [TL.spl_nil]
    show acc = acc ++ []
    simp
  | c :: r, acc => by
    show TL.joinL [10] (if TL.pre [10] (c :: r) = true then acc :: TL.spl [10] 0 [] r else TL.spl [10] 0 (acc ++ [c]) r) = _
    rw [pre10]
    by_cases h : c = 10
    · rw [if_pos (decide_eq_true h), h]
      have ih := spl10_join r []
      cases hs : TL.spl [10] 0 [] r with
      | nil => exact absurd hs (spl_ne _ _ _)
      | cons p q =>
        rw [hs] at ih
        show acc ++ ([10] ++ TL.joinL [10] (p :: q)) = _
        rw [ih]
        rfl
    · rw [if_neg (by rw [decide_eq_false h]; decide), spl10_join r (acc ++ [c])]
      simp
theorem one_fst {l : List Nat} (h : many l = false) : fst l = l := by
  unfold many at h
  have h := of_decide_eq_false h
  have j := spl10_join l []
  unfold fst
  cases hs : TL.spl [10] 0 [] l with
  | nil => exact absurd hs (spl_ne _ _ _)
  | cons p q =>
    cases q with
    | nil =>
      rw [hs] at j
      exact j
    | cons a b =>
      rw [hs] at h
      exact absurd (by simp only [List.length_cons]; omega) h
/-! ### what is told of a reading -/
def tagD (s : Str) (d : PyData) : PyData := .tuple [.str s, d]
def dueD (m : List Nat → PyData) (l : List Nat) : PyData := if isNoneD (m (fst l)) = true then tagD "line" (.int 0) else if many l = true then tagD "line" (.int 1) else tagD "read" (m l)
def spDue (G : Gb) : Sp := fun vs H Q _ => ∃ (l : List Nat) (f : Addr) (m : List Nat → PyData), vs = [.ref f, .str (S l)] ∧ Good l ∧ Rd G 40 f m ∧ ∀ v H2, Same H H2 → Dp G.K H2 v (dueD m l) → Q v H2
theorem upd_same_of {H : Hp} {p : Addr} {o : HO} (h : H p = none) : Same H (upd H p o) := fun c o' hc => by rw [upd_ne (ne_of_none hc h)]; exact hc
theorem dp_none_iff {K : PySem.W.Frag} {H : Hp} {v : V} {d : PyData} (h : Dp K H v d) : decide (v = .non) = isNoneD d := by
  cases h <;> first | rfl | exact decide_eq_false (fun z => by cases z)
theorem ok_law_due {G : Gb} (h : Txt G) {f : Addr} {fd : FuncData} (F : Fun G.K "_law_due" "_law_due" s_law_due f fd) : FnOk G.P G.w G.K G.mg G.base CX0 41 f fd ["read", "text"] (spDue G) := by
  refine F.ok sc_law_due (fun vs H Q E h => ?_) (fun cdv A outer s H vs Q E hr hs => ?_)
  · obtain ⟨l, f, m, rfl, _⟩ := h
    rfl
  obtain ⟨l, fr, m, rfl, g, R, out⟩ := hs
  obtain ⟨fdr, psr, FR, hk, hb⟩ := R.ex
  have c : Ctx G ["read", "text", "lines"] 40 (defScope s_law_due) (cxOf CX0 G.P G.w G.K G.mg G.base ["read", "text", "lines"] "_law_due" (defScope s_law_due) f cdv A outer s H E).nox := ⟨rfl, rfl, rfl, rfl, rfl, rfl, sc_law_due.nd, rfl, rfl, PassesOwn.never, hr⟩
  have hft : FtOk G 40 (ftOf T40) := ok40 h
  refine ⟨_, pss_cons (ps_set (i := 2) sc_law_due.nd rfl (Or.inl rfl) (pe_ev (ce := .split (.var 1) (.lit (.str "\n"))) c hft h.gv h.bn (by kernel_rfl)))
    (pss_cons (ps_if (pt_cmpR op_isN1 (pe_callL (i := 0) (E := fun _ _ _ => False) FR hr rfl (Or.inl rfl) hk hb .nil (fun _ _ _ _ _ _ _ z => z.elim) (pa_cons (pe_ev (ce := .idx (.var 2) (.lit (.int 0))) c hft h.gv h.bn (by kernel_rfl)) pa_nil)) pe_non (nomark _))
      (pss_one (ps_ret (pe_ev (ce := .tup [.lit (.str "line"), .lit (.int 0)]) c hft h.gv h.bn (by kernel_rfl)))) pss_nil)
    (pss_one (ps_ret (pe_ifExp (pt_ev (ce := .cmp .Eq (.bi .len [.var 2]) (.lit (.int 1))) c hft h.gv h.bn (by kernel_rfl))
      (pe_tup (pa_cons pe_str (pa_cons (pe_callL (i := 0) (E := fun _ _ _ => False) FR hr rfl (Or.inl rfl) hk hb .nil (fun _ _ _ _ _ _ _ z => z.elim) (pa_cons (pv 1) pa_nil)) pa_nil)))
      (pe_ev (ce := .tup [.lit (.str "line"), .lit (.int 1)]) c hft h.gv h.bn (by kernel_rfl)))))), ?_⟩
  obtain ⟨p0, r, hp⟩ : ∃ p0 r, TL.spl [10] 0 [] l = p0 :: r := by
    cases hq : TL.spl [10] 0 [] l with
    | nil => exact absurd hq (spl_ne _ _ _)
    | cons a r => exact ⟨a, r, rfl⟩
  have hfst : fst l = p0 := by unfold fst; rw [hp]; rfl
  unfold dueD at out
  rw [hfst] at out
  have gp : Good p0 := by rw [← hfst]; exact fst_good g
  have e1 : evE (ftOf T40) gv (.split (.var 1) (.lit (.str "\n"))) [none, some (strD l), none] = some (.list ((p0 :: r).map strD)) := by
    unfold strD
    walk_at "ev"
    rw [lend_S, l_split (by decide) (by decide) (lim_good g), hp]
    rfl
  refine ⟨[none, some (strD l), none], _, .conN (.conS (.str _) (.conN .nil)), e1, fun v2 H2 s2 hv2 => ?_⟩
  have e2 : evE (ftOf T40) gv (.idx (.var 2) (.lit (.int 0))) [none, some (strD l), some (.list ((p0 :: r).map strD))] = some (strD p0) := by
    rw [List.map_cons]
    walk_at "ev"
  refine ⟨rfl, [none, some (strD l), some (.list ((p0 :: r).map strD))], _, .conN (.conS (.str _) (.conS hv2 .nil)), e2, fun v3 H3 s3 hv3 => ?_⟩
  refine ⟨[strD p0], m p0, .cons hv3 .nil, ⟨p0, gp, rfl, rfl⟩, fun v4 H4 s4 hv4 => ?_⟩
  refine ⟨rfl, _, rfl, ?_⟩
  rw [dp_none_iff hv4]
  have hv2' := dp_mono (s3.trans s4) hv2
  have sf : Same H H4 := (s2.trans s3).trans s4
  by_cases hn : isNoneD (m p0) = true
  · refine if_true_of hn ?_
    rw [if_pos hn] at out
    have e5 : evE (ftOf T40) gv (.tup [.lit (.str "line"), .lit (.int 0)]) [none, some (strD l), some (.list ((p0 :: r).map strD))] = some (tagD "line" (.int 0)) := by
      walk_at "ev"
      rfl
    exact ⟨_, _, .conN (.conS (.str _) (.conS hv2' .nil)), e5, fun v6 H6 s6 hv6 => out v6 H6 (sf.trans s6) hv6⟩
  · have hn := Bool.eq_false_iff.mpr hn
    refine if_false_of hn ?_
    rw [hn, if_neg Bool.false_ne_true] at out
    have e6 : evE (ftOf T40) gv (.cmp .Eq (.bi .len [.var 2]) (.lit (.int 1))) [none, some (strD l), some (.list ((p0 :: r).map strD))] = some (.bool (!many l)) := by
      walk_at "ev"
      unfold many
      rw [List.length_map, hp]
      congr 2
      cases r with
      | nil => rfl
      | cons a b =>
        rw [decide_eq_false (by simp only [List.length_cons]; omega), decide_eq_true (by simp only [List.length_cons]; omega)]
        rfl
    refine ⟨_, _, .conN (.conS (.str _) (.conS hv2' .nil)), e6, fun H5 s5 => ?_⟩
    by_cases hm : many l = true
    · refine if_false_of (by rw [hm]; rfl) ?_
      rw [if_pos hm] at out
      have e7 : evE (ftOf T40) gv (.tup [.lit (.str "line"), .lit (.int 1)]) [none, some (strD l), some (.list ((p0 :: r).map strD))] = some (tagD "line" (.int 1)) := by
        walk_at "ev"
        rfl
      exact ⟨_, _, .conN (.conS (.str _) (.conS (dp_mono s5 hv2') .nil)), e7, fun v6 H6 s6 hv6 => out v6 H6 ((sf.trans s5).trans s6) hv6⟩
    · have hm := Bool.eq_false_iff.mpr hm
      refine if_true_of (by rw [hm]; rfl) ?_
      rw [hm, if_neg Bool.false_ne_true] at out
      refine ⟨rfl, _, rfl, ⟨[strD l], m l, .cons (.str _) .nil, ⟨l, g, rfl, rfl⟩, fun v6 H6 s6 hv6 => ?_⟩⟩
      refine ⟨by show 2 ≤ sizeLine; rw [sizeLine_eq]; decide, fun p np => ?_⟩
      exact out _ _ (((sf.trans s5).trans s6).trans (upd_same_of np)) (.tup (.inl (.inl upd_same)) (.cons (.str _) (.cons (dp_mono (upd_same_of np) hv6) .nil)))

end K81
namespace K81
open PySem PySem.Spec PyProof.Rows L2 JL M81 SX
open TL (tl)
local macro_rules | `(tactic| walk_at "ev") => `(tactic| simp only [e_lit, e_var, e_glob, e_bin, e_neg, e_cmp, e_chain, e_and, e_or, e_not, e_ife, e_own, e_bi, e_isi, e_split, e_join, e_idx, e_slc, e_tup, e_lst, e_fstr, a_nil, a_cons, s_set, s_par, s_if, s_ret, s_drop, b_nil, b_cons, l_and, l_or, l_not, l_neg, l_if, l_ifO, l_lt, l_le, l_gt, l_ge, l_eqI, l_neI, l_chainI, l_inC, l_ninC, l_is, l_isn, l_lenL, l_lenT, l_abs, l_tupL, l_tupT, l_add, l_sub,
  l_isi_s, l_isi_t, isiD, l_seq_nx, l_seq_rt, l_itL, l_itT, l_itS, l_it0, l_it1, l_il0, l_il1, isNoneD, Tg.bind, Tg.wipe,
  Option.bind_some, Option.bind_none, Option.map_some, Option.map_none, List.getElem?_cons_zero, List.getElem?_cons_succ, List.getElem?_nil, Option.join_some, List.set_cons_zero, List.set_cons_succ, Bool.not_true, Bool.not_false, Bool.false_eq_true, if_true, if_false])

/-! ### what can be shown, its length -/
structure Shw (n k : Nat) (d : PyData) : Prop where
  sh : d.showable = true
  nd : d.hasDict = false
  dp : d.depth ≤ k
  len : d.shown.length ≤ n
theorem Shw.mono {n m j k : Nat} {d : PyData} (h : Shw n j d) (hn : n ≤ m) (hk : j ≤ k) : Shw m k d := ⟨h.sh, h.nd, Nat.le_trans h.dp hk, Nat.le_trans h.len hn⟩
theorem Shw.none : Shw 4 0 .none := ⟨rfl, rfl, Nat.le_refl _, by rw [PyData.shown_none]; decide⟩
theorem Shw.int {i : Int} (h : i.natAbs < 10 ^ 550) : Shw 551 0 (.int i) := ⟨by
    show decide (i.natAbs.log2 < 1920) = true
    exact decide_eq_true (log_small h), rfl, Nat.le_refl _, by
    rw [PyData.shown_int]
    show (Str.ofString (toString i)).length ≤ 551
    rw [S_int, S_len]
    exact intL_len (by decide) h⟩
theorem Shw.str {l : List Nat} (h : ∀ c ∈ l, c < 128) : Shw (10 * l.length + 2) 0 (strD l) := ⟨rfl, rfl, Nat.le_refl _, by
    unfold strD
    rw [PyData.shown_str]
    have := StrLaws.reprText_len (S l) (fun c hc => Nat.lt_trans (h c hc) (by decide))
    rw [S_len] at this
    exact this⟩
theorem sum_join : ∀ ts : List Str, (Str.join ", " ts).length ≤ (ts.map fun t => t.length + 2).sum
  | [] => Nat.zero_le _
  | [x] => by
    show x.length ≤ _
    simp
  | x :: y :: r => by
    have ih := sum_join (y :: r)
    show (x ++ ", " ++ Str.join ", " (y :: r)).length ≤ _
    rw [strLen_append, strLen_append, List.map_cons, List.sum_cons]
    have e2 : ((", " : String) : Str).length = 2 := rfl
    rw [e2]
    omega
theorem shownAll_map : ∀ ds : List PyData, PyData.shownAll ds = ds.map PyData.shown
  | [] => by rw [PyData.shownAll_nil]; rfl
  | d :: r => by rw [PyData.shownAll_cons, shownAll_map r]; rfl
theorem showableAll_of {ds : List PyData} (h : ∀ d ∈ ds, d.showable = true) : PyData.showableAll ds = true := by
  induction ds with
  | nil => rfl
  | cons d r ih =>
    show (d.showable && PyData.showableAll r) = true
    rw [h d (List.mem_cons_self ..), ih fun x hx => h x (List.mem_cons_of_mem _ hx)]
    rfl
theorem hasDictAll_of {ds : List PyData} (h : ∀ d ∈ ds, d.hasDict = false) : PyData.hasDictAll ds = false := by
  induction ds with
  | nil => rfl
  | cons d r ih =>
    show (d.hasDict || PyData.hasDictAll r) = false
    rw [h d (List.mem_cons_self ..), ih fun x hx => h x (List.mem_cons_of_mem _ hx)]
    rfl
theorem sum_mono {α : Type} {f g : α → Nat} : ∀ {l : List α}, (∀ x ∈ l, f x ≤ g x) → (l.map f).sum ≤ (l.map g).sum
  | [], _ => Nat.le_refl _
  | x :: r, h => by
    rw [List.map_cons, List.map_cons, List.sum_cons, List.sum_cons]
    exact Nat.add_le_add (h x (List.mem_cons_self ..)) (sum_mono fun y hy => h y (List.mem_cons_of_mem _ hy))
theorem Shw.tup {α : Type} {k : Nat} {f : α → PyData} {g : α → Nat} {l : List α} (h : ∀ x ∈ l, Shw (g x) k (f x)) : Shw ((l.map fun x => g x + 2).sum + 3) (k + 1) (.tuple (l.map f)) := by
  have hm : ∀ d ∈ l.map f, ∃ x ∈ l, f x = d := fun d hd => List.mem_map.mp hd
  refine ⟨showableAll_of fun d hd => ?_, hasDictAll_of fun d hd => ?_, ?_, ?_⟩
  · obtain ⟨x, hx, rfl⟩ := hm d hd; exact (h x hx).sh
  · obtain ⟨x, hx, rfl⟩ := hm d hd; exact (h x hx).nd
  · have := depthAll_of (k := k) (ds := l.map f) fun d hd => by obtain ⟨x, hx, rfl⟩ := hm d hd; exact (h x hx).dp
    show PyData.depthAll (l.map f) + 1 ≤ k + 1
    omega
  · rw [PyData.shown_tuple, strLen_append, strLen_append, shownAll_map, List.map_map]
    have e1 : ((("(" : String) : Str)).length = 1 := rfl
    have e3 : (((if (l.map f).length == 1 then ",)" else ")" : String) : Str)).length ≤ 2 := by split <;> decide
    have s1 := sum_join (l.map (PyData.shown ∘ f))
    rw [List.map_map] at s1
    have s2 := sum_mono (l := l) (f := (fun t : Str => t.length + 2) ∘ (PyData.shown ∘ f)) (g := fun x => g x + 2) fun x hx => by
      have := (h x hx).len
      show (f x).shown.length + 2 ≤ g x + 2
      omega
    rw [e1]
    omega
theorem Shw.lst {α : Type} {k : Nat} {f : α → PyData} {g : α → Nat} {l : List α} (h : ∀ x ∈ l, Shw (g x) k (f x)) : Shw ((l.map fun x => g x + 2).sum + 3) (k + 1) (.list (l.map f)) := by
  have hm : ∀ d ∈ l.map f, ∃ x ∈ l, f x = d := fun d hd => List.mem_map.mp hd
  refine ⟨showableAll_of fun d hd => ?_, hasDictAll_of fun d hd => ?_, ?_, ?_⟩
  · obtain ⟨x, hx, rfl⟩ := hm d hd; exact (h x hx).sh
  · obtain ⟨x, hx, rfl⟩ := hm d hd; exact (h x hx).nd
  · have := depthAll_of (k := k) (ds := l.map f) fun d hd => by obtain ⟨x, hx, rfl⟩ := hm d hd; exact (h x hx).dp
    show PyData.depthAll (l.map f) + 1 ≤ k + 1
    omega
  · rw [PyData.shown_list, strLen_append, strLen_append, shownAll_map, List.map_map]
    have e1 : ((("[" : String) : Str)).length = 1 := rfl
    have e3 : ((("]" : String) : Str)).length = 1 := rfl
    have s1 := sum_join (l.map (PyData.shown ∘ f))
    rw [List.map_map] at s1
    have s2 := sum_mono (l := l) (f := (fun t : Str => t.length + 2) ∘ (PyData.shown ∘ f)) (g := fun x => g x + 2) fun x hx => by
      have := (h x hx).len
      show (f x).shown.length + 2 ≤ g x + 2
      omega
    rw [e1, e3]
    omega
theorem shw_num {q : Q} (h : small q) : Shw 1109 1 (numD q) := by
  have := Shw.tup (l := [q.1, q.2]) (f := PyData.int) (g := fun _ => 551) (k := 0) fun x hx => by
    simp at hx
    rcases hx with rfl | rfl
    · exact Shw.int h.1
    · exact Shw.int h.2
  exact this.mono (by show (551 + 2) + ((551 + 2) + 0) + 3 ≤ 1109; decide) (by decide)
theorem sum_const {α : Type} (c : Nat) : ∀ l : List α, (l.map fun _ => c).sum = l.length * c
  | [] => by simp
  | x :: r => by rw [List.map_cons, List.sum_cons, sum_const c r, List.length_cons, Nat.succ_mul, Nat.add_comm]
theorem shw_row {r : List Q} (h : ∀ q ∈ r, small q) : Shw (r.length * 1111 + 3) 2 (rowD r) := by
  have := Shw.tup (l := r) (f := numD) (g := fun _ => 1109) (k := 1) fun x hx => shw_num (h x hx)
  rw [sum_const] at this
  exact this
theorem shw_rows {rs : List (List Q)} (h : ∀ r ∈ rs, ∀ q ∈ r, small q) : Shw ((rs.map fun r => r.length * 1111 + 5).sum + 3) 3 (rowsD rs) := by
  exact Shw.tup (l := rs) (f := rowD) (g := fun r => r.length * 1111 + 3) (k := 2) fun x hx => shw_row (h x hx)
theorem shw_spell {ns : List (List Nat)} (h : ∀ n ∈ ns, nameB n = true) : Shw (ns.length * 124 + 3) 1 (spellD ns) := by
  have := Shw.tup (l := ns) (f := strD) (g := fun _ => 122) (k := 0) fun x hx => (Shw.str (name_asc (h x hx))).mono (by have := name_len (h x hx); omega) (Nat.le_refl _)
  rw [sum_const] at this
  exact this
/-! ### what the readers give is small -/
theorem numIn_small {l : List Nat} {q : Q} (g : Good l) (h : numIn l = some q) : small q := by
  rw [numIn_law] at h
  unfold numLaw at h
  split at h
  · rename_i p hs
    have gp : Good p := g.spl (s := [47]) (by rw [hs]; exact List.mem_cons_self ..)
    obtain ⟨t, ht, h⟩ := Option.bind_eq_some_iff.mp h
    split at h
    · cases h
      exact fr_small (readW_small gp ht) one_small (by decide)
    · cases h
  · rename_i p r hs
    have gp : Good p := g.spl (s := [47]) (by rw [hs]; exact List.mem_cons_self ..)
    have gr : Good r := g.spl (s := [47]) (by rw [hs]; simp)
    obtain ⟨t, ht, h⟩ := Option.bind_eq_some_iff.mp h
    obtain ⟨b, hb, h⟩ := Option.bind_eq_some_iff.mp h
    split at h
    · cases h
    · rename_i hlt
      split at h
      · cases h
        exact fr_small (readW_small gp ht) (readW_small gr hb) (by omega)
      · cases h
  · cases h
theorem mapO_mem {α β : Type} {f : α → Option β} : ∀ {l : List α} {rs : List β}, mapO f l = some rs → (∀ y ∈ rs, ∃ x ∈ l, f x = some y) ∧ rs.length = l.length
  | [], rs, h => by
    cases h
    exact ⟨fun _ hy => (nomatch hy), rfl⟩
  | x :: r, rs, h => by
    unfold mapO at h
    obtain ⟨y, hy, h⟩ := Option.bind_eq_some_iff.mp h
    obtain ⟨ys, h1, rfl⟩ := Option.map_eq_some_iff.mp h
    obtain ⟨a, b⟩ := mapO_mem h1
    refine ⟨fun z hz => ?_, by rw [List.length_cons, List.length_cons, b]⟩
    rcases List.mem_cons.mp hz with rfl | hz
    · exact ⟨x, List.mem_cons_self .., hy⟩
    · obtain ⟨w, h2, h3⟩ := a z hz
      exact ⟨w, List.mem_cons_of_mem _ h2, h3⟩
theorem rowIn_small {l : List Nat} {r : List Q} (g : Good l) (h : rowIn l = some r) : (∀ q ∈ r, small q) ∧ r.length ≤ l.length + 1 := by
  unfold rowIn at h
  split at h
  · cases h
    exact ⟨fun _ hq => (nomatch hq), Nat.zero_le _⟩
  · obtain ⟨a, b⟩ := mapO_mem h
    refine ⟨fun q hq => ?_, ?_⟩
    · obtain ⟨x, hx, hq⟩ := a q hq
      exact numIn_small (g.spl hx) hq
    · rw [b]
      exact spl_len _ _ _
theorem spl_sum {s : List Nat} : ∀ (l : List Nat) (k : Nat) (acc : List Nat), ((TL.spl s k acc l).map fun p => p.length + 1).sum ≤ acc.length + l.length + 1
  | [], k, acc => by
    rw [TL.spl_nil]
    simp
  | c :: r, 0, acc => by
    show ((if TL.pre s (c :: r) = true then acc :: TL.spl s (s.length - 1) [] r else TL.spl s 0 (acc ++ [c]) r).map fun p => p.length + 1).sum ≤ _
    split
    · have := spl_sum (s := s) r (s.length - 1) []
      rw [List.map_cons, List.sum_cons, List.length_cons]
      simp only [List.length_nil] at this
      omega
    · have := spl_sum (s := s) r 0 (acc ++ [c])
      rw [List.length_append] at this
      simp only [List.length_cons, List.length_nil] at *
      omega
  | c :: r, k + 1, acc => by
    have := spl_sum (s := s) r k acc
    show ((TL.spl s k acc r).map fun p => p.length + 1).sum ≤ _
    rw [List.length_cons]
    omega
theorem mapO_sum {α β : Type} {f : α → Option β} {g : β → Nat} {k : α → Nat} : ∀ {l : List α} {rs : List β}, mapO f l = some rs → (∀ x ∈ l, ∀ y, f x = some y → g y ≤ k x) → (rs.map g).sum ≤ (l.map k).sum
  | [], rs, h, _ => by
    cases h
    exact Nat.le_refl _
  | x :: r, rs, h, hk => by
    unfold mapO at h
    obtain ⟨y, hy, h⟩ := Option.bind_eq_some_iff.mp h
    obtain ⟨ys, h1, rfl⟩ := Option.map_eq_some_iff.mp h
    rw [List.map_cons, List.map_cons, List.sum_cons, List.sum_cons]
    exact Nat.add_le_add (hk x (List.mem_cons_self ..) y hy) (mapO_sum h1 fun z hz => hk z (List.mem_cons_of_mem _ hz))
theorem sum_mul {α : Type} (f : α → Nat) (c : Nat) : ∀ l : List α, (l.map fun x => f x * c).sum = (l.map f).sum * c
  | [] => by simp
  | x :: r => by rw [List.map_cons, List.map_cons, List.sum_cons, List.sum_cons, sum_mul f c r, Nat.add_mul]
theorem rowsIn_small {l w : List Nat} {rs : List (List Q)} (g : Good l) (h : rowsIn l w = some rs) : (∀ r ∈ rs, ∀ q ∈ r, small q) ∧ (rs.map fun r => r.length * 1111 + 5).sum ≤ 5600000 := by
  unfold rowsIn at h
  split at h
  · cases h
    exact ⟨fun _ hq => (nomatch hq), Nat.zero_le _⟩
  · obtain ⟨rs', h1, h⟩ := Option.bind_eq_some_iff.mp h
    split at h
    · cases h
      obtain ⟨a, b⟩ := mapO_mem h1
      refine ⟨fun r hr => ?_, ?_⟩
      · obtain ⟨x, hx, hq⟩ := a r hr
        exact (rowIn_small (g.spl hx) hq).1
      · have := mapO_sum (g := fun r : List Q => r.length * 1111 + 5) (k := fun p : List Nat => (p.length + 1) * 1116) h1 fun x hx y hy => by
          have := (rowIn_small (g.spl hx) hy).2
          show y.length * 1111 + 5 ≤ (x.length + 1) * 1116
          omega
        rw [sum_mul] at this
        have s := spl_sum (s := [44, 32]) l 0 []
        have gl := g.len
        simp only [List.length_nil] at s
        have : (List.map (fun p : List Nat => p.length + 1) (TL.spl [44, 32] 0 [] l)).sum * 1116 ≤ 5001 * 1116 := Nat.mul_le_mul_right _ (by omega)
        omega
    · cases h
theorem spellIn_ok {l : List Nat} {ns : List (List Nat)} (g : Good l) (h : spellIn l = some ns) : (∀ n ∈ ns, nameB n = true) ∧ ns.length ≤ 5001 := by
  unfold spellIn at h
  split at h
  · cases h
    exact ⟨fun _ hq => (nomatch hq), Nat.zero_le _⟩
  · split at h
    · rename_i ha
      cases h
      refine ⟨fun n hn => List.all_eq_true.mp ha n hn, ?_⟩
      have := spl_len (s := [32]) l 0 []
      have := g.len
      omega
    · cases h
/-- what a reader answers can be shown -/
def ShwM (m : List Nat → PyData) : Prop := ∀ l, Good l → Shw 6000000 10 (m l)
theorem shw_numM : ShwM fun l => optQ (numIn l) := fun l g => by
  show Shw 6000000 10 (optQ (numIn l))
  cases h : numIn l with
  | none => exact Shw.none.mono (by decide) (by decide)
  | some q => exact (shw_num (numIn_small g h)).mono (by decide) (by decide)
theorem shw_rowM : ShwM fun l => optR (rowIn l) := fun l g => by
  show Shw 6000000 10 (optR (rowIn l))
  cases h : rowIn l with
  | none => exact Shw.none.mono (by decide) (by decide)
  | some r =>
    obtain ⟨a, b⟩ := rowIn_small g h
    exact (shw_row a).mono (by have := g.len; omega) (by decide)
theorem shw_spellM : ShwM fun l => optSp (spellIn l) := fun l g => by
  show Shw 6000000 10 (optSp (spellIn l))
  cases h : spellIn l with
  | none => exact Shw.none.mono (by decide) (by decide)
  | some r =>
    obtain ⟨a, b⟩ := spellIn_ok g h
    exact (shw_spell a).mono (by omega) (by decide)
theorem shw_rowsM (w : List Nat) : ShwM fun l => optRs (rowsIn l w) := fun l g => by
  show Shw 6000000 10 (optRs (rowsIn l w))
  cases h : rowsIn l w with
  | none => exact Shw.none.mono (by decide) (by decide)
  | some r =>
    obtain ⟨a, b⟩ := rowsIn_small g h
    exact (shw_rows a).mono (by omega) (by decide)
theorem shw_tag {s : Str} {d : PyData} (hs : s.length ≤ 10) (ha : ∀ c ∈ tl s, c < 128) (h : Shw 6000000 10 d) : Shw 6001000 11 (tagD s d) := by
  have hl : (tl s).length = s.length := (TL.len_tl s).symm
  have h1 : Shw (10 * (tl s).length + 2) 0 (.str s) := by
    have e : strD (tl s) = .str s := by
      unfold strD
      rw [S_tl]
    rw [← e]
    exact Shw.str ha
  have := Shw.tup (l := [true, false]) (f := fun b => if b then PyData.str s else d) (g := fun b => if b then 102 else 6000000) (k := 10) fun x hx => by
    cases x with
    | true => exact h1.mono (by show _ ≤ 102; omega) (Nat.zero_le _)
    | false => exact h
  exact this.mono (by decide) (by decide)
theorem line_asc : ∀ c ∈ tl ("line" : Str), c < 128 := by decide +kernel
theorem read_asc : ∀ c ∈ tl ("read" : Str), c < 128 := by decide +kernel
theorem shw_int01 {i : Int} (h : i = 0 ∨ i = 1) : Shw 6000000 10 (.int i) := by
  have : i.natAbs < 10 ^ 550 := by
    rcases h with rfl | rfl
    · exact Nat.pow_pos (by decide)
    · exact one_small
  exact (Shw.int this).mono (by decide) (by decide)
theorem shw_due {m : List Nat → PyData} (hm : ShwM m) {l : List Nat} (g : Good l) : Shw 6001000 11 (dueD m l) := by
  unfold dueD
  split
  · exact shw_tag (by decide +kernel) line_asc (shw_int01 (.inl rfl))
  · split
    · exact shw_tag (by decide +kernel) line_asc (shw_int01 (.inr rfl))
    · exact shw_tag (by decide +kernel) read_asc (hm l g)
/-! ### repr of data -/
def rRepr (K : PySem.W.Frag) : List V → Hp → VK → Prop := fun vs H Q => ∃ (v : V) (d : PyData) (ds : List PyData), vs = [v] ∧ Dp K H v d ∧ (d = .tuple ds ∨ d = .list ds) ∧ Shw 16000000 20 d ∧ Q (.str d.shown) H
theorem call_repr_D {X : Cx} (hg : X.A.guards = some []) (hu : X.A.units + 65 < cLine) : CallR X (.builtin "repr") (rRepr X.K) := by
  intro pins s σ H xs us Q I r h
  obtain ⟨v, d, ds, rfl, hd, hc, hs, q⟩ := h
  obtain ⟨u, rfl, ru⟩ := vals1 r
  obtain ⟨as, R⟩ := Dp.reads I d v u hd ru
  have hr : ∃ a, v = .ref a := by
    rcases hc with rfl | rfl
    · cases hd; exact ⟨_, rfl⟩
    · cases hd; exact ⟨_, rfl⟩
  obtain ⟨a, rfl⟩ := hr
  obtain rfl : u = Value.ref a := ru
  have hdp := hs.dp
  exact repr_of_reads' R hs.sh (fun z => by rw [hs.nd] at z; cases z) hg (by omega) (fun _ _ e => e) (fun h' u tk hk => ⟨.str d.shown, H, I.kept hk, ⟨_, rfl⟩, q⟩) (by rw [sizeLine_eq]; exact Nat.le_trans hs.len (by decide))

end K81
namespace K81
open PySem PySem.Spec PyProof.Rows L2 JL M81 SX
open TL (tl)
local macro_rules | `(tactic| walk_at "ev") => `(tactic| simp only [e_lit, e_var, e_glob, e_bin, e_neg, e_cmp, e_chain, e_and, e_or, e_not, e_ife, e_own, e_bi, e_isi, e_split, e_join, e_idx, e_slc, e_tup, e_lst, e_fstr, a_nil, a_cons, s_set, s_par, s_if, s_ret, s_drop, b_nil, b_cons, l_and, l_or, l_not, l_neg, l_if, l_ifO, l_lt, l_le, l_gt, l_ge, l_eqI, l_neI, l_chainI, l_inC, l_ninC, l_is, l_isn, l_lenL, l_lenT, l_abs, l_tupL, l_tupT, l_add, l_sub,
  l_isi_s, l_isi_t, isiD, l_seq_nx, l_seq_rt, l_itL, l_itT, l_itS, l_it0, l_it1, l_il0, l_il1, isNoneD, Tg.bind, Tg.wipe,
  Option.bind_some, Option.bind_none, Option.map_some, Option.map_none, List.getElem?_cons_zero, List.getElem?_cons_succ, List.getElem?_nil, Option.join_some, List.set_cons_zero, List.set_cons_succ, Bool.not_true, Bool.not_false, Bool.false_eq_true, if_true, if_false])

open LamX
/-! ### _law_spot(lambda: ..) -/
def spotX (K : PySem.W.Frag) (C : Addr) (Q : VK) : XK := fun cls d H' => cls = .ref C ∧ ∃ (dd : Addr) (i : Int), d = some dd ∧ H' dd = some (.xd [(("line" : Str), .int i)]) ∧ ∀ v H2, Same H' H2 → Dp K H2 v (tagD "line" (.int i)) → Q v H2
def TTspot (K : PySem.W.Frag) (C : Addr) : (XK → Hp → VK → Prop) → Hp → VK → Prop := fun tl H Q =>
  tl (spotX K C Q) H (fun v H' => 2 ≤ sizeLine ∧ ∀ p, H' p = none → Q (.ref p) (upd H' p (.tup [.str "read", v])))
theorem two_size : 2 ≤ sizeLine := by rw [sizeLine_eq]; decide
theorem pss_len {X : Cx} {st : List Stmt} {t : TS} (h : PSs X st t) : PSs X st (fun D σ H => σ.length = X.N.length → t D σ H) := ⟨fun pins s σ H D I q => h.run pins s σ H D I (q I.len)⟩
theorem spot_gives {X : Cx} {C fI g : Addr} {cdg : Value} {q : Str} (T : PySem.PEX.ParTxt X.K X.mg X.prog C fI) : GivesTo X ["call", "error"] "_law_spot" (defScope s_law_spot) g cdg (defBody s_law_spot) "call" q (TTspot X.K C) := by
  intro f c' s H Q tl act hc h
  refine ⟨_, pss_one (ps_try_as (X := (cxOf C8.CX0 X.prog X.w X.K X.mg X.base ["call", "error"] "_law_spot" (defScope s_law_spot) g cdg X.A X.stack s H C8.E0).nox) (i := 1) (c := .ref C)
      (tb := fun W D σ H => ∃ Ech : XK, (∀ cls d σ' H', Ech cls d H' → W cls d σ' H') ∧ σ[0]? = some (some (.ref f)) ∧ H c' = some (CodeO c' q) ∧ tl Ech H fun v H1 => 2 ≤ sizeLine ∧ ∀ p, H1 p = none → D.rt (.ref p) (upd H1 p (.tup [.str "read", v])))
      (ts := fun a cls d D σ H => σ.length = 2 → tRet (tTup (tCons (tC (.str "line")) (tCons (tByPar C a cls d (tVar 1)) tNil))) D σ H)
      rfl rfl sc_law_spot.nd rfl rfl ⟨rfl, by decide, .inl T.gC⟩ L2.takes0 (fun W pn xe tk _ => ?_) (fun a oe cls d pn hz hf => ?_)), ?_⟩
  · refine ⟨fun pins s' σ H' D I h' => ?_⟩
    obtain ⟨Ech, hW, h1, h2, h3⟩ := h'
    exact (pss_one (ps_ret (pe_tup (pa_cons pe_str (pa_cons (act W pn xe Ech _ _ tk hW) pa_nil))))).run pins s' σ H' D I ⟨h1, h2, h3⟩
  · have hp : PSs ((cxOf C8.CX0 X.prog X.w X.K X.mg X.base ["call", "error"] "_law_spot" (defScope s_law_spot) g cdg X.A X.stack s H C8.E0).nox.suite a ((a, oe) :: pn)) _ (tRet (tTup (tCons (tC (.str "line")) (tCons (tByPar C a cls d (tVar 1)) tNil)))) :=
      pss_one (ps_ret (pos := ⟨208, 8, 208, 35⟩) (pe_tup (x1 := 0) (pos := ⟨208, 15, 208, 35⟩) (pa_cons (pe_str (j := 0) (pos := ⟨208, 16, 208, 22⟩)) (pa_cons (pe_byPar (pos := ⟨208, 24, 208, 34⟩) T hz hf (pv 1 (x := "error") (pos := ⟨208, 24, 208, 29⟩))) pa_nil))))
    exact pss_len hp
  · refine ⟨spotX X.K C Q, fun cls d σ' H' hx => ?_, rfl, hc, h⟩
    obtain ⟨rfl, dd, i, rfl, hx, k⟩ := hx
    refine ⟨true, T.te, fun _ a na hlen => ?_, fun z => Bool.noConfusion z⟩
    have hl : 1 < σ'.length := by
      have e : (σ'.set 1 (some (V.ref a))).length = 2 := hlen
      rw [List.length_set] at e
      omega
    refine ⟨_, by rw [List.getElem?_set_self hl], rfl, rfl, dd, .int i, rfl, hx, two_size, fun p np => ?_⟩
    exact k _ _ (upd_same_of np) (.tup (.inl (.inl upd_same)) (.cons (.str _) (.cons (.int _) .nil)))

end K81
namespace K81
open PySem PySem.Spec PyProof.Rows L2 JL M81 SX
open TL (tl)
local macro_rules | `(tactic| walk_at "ev") => `(tactic| simp only [e_lit, e_var, e_glob, e_bin, e_neg, e_cmp, e_chain, e_and, e_or, e_not, e_ife, e_own, e_bi, e_isi, e_split, e_join, e_idx, e_slc, e_tup, e_lst, e_fstr, a_nil, a_cons, s_set, s_par, s_if, s_ret, s_drop, b_nil, b_cons, l_and, l_or, l_not, l_neg, l_if, l_ifO, l_lt, l_le, l_gt, l_ge, l_eqI, l_neI, l_chainI, l_inC, l_ninC, l_is, l_isn, l_lenL, l_lenT, l_abs, l_tupL, l_tupT, l_add, l_sub,
  l_isi_s, l_isi_t, isiD, l_seq_nx, l_seq_rt, l_itL, l_itT, l_itS, l_it0, l_it1, l_il0, l_il1, isNoneD, Tg.bind, Tg.wipe,
  Option.bind_some, Option.bind_none, Option.map_some, Option.map_none, List.getElem?_cons_zero, List.getElem?_cons_succ, List.getElem?_nil, Option.join_some, List.set_cons_zero, List.set_cons_succ, Bool.not_true, Bool.not_false, Bool.false_eq_true, if_true, if_false])

/-! ### list(text) -/
section
open Sem (wp)
variable {prog : Program} {w : World} {A : Around} {E : Value → Shared → Prop} {s : Shared}
theorem list_init_text {R : Result → Shared → Prop} (S : Addr) (x : Str) (t : Tok) (hh : A.handled = none) (hS : s.heap.get? S = some { cls := .type "list", data := .seq #[] })
    (hR : ∀ s' acc c', (∀ b o, b ≠ S → s.heap.get? b = some o → s'.heap.get? b = some o) → s'.gens = s.gens → s'.drawn = s.drawn → s'.os = s.os → s'.heap.get? S = some { cls := .type "list", dict := none, data := .seq acc c', slots := #[] } → ItemsOf (SignAt x) acc x.cps.size → R (.ok (.ret .none)) s') (hn : x.cps.size ≤ sizeLine) :
    wpAny (model prog w) A.in1 (Builtin.«list.__init__» ⟨[.ref S, .str x t], []⟩)
      (fun fin s' => match fin with | .done f => R (.ok f) s' | .again c' => c'.quiet = true ∧ codeAny (model prog w) A c' R s') (fun e s' => R (.error e) s') s := by
  show wpAny _ A.in1 (do let old ← Builtin.List.listItems (.ref S); Builtin.List.listUpdate (.ref S) (fun _ => #[]); letGo old.toList.reverse; Builtin.List.listExtendWith (.ref S) (.str x t) .none) _ _ s
  refine wpAny_bind ?_
  unfold Builtin.List.listItems
  refine wpAny_bind (wpAny_seqItems hS rfl (wpAny_pure ?_))
  show wpAny _ A.in1 (updateSeq S (fun _ => #[]) >>= fun _ => letGo (#[] : Array Value).toList.reverse >>= fun _ => Builtin.List.listExtendWith (.ref S) (.str x t) .none) _ _ s
  refine wpAny_bind (wpAny_updateSeq hS rfl ?_)
  have hS₂ := Heap.get?_update_self (Obj.mapSeq (fun _ => (#[] : Array Value))) hS rfl
  refine wpAny_bind (wpAny_letGo ?_)
  unfold Builtin.List.listExtendWith
  refine wpAny_bind (wpAny_typeOf (T := "str") (v := .str x t) rfl ?_)
  have h1 : Builtin.List.listSameRef (.ref S) (.str x t) = false := rfl
  have h2 : (Value.type "str" == Value.type "list") = false := by decide
  have h3 : (Value.type "str" == Value.type "tuple") = false := by decide
  simp only [h1, h2, h3, Bool.or_false, Bool.false_eq_true, if_false]
  refine wpAny_bind (wpAny_pyIter_str fun o St W hst => ?_)
  refine wpAny_bind (wpAny_holding ?_)
  unfold Builtin.List.listLengthHint
  refine wpAny_bind (wpAny_specialOf (T := "str") (v := .str x t) rfl F.str_len ?_)
  wp_delta
  refine wpAny_bind (wpAny_isInstance (T := "str") (v := .str x t) (b := true) rfl (by rw [isSubtype_type]; kernel_rfl) ?_)
  show wpAny _ A.in1 (typeOf (Value.str x t) >>= _) _ _ _
  refine wpAny_bind (wpAny_typeOf (T := "str") (v := .str x t) rfl ?_)
  refine wpAny_pure ?_
  rw [if_neg (by decide)]
  have hS3 : (s.heap.update S (Obj.mapSeq fun _ => (#[] : Array Value))).get? S = some { cls := .type "list", data := .seq #[] } := by simpa [Obj.mapSeq] using hS₂
  have oth : ∀ b o, b ≠ S → s.heap.get? b = some o → (s.heap.update S (Obj.mapSeq fun _ => (#[] : Array Value))).get? b = some o := fun b o hb e => (Heap.get?_update_other _ _ (Ne.symm hb)).trans e
  generalize hH : s.heap.update S (Obj.mapSeq fun _ => (#[] : Array Value)) = H at W hst hS3 oth ⊢
  have hlt : S < H.objs.size := Heap.lt_size hS3
  have hSf : S ∉ [H.objs.size] := fun hm => by rw [List.mem_singleton.mp hm] at hlt; exact Nat.lt_irrefl _ hlt
  have hS4 : (H.push o).get? S = some { cls := .type "list", data := .seq #[] } := Heap.get?_push_of_some _ hS3
  refine wpAny_pure ⟨plainId_quiet F.plain_extend_loop _, codeAny_extend_loopS (W A.in1 hh).toS hn S hSf .none x.cps.size 0 _ _ _ rfl (Nat.zero_le _) hst hS4 (ItemsOf.nil _) fun s' acc' c' hm hS' hacc => ?_⟩
  refine hR s' acc' c' (fun b o' hb e => ?_) hm.gens hm.drawn hm.os hS' hacc
  have e1 := oth b o' hb e
  refine hm.heap b o' (fun hmem => ?_) (Heap.get?_push_of_some _ e1)
  rcases List.mem_cons.mp hmem with h | h
  · exact hb h
  · have := Heap.lt_size e1
    rw [List.mem_singleton.mp h] at this
    exact Nat.lt_irrefl _ this
theorem call_list_text {Q : Value → Shared → Prop} (x : Str) (t : Tok) (hh : A.handled = none) (hn : x.cps.size ≤ sizeLine)
    (hQ : ∀ s' acc c', (∀ b o, s.heap.get? b = some o → s'.heap.get? b = some o) → s'.gens = s.gens → s'.drawn = s.drawn → s'.os = s.os → s'.heap.get? s.heap.objs.size = some { cls := .type "list", dict := none, data := .seq acc c', slots := #[] } → ItemsOf (SignAt x) acc x.cps.size → Q (.ref s.heap.objs.size) s') :
    wpAny (model prog w) A (call (.type "list") [.str x t]) Q E s := by
  refine callType_codes (Q₁ := fun obj s₁ => obj = .ref s.heap.objs.size ∧ s₁ = { s with heap := s.heap.push { cls := .type "list", data := .seq #[] } }) F.called_list (F.typeCall_list_1 _) F.entry_list_init
    (code_list_new _ ⟨rfl, rfl⟩) fun obj s₁ h₁ => ?_
  obtain ⟨rfl, rfl⟩ := h₁
  have hS : (s.heap.push { cls := .type "list", data := .seq #[] }).get? s.heap.objs.size = some { cls := .type "list", data := .seq #[] } := Heap.get?_push_size _ rfl
  refine ⟨⟨_, hS, rfl⟩, F.args_list_init_2 _ _, list_init_text _ x t ?_ hS (fun s' acc c' k g d o e hi => ⟨rfl, hQ s' acc c' (fun b o' hb => k b o' (fun z => ?_) (Heap.get?_push_of_some _ hb)) g d o e hi⟩) hn⟩
  · first | exact hh | (simp [Around.under, hh]) | skip
  · exact Nat.lt_irrefl _ (z ▸ Heap.lt_size hb)
end
theorem vals_signs : ∀ (l : List Nat) (its : List Value), its.length = l.length → (∀ (j : Nat) (v : Value), its[j]? = some v → ∃ (c : Nat) (u : Tok), l[j]? = some c ∧ v = Value.str ⟨#[c]⟩ u) → Vals (l.map fun c => V.str ⟨#[c]⟩) its
  | [], [], _, _ => .nil
  | [], _ :: _, h, _ => by simp at h
  | _ :: _, [], h, _ => by simp at h
  | c :: r, v :: its, h, k => by
    obtain ⟨d, u, h1, rfl⟩ := k 0 v rfl
    rw [List.getElem?_cons_zero] at h1
    cases h1
    exact .cons ⟨u, rfl⟩ (vals_signs r its (by simpa using h) fun j w hj => by
      have := k (j + 1) w (by rw [List.getElem?_cons_succ]; exact hj)
      rw [List.getElem?_cons_succ] at this
      exact this)
theorem call_list_str {X : Cx} (hc : X.calm = true) : CallR X (.type "list") (fun xs H Q => ∃ x : Str, xs = [.str x] ∧ x.length ≤ 1000 ∧ ∀ p, H p = none → Q (.ref p) (upd H p (.lst (x.cps.toList.map fun c => V.str ⟨#[c]⟩)))) := by
  intro pins s σ H xs us Q I r h
  obtain ⟨x, rfl, hx, q⟩ := h
  obtain ⟨u, rfl, t, rfl⟩ := vals1 r
  have hsz : x.cps.size ≤ sizeLine := by
    rw [sizeLine_eq]
    exact Nat.le_trans hx (by decide)
  obtain ⟨hp, g, d, tk, os⟩ := s
  refine call_list_text x t (I.ok.hd hc) hsz (fun s' acc c' k hg hdr hos e hi => ?_)
  obtain ⟨h', g', d', tk', os'⟩ := s'
  obtain rfl : g' = g := hg
  obtain rfl : d' = d := hdr
  obtain rfl : os' = os := hos
  have hv : Vals (x.cps.toList.map fun c => V.str ⟨#[c]⟩) acc.toList := vals_signs _ _ (by
    rw [Array.length_toList, Array.length_toList]
    exact hi.1) (fun j v hj => by
    rw [Array.getElem?_toList] at hj
    obtain ⟨c, u, h1, h2⟩ := hi.2 j v hj
    exact ⟨c, u, by rw [Array.getElem?_toList]; exact h1, h2⟩)
  exact ⟨.ref hp.objs.size, _, I.laid (t' := tk') k (Nat.le_refl _) (show ObjOk X.prog X.w _ h' _ (.lst _) from ⟨by
    rw [List.length_map, Array.length_toList]
    exact hsz, acc.toList, c', hv, e⟩), rfl, q _ (I.hok.fresh (Nat.le_refl _))⟩
theorem op_twice {X : Cx} : OpR X (binaryOp .Mult) (fun x y H Q => ∃ l : List Nat, x = .str (S l) ∧ y = .int 2 ∧ l.length ≤ 5000 ∧ Q (.str (S (l ++ l))) H) := by
  intro pins s σ H x y v u Q I rx ry h
  obtain ⟨l, rfl, rfl, hl, q⟩ := h
  obtain ⟨t, rfl⟩ := rx
  obtain ⟨t', rfl⟩ := ry
  have hlen : (S l).length = l.length := S_len l
  refine PySem.P.mul_str (n := 2) (by decide) (fun _ _ => ?_) (fun _ _ => ?_) ?_
  · rw [hlen]
    omega
  · show decide (_ > sizeLine) = false
    rw [sizeLine_eq, hlen]
    exact decide_eq_false (by
      have e : (2 : Int).toNat = 2 := rfl
      rw [e]
      omega)
  · rw [if_neg (by decide)]
    by_cases h0 : l.length = 0
    · have e : l = [] := List.length_eq_zero_iff.mp h0
      subst e
      rw [if_pos (by decide)]
      exact ⟨.str (S []), H, I, ⟨t, rfl⟩, q⟩
    · rw [if_neg (by rw [hlen]; simp [h0])]
      have e : (⟨(List.replicate (2 : Int).toNat (S l).cps).foldl (· ++ ·) #[]⟩ : Str) = S (l ++ l) := by
        show (⟨(#[] ++ l.toArray) ++ l.toArray⟩ : Str) = ⟨(l ++ l).toArray⟩
        simp
      rw [e]
      exact ⟨by rw [S_len, List.length_append, sizeLine_eq]; omega, .str (S (l ++ l)), H, I.tok _, ⟨_, rfl⟩, q⟩
theorem op_powC {X : Cx} : OpR X (binaryOp .Pow) (rI (fun i j => 0 ≤ j ∧ j ≤ 1000 ∧ i.natAbs < 2 ^ 1000) fun i j => .int (i ^ j.toNat)) := opI fun i j _ _ _ _ _ hc q => pow_int hc.1 (by
  have hb : Builtin.Int.intBits i ≤ 1001 := by
    unfold Builtin.Int.intBits
    split
    · exact Nat.zero_le _
    · have := log_lt hc.2.2 (by decide)
      omega
  have h1 : (Builtin.Int.intBits i : Int) * j ≤ 1001 * j := Int.mul_le_mul_of_nonneg_right (by omega) hc.1
  have := hc.2.1
  omega) q

end K81
namespace K81
open PySem PySem.Spec PyProof.Rows L2 JL M81 SX
open TL (tl)
local macro_rules | `(tactic| walk_at "ev") => `(tactic| simp only [e_lit, e_var, e_glob, e_bin, e_neg, e_cmp, e_chain, e_and, e_or, e_not, e_ife, e_own, e_bi, e_isi, e_split, e_join, e_idx, e_slc, e_tup, e_lst, e_fstr, a_nil, a_cons, s_set, s_par, s_if, s_ret, s_drop, b_nil, b_cons, l_and, l_or, l_not, l_neg, l_if, l_ifO, l_lt, l_le, l_gt, l_ge, l_eqI, l_neI, l_chainI, l_inC, l_ninC, l_is, l_isn, l_lenL, l_lenT, l_abs, l_tupL, l_tupT, l_add, l_sub,
  l_isi_s, l_isi_t, isiD, l_seq_nx, l_seq_rt, l_itL, l_itT, l_itS, l_it0, l_it1, l_il0, l_il1, isNoneD, Tg.bind, Tg.wipe,
  Option.bind_some, Option.bind_none, Option.map_some, Option.map_none, List.getElem?_cons_zero, List.getElem?_cons_succ, List.getElem?_nil, Option.join_some, List.set_cons_zero, List.set_cons_succ, Bool.not_true, Bool.not_false, Bool.false_eq_true, if_true, if_false])

/-! ### the dice -/
def ExtB (a : Addr) (H H' : Hp) : Prop := ∀ b o, b ≠ a → H b = some o → H' b = some o
theorem ExtB.refl (a : Addr) (H : Hp) : ExtB a H H := fun _ _ _ h => h
theorem ExtB.trans {a : Addr} {H H1 H2 : Hp} (x : ExtB a H H1) (y : ExtB a H1 H2) : ExtB a H H2 := fun b o n h => y b o n (x b o n h)
theorem ExtB.of {a : Addr} {H H1 : Hp} (x : Same H H1) : ExtB a H H1 := fun b o _ h => x b o h
theorem ExtB.upd {a : Addr} {H : Hp} {o : HO} : ExtB a H (upd H a o) := fun b o' n h => by rw [upd_ne n]; exact h
def DiceOk (k : Nat) (a : Addr) (H : Hp) : Prop := ∃ d0 d1 d2 : Int, H a = some (.lst [.int d0, .int d1, .int d2]) ∧ 0 ≤ d2 ∧ d2 + k ≤ 1000000
theorem DiceOk.mono {j k : Nat} {a : Addr} {H : Hp} (h : DiceOk k a H) (hj : j ≤ k) : DiceOk j a H := by
  obtain ⟨d0, d1, d2, h1, h2, h3⟩ := h
  exact ⟨d0, d1, d2, h1, h2, by omega⟩
theorem DiceOk.same {k : Nat} {a : Addr} {H H' : Hp} (h : DiceOk k a H) (s : Same H H') : DiceOk k a H' := by
  obtain ⟨d0, d1, d2, h1, h2, h3⟩ := h
  exact ⟨d0, d1, d2, s _ _ h1, h2, h3⟩
def spRoll : Sp := fun vs H Q _ => ∃ (a : Addr) (k : Nat) (n : Int), vs = [.ref a, .int n] ∧ 1 ≤ n ∧ n < 2 ^ 60 ∧ DiceOk (k + 1) a H ∧ ∀ r H', ExtB a H H' → DiceOk k a H' → 0 ≤ r → r < n → Q (.int r) H'
theorem l_mul {i j : Int} (h : i.natAbs.log2 + j.natAbs.log2 < 1000000) : binD .Mult (.int i) (.int j) = some (.int (i * j)) := by
  show (if _ then _ else _) = _
  rw [if_pos h]
theorem l_mod {i j : Int} (h : 0 < j) : binD .Mod (.int i) (.int j) = some (.int (i % j)) := by
  show (if j ≠ 0 then some (PyData.int (i.fmod j)) else none) = _
  rw [if_pos (by omega), Int.fmod_eq_emod_of_nonneg _ (by omega)]
theorem l_fdv {i j : Int} (h : 0 < j) (hj : j.natAbs.log2 < 9000) : binD .FloorDiv (.int i) (.int j) = some (.int (i / j)) := by
  show (if 0 < j ∧ j.natAbs.log2 < 9000 then _ else none) = _
  rw [if_pos ⟨h, hj⟩]
theorem log60 {i : Int} (h0 : 0 ≤ i) (h : i < 2 ^ 200) : i.natAbs.log2 < 200 := log_lt (k := 200) (by
  have e : (2 : Int) ^ 200 = ((2 ^ 200 : Nat) : Int) := by rw [Int.natCast_pow]; rfl
  rw [e] at h
  omega) (by decide)
theorem dp_dice {K : PySem.W.Frag} {H : Hp} {a : Addr} {d0 d1 d2 : Int} (h : H a = some (.lst [.int d0, .int d1, .int d2])) : Dp K H (.ref a) (.list [.int d0, .int d1, .int d2]) :=
  .lst (.inl (.inl h)) (.cons (.int _) (.cons (.int _) (.cons (.int _) .nil)))
theorem ok_roll {G : Gb} (h : Txt G) {f : Addr} {fd : FuncData} (F : Fun G.K "_law_roll" "_law_roll" s_law_roll f fd) : FnOk G.P G.w G.K G.mg G.base CX0 41 f fd ["dice", "total"] spRoll := by
  refine F.ok sc_law_roll (fun vs H Q E h => ?_) (fun cdv A outer s H vs Q E hr hs => ?_)
  · obtain ⟨a, k, n, rfl, _⟩ := h
    rfl
  obtain ⟨a, k, n, rfl, hn1, hn2, hd, out⟩ := hs
  have c : Ctx G ["dice", "total", "found", "one", "two"] 40 (defScope s_law_roll) (cxOf CX0 G.P G.w G.K G.mg G.base ["dice", "total", "found", "one", "two"] "_law_roll" (defScope s_law_roll) f cdv A outer s H E).nox := ⟨rfl, rfl, rfl, rfl, rfl, rfl, sc_law_roll.nd, rfl, rfl, PassesOwn.never, hr⟩
  have hft : FtOk G 40 (ftOf T40) := ok40 h
  refine ⟨_, pss_cons (ps_if (pt_ev (ce := .cmp .Gt (.idx (.var 0) (.lit (.int 0))) (.lit (.int 0))) c hft h.gv h.bn (by kernel_rfl))
      (pss_cons (ps_set (i := 2) sc_law_roll.nd rfl (Or.inl rfl) (pe_ev (ce := .bin .Mod (.idx (.var 0) (.lit (.int 0))) (.var 1)) c hft h.gv h.bn (by kernel_rfl)))
      (pss_cons (ps_asg (pe_ev (ce := .bin .FloorDiv (.idx (.var 0) (.lit (.int 0))) (.var 1)) c hft h.gv h.bn (by kernel_rfl)) (pg_sub (pv 0) pe_int set_list))
      (pss_one (ps_ret (pe_ev (ce := .bi .int [.var 2]) c hft h.gv h.bn (by kernel_rfl)))))) pss_nil)
    (pss_cons (ps_asg (pe_ev (ce := .bin .Add (.idx (.var 0) (.lit (.int 2))) (.lit (.int 1))) c hft h.gv h.bn (by kernel_rfl)) (pg_sub (pv 0) pe_int set_list))
    (pss_cons (ps_set (i := 3) sc_law_roll.nd rfl (Or.inl rfl) (pe_ev (ce := .bin .Mod (.bin .Add (.idx (.var 0) (.lit (.int 1))) (.bin .Mult (.lit (.int 49979687)) (.idx (.var 0) (.lit (.int 2))))) (.lit (.int 2305843009213693951))) c hft h.gv h.bn (by kernel_rfl)))
    (pss_cons (ps_set (i := 4) sc_law_roll.nd rfl (Or.inl rfl) (pe_ev (ce := .bin .Add (.bin .Mult (.bin .Mod (.bin .Add (.bin .Mult (.var 3) (.var 3)) (.bin .Mult (.lit (.int 131)) (.idx (.var 0) (.lit (.int 2))))) (.lit (.int 2305843009213693921))) (.lit (.int 32452843))) (.var 3)) c hft h.gv h.bn (by kernel_rfl)))
    (pss_one (ps_ret (pe_ev (ce := .bin .Mod (.bi .int [.bin .FloorDiv (.var 4) (.lit (.int 65587))]) (.var 1)) c hft h.gv h.bn (by kernel_rfl))))))), ?_⟩
  obtain ⟨d0, d1, d2, ha, h2, h3⟩ := hd
  have il2 : ∀ (x y z : PyData) , itemD (.list [x, y, z]) (.int 2) = some z := fun x y z => l_itemL (i := 2) rfl
  have e1 : evE (ftOf T40) gv (.cmp .Gt (.idx (.var 0) (.lit (.int 0))) (.lit (.int 0))) [some (.list [.int d0, .int d1, .int d2]), some (.int n), none, none, none] = some (.bool (decide (0 < d0))) := by
    walk_at "ev"
  refine ⟨_, _, .conS (dp_dice ha) (.conS (.int _) (.conN (.conN (.conN .nil)))), e1, fun H1 s1 => ?_⟩
  have ha1 := s1 _ _ ha
  by_cases hp : 0 < d0
  · refine if_true_of (decide_eq_true hp) ?_
    have e2 : evE (ftOf T40) gv (.bin .Mod (.idx (.var 0) (.lit (.int 0))) (.var 1)) [some (.list [.int d0, .int d1, .int d2]), some (.int n), none, none, none] = some (.int (d0 % n)) := by
      walk_at "ev"
      exact l_mod (by omega)
    refine ⟨_, _, .conS (dp_dice ha1) (.conS (.int _) (.conN (.conN (.conN .nil)))), e2, fun v2 H2 s2 hv2 => ?_⟩
    have hv2 := dp_int_inv hv2
    subst hv2
    have ha2 := s2 _ _ ha1
    have e3 : evE (ftOf T40) gv (.bin .FloorDiv (.idx (.var 0) (.lit (.int 0))) (.var 1)) [some (.list [.int d0, .int d1, .int d2]), some (.int n), none, none, none] = some (.int (d0 / n)) := by
      walk_at "ev"
      exact l_fdv (by omega) (by have := log60 (i := n) (by omega) (by omega); omega)
    refine ⟨_, _, .conS (dp_dice ha2) (.conS (.int _) (.conN (.conN (.conN .nil)))), e3, fun v3 H3 s3 hv3 => ?_⟩
    have hv3 := dp_int_inv hv3
    subst hv3
    have ha3 := s3 _ _ ha2
    refine ⟨_, rfl, a, [.int d0, .int d1, .int d2], 0, 0, rfl, rfl, ha3, rfl, ?_⟩
    have e4 : evE (ftOf T40) gv (.bi .int [.var 2]) [none, some (.int n), some (.int (d0 % n)), none, none] = some (.int (d0 % n)) := by
      walk_at "ev"
      rfl
    refine ⟨_, _, .conN (.conS (.int _) (.conS (.int _) (.conN (.conN .nil)))), e4, fun v5 H5 s5 hv5 => ?_⟩
    have hv5 := dp_int_inv hv5
    subst hv5
    refine out _ H5 ((((ExtB.of s1).trans (.of s2)).trans (.of s3)).trans (ExtB.upd.trans (.of s5))) ⟨d0 / n, d1, d2, s5 _ _ upd_same, h2, by omega⟩ (Int.emod_nonneg _ (by omega)) (Int.emod_lt_of_pos _ (by omega))
  · refine if_false_of (decide_eq_false hp) ?_
    have e2 : evE (ftOf T40) gv (.bin .Add (.idx (.var 0) (.lit (.int 2))) (.lit (.int 1))) [some (.list [.int d0, .int d1, .int d2]), some (.int n), none, none, none] = some (.int (d2 + 1)) := by
      walk_at "ev"
      rw [il2]
      walk_at "ev"
    refine ⟨_, _, .conS (dp_dice ha1) (.conS (.int _) (.conN (.conN (.conN .nil)))), e2, fun v2 H2 s2 hv2 => ?_⟩
    have hv2 := dp_int_inv hv2
    subst hv2
    have ha2 := s2 _ _ ha1
    refine ⟨_, rfl, a, [.int d0, .int d1, .int d2], 2, 2, rfl, rfl, ha2, rfl, ?_⟩
    generalize hH3 : upd H2 a (.lst (([.int d0, .int d1, .int d2] : List V).set 2 (.int (d2 + 1)))) = H3
    have ha3 : H3 a = some (.lst [.int d0, .int d1, .int (d2 + 1)]) := by rw [← hH3]; exact upd_same
    have x3 : ExtB a H H3 := by
      rw [← hH3]
      exact ((ExtB.of s1).trans (.of s2)).trans .upd
    have lg : (49979687 : Int).natAbs.log2 = 25 := by decide
    have lg2 : (131 : Int).natAbs.log2 = 7 := by decide
    have lg3 : (32452843 : Int).natAbs.log2 = 24 := by decide
    have ld : (d2 + 1).natAbs.log2 < 200 := log60 (by omega) (by omega)
    have e3 : evE (ftOf T40) gv (.bin .Mod (.bin .Add (.idx (.var 0) (.lit (.int 1))) (.bin .Mult (.lit (.int 49979687)) (.idx (.var 0) (.lit (.int 2))))) (.lit (.int 2305843009213693951))) [some (.list [.int d0, .int d1, .int (d2 + 1)]), some (.int n), none, none, none] = some (.int ((d1 + 49979687 * (d2 + 1)) % 2305843009213693951)) := by
      walk_at "ev"
      rw [il2]
      walk_at "ev"
      rw [l_mul (by omega)]
      walk_at "ev"
      exact l_mod (by decide)
    refine ⟨_, _, .conS (dp_dice ha3) (.conS (.int _) (.conN (.conN (.conN .nil)))), e3, fun v4 H4 s4 hv4 => ?_⟩
    have hv4 := dp_int_inv hv4
    subst hv4
    have ha4 := s4 _ _ ha3
    have o0 : 0 ≤ (d1 + 49979687 * (d2 + 1)) % 2305843009213693951 := Int.emod_nonneg _ (by decide)
    have o1 : (d1 + 49979687 * (d2 + 1)) % 2305843009213693951 < 2305843009213693951 := Int.emod_lt_of_pos _ (by decide)
    generalize (d1 + 49979687 * (d2 + 1)) % 2305843009213693951 = one at o0 o1
    have lo : one.natAbs.log2 < 200 := log60 o0 (by omega)
    have e4 : evE (ftOf T40) gv (.bin .Add (.bin .Mult (.bin .Mod (.bin .Add (.bin .Mult (.var 3) (.var 3)) (.bin .Mult (.lit (.int 131)) (.idx (.var 0) (.lit (.int 2))))) (.lit (.int 2305843009213693921))) (.lit (.int 32452843))) (.var 3)) [some (.list [.int d0, .int d1, .int (d2 + 1)]), some (.int n), none, some (.int one), none] = some (.int ((one * one + 131 * (d2 + 1)) % 2305843009213693921 * 32452843 + one)) := by
      walk_at "ev"
      rw [il2]
      walk_at "ev"
      rw [l_mul (by omega), l_mul (by omega)]
      walk_at "ev"
      rw [l_mod (by decide)]
      walk_at "ev"
      have t0 : 0 ≤ (one * one + 131 * (d2 + 1)) % 2305843009213693921 := Int.emod_nonneg _ (by decide)
      have t1 : (one * one + 131 * (d2 + 1)) % 2305843009213693921 < 2305843009213693921 := Int.emod_lt_of_pos _ (by decide)
      generalize (one * one + 131 * (d2 + 1)) % 2305843009213693921 = tw at t0 t1
      have lt : tw.natAbs.log2 < 200 := log60 t0 (by omega)
      rw [l_mul (by omega)]
      walk_at "ev"
    refine ⟨_, _, .conS (dp_dice ha4) (.conS (.int _) (.conN (.conS (.int _) (.conN .nil)))), e4, fun v5 H5 s5 hv5 => ?_⟩
    have hv5 := dp_int_inv hv5
    subst hv5
    have ha5 := s5 _ _ ha4
    generalize (one * one + 131 * (d2 + 1)) % 2305843009213693921 * 32452843 + one = two
    have e5 : evE (ftOf T40) gv (.bin .Mod (.bi .int [.bin .FloorDiv (.var 4) (.lit (.int 65587))]) (.var 1)) [none, some (.int n), none, none, some (.int two)] = some (.int (two / 65587 % n)) := by
      walk_at "ev"
      rw [l_fdv (by decide) (by decide)]
      walk_at "ev"
      rw [show biD .int [.int (two / 65587)] = some (.int (two / 65587)) from rfl]
      walk_at "ev"
      exact l_mod (by omega)
    refine ⟨_, _, .conN (.conS (.int _) (.conN (.conN (.conS (.int _) .nil)))), e5, fun v6 H6 s6 hv6 => ?_⟩
    have hv6 := dp_int_inv hv6
    subst hv6
    exact out _ H6 (((x3.trans (.of s4)).trans (.of s5)).trans (.of s6)) ⟨d0, d1, d2 + 1, s6 _ _ ha5, by omega, by omega⟩ (Int.emod_nonneg _ (by omega)) (Int.emod_lt_of_pos _ (by omega))

end K81
namespace K81
open PySem PySem.Spec PyProof.Rows L2 JL M81 SX
open TL (tl)
local macro_rules | `(tactic| walk_at "ev") => `(tactic| simp only [e_lit, e_var, e_glob, e_bin, e_neg, e_cmp, e_chain, e_and, e_or, e_not, e_ife, e_own, e_bi, e_isi, e_split, e_join, e_idx, e_slc, e_tup, e_lst, e_fstr, a_nil, a_cons, s_set, s_par, s_if, s_ret, s_drop, b_nil, b_cons, l_and, l_or, l_not, l_neg, l_if, l_ifO, l_lt, l_le, l_gt, l_ge, l_eqI, l_neI, l_chainI, l_inC, l_ninC, l_is, l_isn, l_lenL, l_lenT, l_abs, l_tupL, l_tupT, l_add, l_sub,
  l_isi_s, l_isi_t, isiD, l_seq_nx, l_seq_rt, l_itL, l_itT, l_itS, l_it0, l_it1, l_il0, l_il1, isNoneD, Tg.bind, Tg.wipe,
  Option.bind_some, Option.bind_none, Option.map_some, Option.map_none, List.getElem?_cons_zero, List.getElem?_cons_succ, List.getElem?_nil, Option.join_some, List.set_cons_zero, List.set_cons_succ, Bool.not_true, Bool.not_false, Bool.false_eq_true, if_true, if_false])

def spPick : Sp := fun vs H Q _ => ∃ (a p : Addr) (k : Nat) (xs : List V), vs = [.ref a, .ref p] ∧ H p = some (.lst xs) ∧ p ≠ a ∧ xs ≠ [] ∧ xs.length ≤ 1000 ∧ DiceOk (k + 1) a H ∧ ∀ x ∈ xs, ∀ H', ExtB a H H' → DiceOk k a H' → Q x H'
/-- the two of the dice -/
structure Dice (G : Gb) : Prop where
  roll : ∃ (f : Addr) (fd : FuncData), FnOk G.P G.w G.K G.mg G.base CX0 41 f fd ["dice", "total"] spRoll ∧ G.mg "_law_roll" = some (.ref f) ∧ PySem.W.keepIn G.K (.ref f) = true ∧ Binds G.K fd ["dice", "total"] []
  pick : ∃ (f : Addr) (fd : FuncData), FnOk G.P G.w G.K G.mg G.base CX0 42 f fd ["dice", "things"] spPick ∧ G.mg "_law_pick" = some (.ref f) ∧ PySem.W.keepIn G.K (.ref f) = true ∧ Binds G.K fd ["dice", "things"] []
theorem passN {X : Cx} {E : XK} : Passes L2.CX0 X E := fun _ _ _ _ _ _ _ z => z.elim
theorem ok_pick {G : Gb} {fr : Addr} {fdr : FuncData} (FR : FnOk G.P G.w G.K G.mg G.base CX0 41 fr fdr ["dice", "total"] spRoll) (hm : G.mg "_law_roll" = some (.ref fr)) (hk : PySem.W.keepIn G.K (.ref fr) = true) (hb : Binds G.K fdr ["dice", "total"] []) (hbn : BnOk G)
    {f : Addr} {fd : FuncData} (F : Fun G.K "_law_pick" "_law_pick" s_law_pick f fd) : FnOk G.P G.w G.K G.mg G.base CX0 42 f fd ["dice", "things"] spPick := by
  refine F.ok sc_law_pick (fun vs H Q E h => ?_) (fun cdv A outer s H vs Q E hr hs => ?_)
  · obtain ⟨a, p, k, xs, rfl, _⟩ := h
    rfl
  obtain ⟨a, p, k, xs, rfl, hp, hne, hx0, hx1, hd, out⟩ := hs
  refine ⟨_, pss_one (ps_ret (pe_ix ix_list (pv 1) (pe_call (dvs := []) (E := fun _ _ _ => False) FR hr rfl hm hk hb .nil passN (pa_cons (pv 0) (pa_cons (pe_callB call_len rfl (hbn "len" (by decide +kernel)) boot_len (pa_cons (pv 1) pa_nil)) pa_nil))) (fun _ _ => rfl))), ?_⟩
  have hlen : (1 : Int) ≤ xs.length := by
    have := List.length_pos_iff.mpr hx0
    omega
  refine ⟨.ref p, rfl, .ref a, rfl, .ref p, rfl, .ref p, xs.length, rfl, Or.inl ⟨_, .inl (.inl hp), rfl⟩, ?_⟩
  refine ⟨a, k, xs.length, rfl, hlen, by omega, hd, fun r H' hx hd' h0 h1 => ?_⟩
  have hp' : H' p = some (.lst xs) := hx p _ hne hp
  have hlt : r.toNat < xs.length := by omega
  refine ⟨p, xs, r, xs[r.toNat], rfl, rfl, .inl (.inl hp'), ?_, out _ (List.getElem_mem hlt) H' hx hd'⟩
  unfold atI ixN
  rw [if_pos h0, if_pos h1]
  show xs[r.toNat]? = _
  exact List.getElem?_eq_getElem hlt
theorem dice_of {G : Gb} (h : Txt G) (D1 : DefX G "_law_roll" s_law_roll) (D2 : DefX G "_law_pick" s_law_pick) : Dice G := by
  obtain ⟨f1, fd1, F1, hm1⟩ := D1.ex
  obtain ⟨f2, fd2, F2, hm2⟩ := D2.ex
  have b1 := F1.binds (ps := ["dice", "total"]) fun _ _ _ _ _ _ us hl => match us, hl with | [_, _], _ => rfl
  have b2 := F2.binds (ps := ["dice", "things"]) fun _ _ _ _ _ _ us hl => match us, hl with | [_, _], _ => rfl
  exact ⟨⟨f1, fd1, ok_roll h F1, hm1, F1.kp, b1⟩, ⟨f2, fd2, ok_pick (ok_roll h F1) hm1 F1.kp b1 h.bn F2, hm2, F2.kp, b2⟩⟩

end K81
namespace K81
open PySem PySem.Spec PyProof.Rows L2 JL M81 SX
open TL (tl)
local macro_rules | `(tactic| walk_at "ev") => `(tactic| simp only [e_lit, e_var, e_glob, e_bin, e_neg, e_cmp, e_chain, e_and, e_or, e_not, e_ife, e_own, e_bi, e_isi, e_split, e_join, e_idx, e_slc, e_tup, e_lst, e_fstr, a_nil, a_cons, s_set, s_par, s_if, s_ret, s_drop, b_nil, b_cons, l_and, l_or, l_not, l_neg, l_if, l_ifO, l_lt, l_le, l_gt, l_ge, l_eqI, l_neI, l_chainI, l_inC, l_ninC, l_is, l_isn, l_lenL, l_lenT, l_abs, l_tupL, l_tupT, l_add, l_sub,
  l_isi_s, l_isi_t, isiD, l_seq_nx, l_seq_rt, l_itL, l_itT, l_itS, l_it0, l_it1, l_il0, l_il1, isNoneD, Tg.bind, Tg.wipe,
  Option.bind_some, Option.bind_none, Option.map_some, Option.map_none, List.getElem?_cons_zero, List.getElem?_cons_succ, List.getElem?_nil, Option.join_some, List.set_cons_zero, List.set_cons_succ, Bool.not_true, Bool.not_false, Bool.false_eq_true, if_true, if_false])

/-! ### _law_bent -/
structure Good0 (l : List Nat) : Prop where
  asc : ∀ c ∈ l, c < 128
  len : l.length ≤ 2400
  db : DB 200 l
def Bent (l l' : List Nat) : Prop := ∃ A X B : List Nat, l' = A ++ X ++ B ∧ (∃ t, l = A ++ t) ∧ (∃ t, l = t ++ B) ∧ X.length ≤ 5 ∧ ∀ c ∈ X, c < 128
theorem Bent.good {l l' : List Nat} (g : Good0 l) (h : Bent l l') : Good l' := by
  obtain ⟨A, X, B, rfl, ⟨t, ht⟩, ⟨u, hu⟩, hX, hx⟩ := h
  have lA : A.length ≤ 2400 := by
    have := congrArg List.length ht
    rw [List.length_append] at this
    have := g.len
    omega
  have lB : B.length ≤ 2400 := by
    have := congrArg List.length hu
    rw [List.length_append] at this
    have := g.len
    omega
  have dA : DB 200 A := by
    have := g.db
    have e : l = [] ++ A ++ t := by rw [ht]; simp
    rw [e] at this
    exact this.part
  have dB : DB 200 B := by
    have := g.db
    have e : l = u ++ B ++ [] := by rw [hu]; simp
    rw [e] at this
    exact this.part
  refine ⟨fun c hc => ?_, ?_, ?_⟩
  · rcases List.mem_append.mp hc with hc | hc
    · rcases List.mem_append.mp hc with hc | hc
      · exact g.asc c (by rw [ht]; exact List.mem_append_left _ hc)
      · exact hx c hc
    · exact g.asc c (by rw [hu]; exact List.mem_append_right _ hc)
  · simp only [List.length_append]
    omega
  · exact ((dA.app (DB.of_len hX)).app dB).mono (by decide)
theorem drop_min (l : List Nat) (i : Nat) : l.drop (min i l.length) = l.drop i := by
  by_cases h : i ≤ l.length
  · rw [Nat.min_eq_left h]
  · rw [Nat.min_eq_right (by omega), List.drop_eq_nil_of_le (Nat.le_refl _), List.drop_eq_nil_of_le (by omega)]
theorem cut_gen (l : List Nat) (i j : Nat) : (l.drop (min i l.length)).take (min j l.length - min i l.length) = (l.drop i).take (j - i) := by
  rw [drop_min]
  by_cases h : i ≤ l.length
  · rw [Nat.min_eq_left h]
    by_cases h2 : j ≤ l.length
    · rw [Nat.min_eq_left h2]
    · rw [Nat.min_eq_right (by omega), List.take_of_length_le (by rw [List.length_drop]; exact Nat.le_refl _), List.take_of_length_le (by rw [List.length_drop]; omega)]
  · rw [List.drop_eq_nil_of_le (by omega)]
    simp
theorem l_to {l : List Nat} {i : Int} {n : Nat} (hi : i = (n : Int)) (h : (S l).length ≤ lim) : sliceD (.str (S l)) false .none true (.int i) = some (.str (S (l.take n))) := by
  subst hi
  show (if (S l).length ≤ lim then some (PyData.str (cutS (S l) none (some (n : Int)))) else none) = _
  rw [if_pos h]
  show some (PyData.str (⟨((l.drop (HT.sIx (S l).length 0 none)).take (HT.sIx (S l).length (S l).length (some (n : Int)) - HT.sIx (S l).length 0 none)).toArray⟩ : Str)) = _
  rw [HT.sIx_none, HT.sIx_nat, S_len, List.drop_zero, Nat.sub_zero]
  have := cut_gen l 0 n
  rw [Nat.zero_min, List.drop_zero, Nat.sub_zero, Nat.sub_zero] at this
  rw [this]
theorem l_from {l : List Nat} {i : Int} {n : Nat} (hi : i = (n : Int)) (h : (S l).length ≤ lim) : sliceD (.str (S l)) true (.int i) false .none = some (.str (S (l.drop n))) := by
  subst hi
  show (if (S l).length ≤ lim then some (PyData.str (cutS (S l) (some (n : Int)) none)) else none) = _
  rw [if_pos h]
  show some (PyData.str (⟨((l.drop (HT.sIx (S l).length 0 (some (n : Int)))).take (HT.sIx (S l).length (S l).length none - HT.sIx (S l).length 0 (some (n : Int)))).toArray⟩ : Str)) = _
  rw [HT.sIx_none, HT.sIx_nat, S_len]
  rw [drop_min, List.take_of_length_le (by rw [List.length_drop]; omega)]
theorem l_mid {l : List Nat} {i j : Int} {n m : Nat} (hi : i = (n : Int)) (hj : j = (m : Int)) (h : (S l).length ≤ lim) : sliceD (.str (S l)) true (.int i) true (.int j) = some (.str (S ((l.drop n).take (m - n)))) := by
  subst hi
  subst hj
  show (if (S l).length ≤ lim then some (PyData.str (cutS (S l) (some (n : Int)) (some (m : Int)))) else none) = _
  rw [if_pos h]
  show some (PyData.str (⟨((l.drop (HT.sIx (S l).length 0 (some (n : Int)))).take (HT.sIx (S l).length (S l).length (some (m : Int)) - HT.sIx (S l).length 0 (some (n : Int)))).toArray⟩ : Str)) = _
  rw [HT.sIx_nat, HT.sIx_nat, S_len, cut_gen]
theorem dp_str_inv {K : PySem.W.Frag} {H : Hp} {v : V} {l : List Nat} (h : Dp K H v (strD l)) : v = .str (S l) := by
  unfold strD at h
  cases h
  rfl
def sgs : List (List Nat) := [[32], [45], [43], [47], [48], [49], [50], [51], [97], [98], [120], [78], [46], [44], [10], [32, 32], [44, 32], [110, 111, 110, 101], [114, 101, 115, 116], [47, 49], [47, 50]]
theorem sgs_ok : ∀ s ∈ sgs, s.length ≤ 4 ∧ ∀ c ∈ s, c < 128 := by decide
theorem sgs_is : ((" -+/0123abxN.," : Str).cps.toList.map fun c => V.str ⟨#[c]⟩) ++ [.str "\n", .str "  ", .str ", ", .str "none", .str "rest", .str "/1", .str "/2"] = sgs.map fun s => V.str (S s) := by kernel_rfl
theorem five_size : 3 + 2 ≤ sizeLine := by rw [sizeLine_eq]; decide
theorem three_size : 3 ≤ sizeLine := by rw [sizeLine_eq]; decide
abbrev oA : HO := .lst ((" -+/0123abxN.," : Str).cps.toList.map fun c => V.str ⟨#[c]⟩)
abbrev oB : HO := .lst [.str "\n", .str "  ", .str ", ", .str "none", .str "rest", .str "/1", .str "/2"]
abbrev oC : HO := .lst (sgs.map fun s => V.str (S s))
def spBent : Sp := fun vs H Q _ => ∃ (a : Addr) (k : Nat) (l : List Nat), vs = [.ref a, .str (S l)] ∧ Good0 l ∧ DiceOk (k + 3) a H ∧ ∀ l' H', Bent l l' → ExtB a H H' → DiceOk k a H' → Q (.str (S l')) H'
theorem ok_bent {G : Gb} (h : Txt G) (D : Dice G) (hlist : G.mg "list" = none) {f : Addr} {fd : FuncData} (F : Fun G.K "_law_bent" "_law_bent" s_law_bent f fd) : FnOk G.P G.w G.K G.mg G.base CX0 43 f fd ["dice", "text"] spBent := by
  refine F.ok sc_law_bent (fun vs H Q E h => ?_) (fun cdv A outer s H vs Q E hr hs => ?_)
  · obtain ⟨a, k, l, rfl, _⟩ := h
    rfl
  obtain ⟨a, k, l, rfl, g, hd, out⟩ := hs
  obtain ⟨fr, fdr, FR, mr, kr, br⟩ := D.roll
  obtain ⟨fp, fdp, FP, mp, kp, bp⟩ := D.pick
  have hr41 : Room 41 (A.deeper (envOfC "_law_bent" (defScope s_law_bent) s.heap.objs.size f cdv)) := hr.mono (by decide)
  have hr40 : Room 40 (A.deeper (envOfC "_law_bent" (defScope s_law_bent) s.heap.objs.size f cdv)) := hr.mono (by decide)
  have c : Ctx G ["dice", "text", "at", "signs", "sign", "ways"] 40 (defScope s_law_bent) (cxOf CX0 G.P G.w G.K G.mg G.base ["dice", "text", "at", "signs", "sign", "ways"] "_law_bent" (defScope s_law_bent) f cdv A outer s H E).nox := ⟨rfl, rfl, rfl, rfl, rfl, rfl, sc_law_bent.nd, rfl, rfl, PassesOwn.never, hr40⟩
  have hft : FtOk G 40 (ftOf T40) := ok40 h
  refine ⟨_, pss_cons (ps_par (i := 2) (j := 3) rfl sc_law_bent.nd rfl rfl (by decide) rfl rfl
      (pa_cons (pe_call (dvs := []) (E := fun _ _ _ => False) FR hr41 rfl mr kr br .nil passN (pa_cons (pv 0) (pa_cons (pe_ev (ce := .bin .Add (.bi .len [.var 1]) (.lit (.int 1))) c hft h.gv h.bn (by kernel_rfl)) pa_nil)))
        (pa_cons (pe_op op_cat (pe_callTy (call_list_str rfl) rfl hlist PyProof.Rows.Boot.list (pa_cons pe_str pa_nil)) (pe_lst (pa_cons pe_str (pa_cons pe_str (pa_cons pe_str (pa_cons pe_str (pa_cons pe_str (pa_cons pe_str (pa_cons pe_str pa_nil))))))))) pa_nil))
      (swapped_two rfl rfl rfl (by decide) rfl rfl rfl (fun _ _ z => nomatch z) (fun _ _ z => nomatch z)))
    (pss_cons (ps_set (i := 4) sc_law_bent.nd rfl (Or.inl rfl) (pe_call (dvs := []) (E := fun _ _ _ => False) FP hr rfl mp kp bp .nil passN (pa_cons (pv 0) (pa_cons (pv 3) pa_nil))))
    (pss_cons (ps_set (i := 5) sc_law_bent.nd rfl (Or.inl rfl) (pe_lst (pa_cons (pe_ev (ce := .bin .Add (.bin .Add (.slc (.var 1) false (.lit .none) true (.var 2)) (.var 4)) (.slc (.var 1) true (.var 2) false (.lit .none))) c hft h.gv h.bn (by kernel_rfl))
        (pa_cons (pe_ev (ce := .bin .Add (.slc (.var 1) false (.lit .none) true (.var 2)) (.slc (.var 1) true (.bin .Add (.var 2) (.lit (.int 1))) false (.lit .none))) c hft h.gv h.bn (by kernel_rfl))
        (pa_cons (pe_ev (ce := .bin .Add (.bin .Add (.slc (.var 1) false (.lit .none) true (.var 2)) (.var 4)) (.slc (.var 1) true (.bin .Add (.var 2) (.lit (.int 1))) false (.lit .none))) c hft h.gv h.bn (by kernel_rfl)) pa_nil)))))
    (pss_cons (ps_set (i := 5) sc_law_bent.nd rfl (Or.inl rfl) (pe_op op_cat (pv 5) (pe_lst (pa_cons
        (pe_op op_add_str (pe_op op_add_str (pe_ev (ce := .slc (.var 1) false (.lit .none) true (.var 2)) c hft h.gv h.bn (by kernel_rfl)) (pe_op op_twice (pe_ev (ce := .slc (.var 1) true (.var 2) true (.bin .Add (.var 2) (.lit (.int 1)))) c hft h.gv h.bn (by kernel_rfl)) pe_int)) (pe_ev (ce := .slc (.var 1) true (.bin .Add (.var 2) (.lit (.int 1))) false (.lit .none)) c hft h.gv h.bn (by kernel_rfl)))
        (pa_cons (pe_ev (ce := .slc (.var 1) false (.lit .none) true (.var 2)) c hft h.gv h.bn (by kernel_rfl)) pa_nil)))))
    (pss_cons (ps_expr (pe_bm PySem.F.plainAttrs_list PySem.F.slot_list_append PySem.F.type_list_append mt_append (pv 5) (pa_cons (pe_ev (ce := .bin .Add (.bin .Add (.bin .Add (.slc (.var 1) false (.lit .none) true (.var 2)) (.slc (.var 1) true (.bin .Add (.var 2) (.lit (.int 1))) true (.bin .Add (.var 2) (.lit (.int 2))))) (.slc (.var 1) true (.var 2) true (.bin .Add (.var 2) (.lit (.int 1))))) (.slc (.var 1) true (.bin .Add (.var 2) (.lit (.int 2))) false (.lit .none))) c hft h.gv h.bn (by kernel_rfl)) pa_nil)))
    (pss_one (ps_ret (pe_call (dvs := []) (E := fun _ _ _ => False) FP hr rfl mp kp bp .nil passN (pa_cons (pv 0) (pa_cons (pe_op op_cat (pv 5) (pe_lst (pa_cons (pe_ev (ce := .bin .Add (.var 1) (.lit (.str " "))) c hft h.gv h.bn (by kernel_rfl)) (pa_cons (pe_ev (ce := .bin .Add (.lit (.str " ")) (.var 1)) c hft h.gv h.bn (by kernel_rfl)) pa_nil)))) pa_nil)))))))))
    , ?_⟩
  have gl := g.len
  have gG : Good l := ⟨g.asc, by omega, g.db.mono (by decide)⟩
  have hlim := lim_good gG
  have hlen : (S l).length = l.length := S_len l
  have e1 : evE (ftOf T40) gv (.bin .Add (.bi .len [.var 1]) (.lit (.int 1))) [none, some (strD l), none, none, none, none] = some (.int ((l.length : Int) + 1)) := by
    unfold strD
    walk_at "ev"
    rw [l_lenS hlim, hlen]
    walk_at "ev"
  refine ⟨_, rfl, _, _, .conN (.conS (.str _) (.conN (.conN (.conN (.conN .nil))))), e1, fun v1 H1 s1 hv1 => ?_⟩
  have hv1 := dp_int_inv hv1
  subst hv1
  refine ⟨a, k + 2, _, rfl, by omega, by omega, hd.same s1, fun r H2 x2 d2 h0 h1 => ?_⟩
  obtain ⟨n, rfl⟩ : ∃ n : Nat, r = (n : Int) := ⟨r.toNat, by omega⟩
  have ha2 : H2 a ≠ none := by
    obtain ⟨_, _, _, q, _⟩ := d2
    rw [q]
    simp
  refine ⟨_, rfl, by decide +kernel, fun p1 n1 => ?_⟩
  refine ⟨by rw [sizeLine_eq]; decide, fun p2 n2 => ?_⟩
  have ne21 : p1 ≠ p2 := fun z => by rw [← z, upd_same] at n2; cases n2
  refine ⟨p1, p2, _, _, rfl, rfl, by rw [upd_ne ne21, upd_same], upd_same, by rw [sizeLine_eq]; decide +kernel, fun p3 n3 => ?_⟩
  rw [sgs_is]
  refine ⟨_, _, rfl, ?_⟩
  have s12 : Same H2 (upd (upd H2 p1 oA) p2 oB) := (upd_same_of n1).trans (upd_same_of n2)
  have ne3 : p3 ≠ a := fun z => by
    rw [z] at n3
    obtain ⟨_, _, _, q, _⟩ := d2
    have := s12 a _ q
    rw [this] at n3
    cases n3
  have sm3 : Same H2 (upd (upd (upd H2 p1 oA) p2 oB) p3 oC) := s12.trans (upd_same_of n3)
  have at3 : (upd (upd (upd H2 p1 oA) p2 oB) p3 oC) p3 = some oC := upd_same
  have x3 : ExtB a H (upd (upd (upd H2 p1 oA) p2 oB) p3 oC) := ((ExtB.of s1).trans x2).trans (.of sm3)
  have d3 := d2.same sm3
  generalize (upd (upd (upd H2 p1 oA) p2 oB) p3 oC) = H3 at sm3 at3 x3 d3 ⊢
  -- sign
  refine ⟨_, rfl, _, rfl, a, p3, k + 1, _, rfl, at3, ne3, by decide, by decide, d3, fun y hy H4 x4 d4 => ?_⟩
  obtain ⟨sg, hsg, rfl⟩ := List.mem_map.mp hy
  obtain ⟨sl, sa⟩ := sgs_ok sg hsg
  have x4 := x3.trans x4
  -- ways
  have hE : ∀ (o : Option V) H, EnvD G.K H [some (.ref a), some (.str (S l)), some (.int (n : Int)), some (.ref p3), some (.str (S sg)), o] [none, some (strD l), some (.int (n : Int)), none, some (strD sg), none] := fun o H => .conN (.conS (.str _) (.conS (.int _) (.conN (.conS (.str _) (.conN .nil)))))
  have n1' : (n : Int) + 1 = ((n + 1 : Nat) : Int) := rfl
  have n2' : (n : Int) + 2 = ((n + 2 : Nat) : Int) := rfl
  have lt : ∀ m, (l.take m).length ≤ 2400 := fun m => by rw [List.length_take]; omega
  have ld : ∀ m, (l.drop m).length ≤ 2400 := fun m => by rw [List.length_drop]; omega
  have lm : ∀ m j, ((l.drop m).take j).length ≤ 2400 := fun m j => by rw [List.length_take]; have := ld m; omega
  have c2 : ∀ {x y : List Nat}, x.length + y.length ≤ 20000 → binD .Add (.str (S x)) (.str (S y)) = some (.str (S (x ++ y))) := fun h => l_cat (Nat.le_trans h (by decide))
  obtain ⟨w0, hw0⟩ : ∃ w, w = l.take n ++ sg ++ l.drop n := ⟨_, rfl⟩
  obtain ⟨w1, hw1⟩ : ∃ w, w = l.take n ++ l.drop (n + 1) := ⟨_, rfl⟩
  obtain ⟨w2, hw2⟩ : ∃ w, w = l.take n ++ sg ++ l.drop (n + 1) := ⟨_, rfl⟩
  obtain ⟨w3, hw3⟩ : ∃ w, w = l.take n ++ ((l.drop n).take 1 ++ (l.drop n).take 1) ++ l.drop (n + 1) := ⟨_, rfl⟩
  obtain ⟨w4, hw4⟩ : ∃ w, w = l.take n := ⟨_, rfl⟩
  obtain ⟨w5, hw5⟩ : ∃ w, w = l.take n ++ (l.drop (n + 1)).take 1 ++ (l.drop n).take 1 ++ l.drop (n + 2) := ⟨_, rfl⟩
  obtain ⟨w6, hw6⟩ : ∃ w, w = l ++ [32] := ⟨_, rfl⟩
  obtain ⟨w7, hw7⟩ : ∃ w, w = 32 :: l := ⟨_, rfl⟩
  have ew0 : evE (ftOf T40) gv (.bin .Add (.bin .Add (.slc (.var 1) false (.lit .none) true (.var 2)) (.var 4)) (.slc (.var 1) true (.var 2) false (.lit .none))) [none, some (strD l), some (.int (n : Int)), none, some (strD sg), none] = some (strD w0) := by
    rw [hw0]
    unfold strD
    walk_at "ev"
    have := lt n
    have := ld n
    rw [l_to rfl hlim, l_from rfl hlim]
    walk_at "ev"
    rw [c2 (by omega)]
    walk_at "ev"
    rw [c2 (by simp only [List.length_append]; omega)]
  have ew1 : evE (ftOf T40) gv (.bin .Add (.slc (.var 1) false (.lit .none) true (.var 2)) (.slc (.var 1) true (.bin .Add (.var 2) (.lit (.int 1))) false (.lit .none))) [none, some (strD l), some (.int (n : Int)), none, some (strD sg), none] = some (strD w1) := by
    rw [hw1]
    unfold strD
    walk_at "ev"
    have := lt n
    have := ld (n + 1)
    rw [l_to rfl hlim, l_from n1' hlim]
    walk_at "ev"
    rw [c2 (by omega)]
  have ew2 : evE (ftOf T40) gv (.bin .Add (.bin .Add (.slc (.var 1) false (.lit .none) true (.var 2)) (.var 4)) (.slc (.var 1) true (.bin .Add (.var 2) (.lit (.int 1))) false (.lit .none))) [none, some (strD l), some (.int (n : Int)), none, some (strD sg), none] = some (strD w2) := by
    rw [hw2]
    unfold strD
    walk_at "ev"
    have := lt n
    have := ld (n + 1)
    rw [l_to rfl hlim, l_from n1' hlim]
    walk_at "ev"
    rw [c2 (by omega)]
    walk_at "ev"
    rw [c2 (by simp only [List.length_append]; omega)]
  refine ⟨_, _, hE _ _, ew0, fun v5 H5 s5 hv5 => ⟨_, _, hE _ _, ew1, fun v6 H6 s6 hv6 => ⟨_, _, hE _ _, ew2, fun v7 H7 s7 hv7 => ⟨three_size, fun q1 nq1 => ?_⟩⟩⟩⟩
  have hv5 := dp_str_inv hv5
  have hv6 := dp_str_inv hv6
  have hv7 := dp_str_inv hv7
  subst hv5 hv6 hv7
  have sm8 : Same H4 (upd H7 q1 (.lst [.str (S w0), .str (S w1), .str (S w2)])) := ((s5.trans s6).trans s7).trans (upd_same_of nq1)
  have at8 : (upd H7 q1 (.lst [.str (S w0), .str (S w1), .str (S w2)])) q1 = some (.lst [.str (S w0), .str (S w1), .str (S w2)]) := upd_same
  generalize (upd H7 q1 (.lst [.str (S w0), .str (S w1), .str (S w2)])) = H8 at sm8 at8 ⊢
  have x8 := x4.trans (.of sm8)
  have d8 := d4.same sm8
  -- ways + ..
  have et : evE (ftOf T40) gv (.slc (.var 1) false (.lit .none) true (.var 2)) [none, some (strD l), some (.int (n : Int)), none, some (strD sg), none] = some (strD (l.take n)) := by
    unfold strD
    walk_at "ev"
    exact l_to rfl hlim
  have em : evE (ftOf T40) gv (.slc (.var 1) true (.var 2) true (.bin .Add (.var 2) (.lit (.int 1)))) [none, some (strD l), some (.int (n : Int)), none, some (strD sg), none] = some (strD ((l.drop n).take 1)) := by
    unfold strD
    walk_at "ev"
    rw [l_mid rfl n1' hlim, show n + 1 - n = 1 by omega]
  have ef : evE (ftOf T40) gv (.slc (.var 1) true (.bin .Add (.var 2) (.lit (.int 1))) false (.lit .none)) [none, some (strD l), some (.int (n : Int)), none, some (strD sg), none] = some (strD (l.drop (n + 1))) := by
    unfold strD
    walk_at "ev"
    exact l_from n1' hlim
  refine ⟨_, rfl, _, _, hE _ _, et, fun v9 H9 s9 hv9 => ⟨_, _, hE _ _, em, fun v10 H10 s10 hv10 => ?_⟩⟩
  have hv9 := dp_str_inv hv9
  have hv10 := dp_str_inv hv10
  subst hv9 hv10
  have lm1 := lm n 1
  have l0 := lt n
  have l1 := ld (n + 1)
  refine ⟨_, rfl, rfl, by omega, S _, S _, rfl, rfl, by rw [S_len, S_len, sizeLine_eq]; simp only [List.length_append]; omega, ?_⟩
  rw [S_cat]
  refine ⟨_, _, hE _ _, ef, fun v11 H11 s11 hv11 => ?_⟩
  have hv11 := dp_str_inv hv11
  subst hv11
  refine ⟨S _, S _, rfl, rfl, by rw [S_len, S_len, sizeLine_eq]; simp only [List.length_append]; omega, ?_⟩
  rw [S_cat]
  refine ⟨_, _, hE _ _, et, fun v12 H12 s12' hv12 => ?_⟩
  have hv12 := dp_str_inv hv12
  subst hv12
  refine ⟨two_size, fun q2 nq2 => ?_⟩
  have sm12 : Same H8 H12 := ((s9.trans s10).trans s11).trans s12'
  have at12 := sm12 _ _ at8
  rw [← hw3, ← hw4]
  have neq : q1 ≠ q2 := ne_of_none at12 nq2
  refine ⟨q1, q2, [.str (S w0), .str (S w1), .str (S w2)], [.str (S w3), .str (S w4)], rfl, rfl, by rw [upd_ne neq]; exact at12, upd_same, five_size, fun q3 nq3 => ?_⟩
  have s13 : Same H8 (upd H12 q2 (.lst [.str (S w3), .str (S w4)])) := sm12.trans (upd_same_of nq2)
  have ne13 : q3 ≠ a := fun z => by
    rw [z] at nq3
    obtain ⟨_, _, _, q, _⟩ := d8
    rw [s13 a _ q] at nq3
    cases nq3
  have sm13 : Same H8 (upd (upd H12 q2 (.lst [.str (S w3), .str (S w4)])) q3 (.lst [.str (S w0), .str (S w1), .str (S w2), .str (S w3), .str (S w4)])) := s13.trans (upd_same_of nq3)
  have at13 : (upd (upd H12 q2 (.lst [.str (S w3), .str (S w4)])) q3 (.lst [.str (S w0), .str (S w1), .str (S w2), .str (S w3), .str (S w4)])) q3 = some (.lst [.str (S w0), .str (S w1), .str (S w2), .str (S w3), .str (S w4)]) := upd_same
  show (gName 5 _ _ (upd (upd H12 q2 (.lst [.str (S w3), .str (S w4)])) q3 (.lst [.str (S w0), .str (S w1), .str (S w2), .str (S w3), .str (S w4)])) _)
  generalize (upd (upd H12 q2 (.lst [.str (S w3), .str (S w4)])) q3 (.lst [.str (S w0), .str (S w1), .str (S w2), .str (S w3), .str (S w4)])) = H13 at sm13 at13 ⊢
  have x13 := x8.trans (.of sm13)
  have d13 := d8.same sm13
  -- append
  have ew5 : evE (ftOf T40) gv (.bin .Add (.bin .Add (.bin .Add (.slc (.var 1) false (.lit .none) true (.var 2)) (.slc (.var 1) true (.bin .Add (.var 2) (.lit (.int 1))) true (.bin .Add (.var 2) (.lit (.int 2))))) (.slc (.var 1) true (.var 2) true (.bin .Add (.var 2) (.lit (.int 1))))) (.slc (.var 1) true (.bin .Add (.var 2) (.lit (.int 2))) false (.lit .none))) [none, some (strD l), some (.int (n : Int)), none, some (strD sg), none] = some (strD w5) := by
    rw [hw5]
    unfold strD
    walk_at "ev"
    have := lm (n + 1) 1
    have := ld (n + 2)
    rw [l_to rfl hlim, l_mid n1' n2' hlim, l_mid rfl n1' hlim, l_from n2' hlim, show n + 2 - (n + 1) = 1 by omega, show n + 1 - n = 1 by omega]
    walk_at "ev"
    rw [c2 (by omega)]
    walk_at "ev"
    rw [c2 (by simp only [List.length_append]; omega)]
    walk_at "ev"
    rw [c2 (by simp only [List.length_append]; omega)]
  refine ⟨_, rfl, .inl ⟨rfl, _, SqL.of at13⟩, _, _, hE _ _, ew5, fun v14 H14 s14 hv14 => ?_⟩
  have hv14 := dp_str_inv hv14
  subst hv14
  have at14 := s14 _ _ at13
  refine ⟨q3, _, _, rfl, rfl, at14, by show 5 < sizeLine; rw [sizeLine_eq]; decide, ?_⟩
  have ne14 : H14 a ≠ none := by
    obtain ⟨_, _, _, q, _⟩ := d13
    rw [s14 _ _ q]
    simp
  have d14 : DiceOk (k + 1) a (upd H14 q3 (.lst ([.str (S w0), .str (S w1), .str (S w2), .str (S w3), .str (S w4)] ++ [.str (S w5)]))) := by
    obtain ⟨d0, d1, d2, q, r1, r2⟩ := d13
    exact ⟨d0, d1, d2, by rw [upd_ne (Ne.symm ne13)]; exact s14 _ _ q, r1, r2⟩
  have at15 : (upd H14 q3 (.lst ([.str (S w0), .str (S w1), .str (S w2), .str (S w3), .str (S w4)] ++ [.str (S w5)]))) q3 = some (.lst [.str (S w0), .str (S w1), .str (S w2), .str (S w3), .str (S w4), .str (S w5)]) := upd_same
  have x15 : ExtB a H (upd H14 q3 (.lst ([.str (S w0), .str (S w1), .str (S w2), .str (S w3), .str (S w4)] ++ [.str (S w5)]))) := fun b o hb hbo => by
    by_cases hq : b = q3
    · subst hq
      have e9 := s13 _ _ (x8 b o hb hbo)
      rw [nq3] at e9
      cases e9
    · rw [upd_ne hq]
      exact s14 _ _ (x13 b o hb hbo)
  generalize (upd H14 q3 (.lst ([.str (S w0), .str (S w1), .str (S w2), .str (S w3), .str (S w4)] ++ [.str (S w5)]))) = H15 at d14 at15 x15 ⊢
  have ew6 : evE (ftOf T40) gv (.bin .Add (.var 1) (.lit (.str " "))) [none, some (strD l), some (.int (n : Int)), none, some (strD sg), none] = some (strD w6) := by
    rw [hw6]
    unfold strD
    walk_at "ev"
    rw [blank_S, c2 (by simp only [List.length_cons, List.length_nil]; omega)]
  have ew7 : evE (ftOf T40) gv (.bin .Add (.lit (.str " ")) (.var 1)) [none, some (strD l), some (.int (n : Int)), none, some (strD sg), none] = some (strD w7) := by
    rw [hw7]
    unfold strD
    walk_at "ev"
    rw [blank_S, c2 (by simp only [List.length_cons, List.length_nil]; omega)]
    rfl
  refine ⟨_, rfl, _, rfl, _, _, hE _ _, ew6, fun v16 H16 s16 hv16 => ⟨_, _, hE _ _, ew7, fun v17 H17 s17 hv17 => ?_⟩⟩
  have hv16 := dp_str_inv hv16
  have hv17 := dp_str_inv hv17
  subst hv16 hv17
  refine ⟨two_size, fun q4 nq4 => ?_⟩
  have at17 := s17 _ _ (s16 _ _ at15)
  have neq4 : q3 ≠ q4 := ne_of_none at17 nq4
  refine ⟨q3, q4, [.str (S w0), .str (S w1), .str (S w2), .str (S w3), .str (S w4), .str (S w5)], [.str (S w6), .str (S w7)], rfl, rfl, by rw [upd_ne neq4]; exact at17, upd_same, by show 6 + 2 ≤ sizeLine; rw [sizeLine_eq]; decide, fun q5 nq5 => ?_⟩
  have s18 : Same H15 (upd H17 q4 (.lst [.str (S w6), .str (S w7)])) := (s16.trans s17).trans (upd_same_of nq4)
  have ne18 : q5 ≠ a := fun z => by
    rw [z] at nq5
    obtain ⟨_, _, _, q, _⟩ := d14
    rw [s18 a _ q] at nq5
    cases nq5
  have s19 : Same H15 (upd (upd H17 q4 (.lst [.str (S w6), .str (S w7)])) q5 (.lst [.str (S w0), .str (S w1), .str (S w2), .str (S w3), .str (S w4), .str (S w5), .str (S w6), .str (S w7)])) := s18.trans (upd_same_of nq5)
  refine ⟨a, q5, k, [.str (S w0), .str (S w1), .str (S w2), .str (S w3), .str (S w4), .str (S w5), .str (S w6), .str (S w7)], rfl, upd_same, ne18, by simp, by show 8 ≤ 1000; decide, d14.same s19, fun y hy H20 x20 d20 => ?_⟩
  have fin : ∀ w, Bent l w → Q (.str (S w)) H20 := fun w hw => out w H20 hw ((x15.trans (.of s19)).trans x20) d20
  have tk : ∀ m, ∃ t, l = l.take m ++ t := fun m => ⟨l.drop m, (List.take_append_drop m l).symm⟩
  have dr : ∀ m, ∃ t, l = t ++ l.drop m := fun m => ⟨l.take m, (List.take_append_drop m l).symm⟩
  have as_ : ∀ c ∈ l, c < 128 := g.asc
  have asd : ∀ m j, ∀ c ∈ (l.drop m).take j, c < 128 := fun m j c hc => as_ c (List.mem_of_mem_drop (List.mem_of_mem_take hc))
  have l1' : ∀ m, ((l.drop m).take 1).length ≤ 1 := fun m => List.length_take_le 1 _
  simp only [List.mem_cons, List.not_mem_nil, or_false] at hy
  rcases hy with rfl | rfl | rfl | rfl | rfl | rfl | rfl | rfl
  · exact fin _ ⟨l.take n, sg, l.drop n, hw0, tk n, dr n, by omega, sa⟩
  · exact fin _ ⟨l.take n, [], l.drop (n + 1), by rw [hw1]; simp, tk n, dr (n + 1), by decide, fun c hc => nomatch hc⟩
  · exact fin _ ⟨l.take n, sg, l.drop (n + 1), hw2, tk n, dr (n + 1), by omega, sa⟩
  · exact fin _ ⟨l.take n, (l.drop n).take 1 ++ (l.drop n).take 1, l.drop (n + 1), hw3, tk n, dr (n + 1), by have := l1' n; rw [List.length_append]; omega, fun c hc => by
      rcases List.mem_append.mp hc with hc | hc <;> exact asd n 1 c hc⟩
  · exact fin _ ⟨l.take n, [], [], by rw [hw4]; simp, tk n, ⟨l, by simp⟩, by decide, fun c hc => nomatch hc⟩
  · exact fin _ ⟨l.take n, (l.drop (n + 1)).take 1 ++ (l.drop n).take 1, l.drop (n + 2), by rw [hw5]; simp [List.append_assoc], tk n, dr (n + 2), by have := l1' n; have := l1' (n + 1); rw [List.length_append]; omega, fun c hc => by
      rcases List.mem_append.mp hc with hc | hc
      · exact asd (n + 1) 1 c hc
      · exact asd n 1 c hc⟩
  · exact fin _ ⟨l, [32], [], by rw [hw6]; simp, ⟨[], by simp⟩, ⟨l, by simp⟩, by decide, fun c hc => by simp at hc; omega⟩
  · exact fin _ ⟨[], [32], l, by rw [hw7]; rfl, ⟨l, rfl⟩, ⟨[], rfl⟩, by decide, fun c hc => by simp at hc; omega⟩

end K81
namespace K81
open PySem PySem.Spec PyProof.Rows L2 JL M81 SX
open TL (tl)
local macro_rules | `(tactic| walk_at "ev") => `(tactic| simp only [e_lit, e_var, e_glob, e_bin, e_neg, e_cmp, e_chain, e_and, e_or, e_not, e_ife, e_own, e_bi, e_isi, e_split, e_join, e_idx, e_slc, e_tup, e_lst, e_fstr, a_nil, a_cons, s_set, s_par, s_if, s_ret, s_drop, b_nil, b_cons, l_and, l_or, l_not, l_neg, l_if, l_ifO, l_lt, l_le, l_gt, l_ge, l_eqI, l_neI, l_chainI, l_inC, l_ninC, l_is, l_isn, l_lenL, l_lenT, l_abs, l_tupL, l_tupT, l_add, l_sub,
  l_isi_s, l_isi_t, isiD, l_seq_nx, l_seq_rt, l_itL, l_itT, l_itS, l_it0, l_it1, l_il0, l_il1, isNoneD, Tg.bind, Tg.wipe,
  Option.bind_some, Option.bind_none, Option.map_some, Option.map_none, List.getElem?_cons_zero, List.getElem?_cons_succ, List.getElem?_nil, Option.join_some, List.set_cons_zero, List.set_cons_succ, Bool.not_true, Bool.not_false, Bool.false_eq_true, if_true, if_false])

/-! ### _law_dice -/
def spDice (K : PySem.W.Frag) : Sp := fun vs H Q _ => ∃ (a : Addr) (i : Nat) (ns : List Int), vs = [.ref a, .int i] ∧ SqL K H a (ns.map V.int) ∧ i ≤ 1000 ∧ ns.length ≤ 1000 ∧ ∀ p H2, Same H H2 → H p = none → DiceOk 1000000 p H2 → Q (.ref p) H2
theorem ok_dice {G : Gb} (h : Txt G) {f : Addr} {fd : FuncData} (F : Fun G.K "_law_dice" "_law_dice" s_law_dice f fd) : FnOk G.P G.w G.K G.mg G.base CX0 41 f fd ["script", "spot"] (spDice G.K) := by
  refine F.ok sc_law_dice (fun vs H Q E h => ?_) (fun cdv A outer s H vs Q E hr hs => ?_)
  · obtain ⟨a, i, ns, rfl, _⟩ := h
    rfl
  obtain ⟨a, i, ns, rfl, hS, hi, hn, out⟩ := hs
  have c : Ctx G ["script", "spot", "cell", "great", "seed"] 40 (defScope s_law_dice) (cxOf CX0 G.P G.w G.K G.mg G.base ["script", "spot", "cell", "great", "seed"] "_law_dice" (defScope s_law_dice) f cdv A outer s H E).nox := ⟨rfl, rfl, rfl, rfl, rfl, rfl, sc_law_dice.nd, rfl, rfl, PassesOwn.never, hr⟩
  have hft : FtOk G 40 (ftOf T40) := ok40 h
  refine ⟨_, pss_cons (ps_set (i := 2) sc_law_dice.nd rfl (Or.inl rfl) (pe_ev (ce := .ife (.cmp .Lt (.var 1) (.bi .len [.var 0])) (.bi .int [.idx (.var 0) (.var 1)]) (.bin .Add (.bin .Mult (.lit (.int 131)) (.var 1)) (.lit (.int 37)))) c hft h.gv h.bn (by kernel_rfl)))
    (pss_cons (ps_set (i := 3) sc_law_dice.nd rfl (Or.inl rfl) (pe_op (op_binD .Mod) (pe_ev (ce := .bi .int [.bi .abs [.var 2]]) c hft h.gv h.bn (by kernel_rfl)) (pe_op op_powC (pe_op op_powC pe_int pe_int) pe_int)))
    (pss_cons (ps_set (i := 4) sc_law_dice.nd rfl (Or.inl rfl) (pe_ev (ce := .bin .Add (.bin .Add (.bin .Add (.bin .Mult (.bin .Mod (.var 3) (.lit (.int 2305843009213693907))) (.lit (.int 73))) (.bin .Mult (.lit (.int 619)) (.var 1))) (.bin .Mult (.lit (.int 41)) (.bi .int [.cmp .Lt (.var 2) (.lit (.int 0))]))) (.lit (.int 17))) c hft h.gv h.bn (by kernel_rfl)))
    (pss_one (ps_ret (pe_lst (pa_cons (pe_callB (call_max2 rfl) rfl (h.bn "max" (by decide +kernel)) PyProof.Rows.Boot.max (pa_cons pe_int (pa_cons (pe_op (op_binD .Sub) (pv 3) (pe_op op_powC pe_int pe_int)) pa_nil))) (pa_cons (pv 4) (pa_cons pe_int pa_nil)))))))), ?_⟩
  have hl : Dp G.K H (.ref a) (.list (ns.map .int)) := .lst hS (dpa_ints ns)
  obtain ⟨cell, hc⟩ : ∃ cell : Int, evE (ftOf T40) gv (.ife (.cmp .Lt (.var 1) (.bi .len [.var 0])) (.bi .int [.idx (.var 0) (.var 1)]) (.bin .Add (.bin .Mult (.lit (.int 131)) (.var 1)) (.lit (.int 37)))) [some (.list (ns.map .int)), some (.int (i : Int)), none, none, none] = some (.int cell) := by
    walk_at "ev"
    rw [List.length_map]
    by_cases hlt : i < ns.length
    · rw [decide_eq_true (by omega), l_itemL (i := i) (d := .int ns[i]) (by rw [List.getElem?_map, List.getElem?_eq_getElem hlt]; rfl)]
      walk_at "ev"
      exact ⟨_, rfl⟩
    · rw [decide_eq_false (by omega)]
      have lg : (131 : Int).natAbs.log2 = 7 := by decide
      have : ((i : Nat) : Int).natAbs.log2 < 200 := log60 (by omega) (by omega)
      walk_at "ev"
      rw [l_mul (by omega)]
      walk_at "ev"
      exact ⟨_, rfl⟩
  refine ⟨_, _, .conS hl (.conS (.int _) (.conN (.conN (.conN .nil)))), hc, fun v1 H1 s1 hv1 => ?_⟩
  have hv1 := dp_int_inv hv1
  subst hv1
  have e2 : evE (ftOf T40) gv (.bi .int [.bi .abs [.var 2]]) [none, some (.int (i : Int)), some (.int cell), none, none] = some (.int (if cell < 0 then -cell else cell)) := by
    walk_at "ev"
    rfl
  refine ⟨_, _, .conN (.conS (.int _) (.conS (.int _) (.conN (.conN .nil)))), e2, fun v2 H2 s2 hv2 => ?_⟩
  have hv2 := dp_int_inv hv2
  subst hv2
  have hp : 0 < ((10 : Int) ^ (53 : Int).toNat) ^ (6 : Int).toNat := by decide +kernel
  refine ⟨10, 53, rfl, rfl, ⟨by decide, by decide, by decide⟩, _, 6, rfl, rfl, ⟨by decide, by decide, by decide +kernel⟩, ?_⟩
  refine ⟨_, _, _, .int _, .int _, l_mod hp, ?_⟩
  show (gName 3 (.int _) _ _ _)
  generalize (if cell < 0 then -cell else cell) % ((10 : Int) ^ (53 : Int).toNat) ^ (6 : Int).toNat = great
  obtain ⟨seed, e3⟩ : ∃ seed : Int, evE (ftOf T40) gv (.bin .Add (.bin .Add (.bin .Add (.bin .Mult (.bin .Mod (.var 3) (.lit (.int 2305843009213693907))) (.lit (.int 73))) (.bin .Mult (.lit (.int 619)) (.var 1))) (.bin .Mult (.lit (.int 41)) (.bi .int [.cmp .Lt (.var 2) (.lit (.int 0))]))) (.lit (.int 17))) [none, some (.int (i : Int)), some (.int cell), some (.int great), none] = some (.int seed) := by
    walk_at "ev"
    rw [l_mod (by decide)]
    walk_at "ev"
    have t0 : 0 ≤ great % 2305843009213693907 := Int.emod_nonneg _ (by decide)
    have t1 : great % 2305843009213693907 < 2305843009213693907 := Int.emod_lt_of_pos _ (by decide)
    generalize great % 2305843009213693907 = gm at t0 t1
    have l0 : gm.natAbs.log2 < 200 := log60 t0 (by omega)
    have l1 : ((i : Nat) : Int).natAbs.log2 < 200 := log60 (by omega) (by omega)
    have g1 : (73 : Int).natAbs.log2 = 6 := by decide
    have g2 : (619 : Int).natAbs.log2 = 9 := by decide
    rw [l_mul (by omega), l_mul (by omega)]
    walk_at "ev"
    rw [show biD .int [.bool (decide (cell < 0))] = some (.int (if decide (cell < 0) then 1 else 0)) from rfl]
    walk_at "ev"
    rw [l_mul (by split <;> decide)]
    walk_at "ev"
    exact ⟨_, rfl⟩
  refine ⟨_, _, .conN (.conS (.int _) (.conS (.int _) (.conS (.int _) (.conN .nil)))), e3, fun v4 H4 s4 hv4 => ?_⟩
  have hv4 := dp_int_inv hv4
  subst hv4
  refine ⟨_, rfl, 10, 16, rfl, rfl, ⟨by decide, by decide, by decide⟩, _, _, _, .int _, .int _, rfl, 0, _, rfl, ?_⟩
  refine ⟨_, rfl, three_size, fun p np => ?_⟩
  have sf : Same H H4 := (s1.trans s2).trans s4
  refine out p _ (sf.trans (upd_same_of np)) ?_ ⟨_, seed, 0, upd_same, by decide, by decide⟩
  cases hq : H p with
  | none => rfl
  | some o =>
    rw [sf _ _ hq] at np
    cases np

end K81
namespace K81
open PySem PySem.Spec PyProof.Rows L2 JL M81 SX
open TL (tl)
local macro_rules | `(tactic| walk_at "ev") => `(tactic| simp only [e_lit, e_var, e_glob, e_bin, e_neg, e_cmp, e_chain, e_and, e_or, e_not, e_ife, e_own, e_bi, e_isi, e_split, e_join, e_idx, e_slc, e_tup, e_lst, e_fstr, a_nil, a_cons, s_set, s_par, s_if, s_ret, s_drop, b_nil, b_cons, l_and, l_or, l_not, l_neg, l_if, l_ifO, l_lt, l_le, l_gt, l_ge, l_eqI, l_neI, l_chainI, l_inC, l_ninC, l_is, l_isn, l_lenL, l_lenT, l_abs, l_tupL, l_tupT, l_add, l_sub,
  l_isi_s, l_isi_t, isiD, l_seq_nx, l_seq_rt, l_itL, l_itT, l_itS, l_it0, l_it1, l_il0, l_il1, isNoneD, Tg.bind, Tg.wipe,
  Option.bind_some, Option.bind_none, Option.map_some, Option.map_none, List.getElem?_cons_zero, List.getElem?_cons_succ, List.getElem?_nil, Option.join_some, List.set_cons_zero, List.set_cons_succ, Bool.not_true, Bool.not_false, Bool.false_eq_true, if_true, if_false])

open LamX
/-! ### what stays -/
def XB (M : List Addr) (H H' : Hp) : Prop := ∀ b o, b ∉ M → (∀ ps, o ≠ .tbl ps) → H b = some o → H' b = some o
def NL (H H' : Hp) : Prop := ∀ b o, (∀ xs, o ≠ .lst xs) → (∀ ps, o ≠ .tbl ps) → H b = some o → H' b = some o
theorem NL.refl (H : Hp) : NL H H := fun _ _ _ _ h => h
theorem NL.trans {H H1 H2 : Hp} (x : NL H H1) (y : NL H1 H2) : NL H H2 := fun b o h1 h2 h => y b o h1 h2 (x b o h1 h2 h)
theorem NL.same {H H1 : Hp} (x : Same H H1) : NL H H1 := fun b o _ _ h => x b o h
theorem NL.extB {a : Addr} {xs : List V} {H H1 : Hp} (x : ExtB a H H1) (ha : H a = some (.lst xs)) : NL H H1 := fun b o h1 _ h => x b o (fun z => by rw [z, ha] at h; cases h; exact h1 xs rfl) h
theorem NL.put {p : Addr} {xs ys : List V} {H : Hp} (hp : H p = some (.lst xs)) : NL H (upd H p (.lst ys)) := fun b o h1 _ h => by rw [upd_ne (fun z => by rw [z, hp] at h; cases h; exact h1 xs rfl)]; exact h
theorem NL.extN {H H1 : Hp} (x : ExtN H H1) : NL H H1 := fun b o _ h2 h => x b o h h2
mutual
theorem dp_nl {K : PySem.W.Frag} {H H' : Hp} (e : NL H H') : ∀ {v : V} {d : PyData}, noList d = true → Dp K H v d → Dp K H' v d
  | _, _, _, .non => .non
  | _, _, _, .bl b => .bl b
  | _, _, _, .int i => .int i
  | _, _, _, .str x => .str x
  | _, _, n, .lst h a => by cases n
  | _, _, n, .tup h a => .tup (by
      rcases h with (h | ⟨o, h⟩) | h
      · exact .inl (.inl (e _ _ (fun _ z => by cases z) (fun _ z => by cases z) h))
      · exact .inl (.inr ⟨o, e _ _ (fun _ z => by cases z) (fun _ z => by cases z) h⟩)
      · exact .inr h) (dpa_nl e n a)
theorem dpa_nl {K : PySem.W.Frag} {H H' : Hp} (e : NL H H') : ∀ {vs : List V} {ds : List PyData}, noListAll ds = true → DpAll K H vs ds → DpAll K H' vs ds
  | _, _, _, .nil => .nil
  | _, _, n, .cons h t => by
    have n' : (noList _ && noListAll _) = true := n
    rw [Bool.and_eq_true] at n'
    exact .cons (dp_nl e n'.1 h) (dpa_nl e n'.2 t)
end
theorem tabs_extB {T : List (Addr × Str)} {a : Addr} {xs : List V} {H H1 : Hp} (t : Tabs T H) (x : ExtB a H H1) (ha : H a = some (.lst xs)) : Tabs T H1 := fun p hp => by
  obtain ⟨ps, h1, h2, h3⟩ := t p hp
  refine ⟨ps, x _ _ (fun z => by rw [z, ha] at h1; cases h1) h1, h2, fun pos cv hc => ?_⟩
  obtain ⟨c, e1, e2⟩ := h3 pos cv hc
  exact ⟨c, e1, x _ _ (fun z => by
    rw [z, ha] at e2
    have e3 : HO.lst xs = CodeO c p.2 := by rw [z] at *; exact Option.some.inj e2
    unfold CodeO at e3
    cases e3) e2⟩
/-- the state of a law's def: the dice at a, the tables, all else that was -/
structure RS (T : List (Addr × Str)) (a : Addr) (H0 H : Hp) (k : Nat) : Prop where
  dice : DiceOk k a H
  tabs : Tabs T H
  ext : XB [a] H0 H
section
variable {T : List (Addr × Str)} {a p : Addr} {H0 H H1 : Hp} {k j : Nat} {xs ys : List V}
theorem RS.same (r : RS T a H0 H k) (s : Same H H1) : RS T a H0 H1 k := ⟨r.dice.same s, r.tabs.ext s, fun b o h1 h2 h => s _ _ (r.ext b o h1 h2 h)⟩
theorem RS.mono (r : RS T a H0 H k) (h : j ≤ k) : RS T a H0 H j := ⟨r.dice.mono h, r.tabs, r.ext⟩
theorem RS.roll (r : RS T a H0 H k) (x : ExtB a H H1) (d : DiceOk j a H1) : RS T a H0 H1 j := by
  obtain ⟨_, _, _, q, _⟩ := r.dice
  exact ⟨d, tabs_extB r.tabs x q, fun b o h1 h2 h => x _ _ (fun z => h1 (by rw [z]; exact List.mem_cons_self ..)) (r.ext b o h1 h2 h)⟩
def New (H0 : Hp) (p : Addr) : Prop := ∀ o, (∀ ps, o ≠ .tbl ps) → H0 p ≠ some o
theorem RS.put (r : RS T a H0 H k) (hp : H p = some (.lst xs)) (h0 : New H0 p) (hne : p ≠ a) : RS T a H0 (upd H p (.lst ys)) k := by
  refine ⟨?_, tabs_extB r.tabs (.upd : ExtB p H _) hp, fun b o h1 h2 h => ?_⟩
  · obtain ⟨d0, d1, d2, q, r1, r2⟩ := r.dice
    exact ⟨d0, d1, d2, by rw [upd_ne (Ne.symm hne)]; exact q, r1, r2⟩
  · rw [upd_ne (fun z => h0 o h2 (by rw [← z]; exact h))]
    exact r.ext b o h1 h2 h
theorem RS.nlRoll (r : RS T a H0 H k) (x : ExtB a H H1) : NL H H1 := by
  obtain ⟨_, _, _, q, _⟩ := r.dice
  exact .extB x q
theorem RS.ne (r : RS T a H0 H k) (hp : H p = none) : p ≠ a := fun z => by
  obtain ⟨_, _, _, q, _⟩ := r.dice
  rw [z, q] at hp
  cases hp
theorem RS.new (r : RS T a H0 H k) (hp : H p = none) : New H0 p := fun o ho h => by
  have := r.ext p o (fun z => r.ne hp (List.mem_singleton.mp z)) ho h
  rw [this] at hp
  cases hp
end
/-! ### blocks cut in pieces -/
theorem wb_cut {X : Cx} {st : Stmt} {rest : List Stmt} {D : Ends} {σ : L2.St} {H : Hp} (Mid : L2.St → Hp → Prop) (h1 : WS X st { D with nx := Mid } σ H) (h2 : ∀ σ' H', Mid σ' H' → WB X rest D σ' H') : WB X (st :: rest) D σ H :=
  fun pins s I => (C8.pss_cut (X := X) pws pwb).run pins s σ H D I ⟨Mid, h1, h2⟩
theorem ws_of {X : Cx} {st : Stmt} {t : TS} {D : Ends} {σ : L2.St} {H : Hp} (h : PS X st t) (q : t D σ H) : WS X st D σ H := fun pins s I => h.run pins s σ H D I q
theorem wb_of {X : Cx} {st : List Stmt} {t : TS} {D : Ends} {σ : L2.St} {H : Hp} (h : PSs X st t) (q : t D σ H) : WB X st D σ H := fun pins s I => h.run pins s σ H D I q
theorem we_of {X : Cx} {e : Expr} {t : TE} {Q : VK} {σ : L2.St} {H : Hp} (h : PE X e t) (q : t σ H Q) : WE X e σ H Q := fun pins s I => h.run pins s σ H Q I q

end K81
namespace K81
open PySem PySem.Spec PyProof.Rows L2 JL M81 SX
open TL (tl)
local macro_rules | `(tactic| walk_at "ev") => `(tactic| simp only [e_lit, e_var, e_glob, e_bin, e_neg, e_cmp, e_chain, e_and, e_or, e_not, e_ife, e_own, e_bi, e_isi, e_split, e_join, e_idx, e_slc, e_tup, e_lst, e_fstr, a_nil, a_cons, s_set, s_par, s_if, s_ret, s_drop, b_nil, b_cons, l_and, l_or, l_not, l_neg, l_if, l_ifO, l_lt, l_le, l_gt, l_ge, l_eqI, l_neI, l_chainI, l_inC, l_ninC, l_is, l_isn, l_lenL, l_lenT, l_abs, l_tupL, l_tupT, l_add, l_sub,
  l_isi_s, l_isi_t, isiD, l_seq_nx, l_seq_rt, l_itL, l_itT, l_itS, l_it0, l_it1, l_il0, l_il1, isNoneD, Tg.bind, Tg.wipe,
  Option.bind_some, Option.bind_none, Option.map_some, Option.map_none, List.getElem?_cons_zero, List.getElem?_cons_succ, List.getElem?_nil, Option.join_some, List.set_cons_zero, List.set_cons_succ, Bool.not_true, Bool.not_false, Bool.false_eq_true, if_true, if_false])

open LamX
/-- all that the law's defs lean on -/
structure LT (G : Gb) (C fI : Addr) : Prop where
  txt : Txt G
  par : PySem.PEX.ParTxt G.K G.mg G.P C fI
  dice : Dice G
  hlist : G.mg "list" = none
  fr : ∃ (f : Addr) (fd : FuncData), FnOk G.P G.w G.K G.mg G.base CX0 41 f fd ["top", "bottom"] (spR G.K fun ds d => ∃ t b : Int, 1 ≤ b ∧ t.natAbs < 10 ^ 550 ∧ b.natAbs < 10 ^ 550 ∧ ds = [.int t, .int b] ∧ d = numD (fr t b)) ∧ G.mg "_law_fr" = some (.ref f) ∧ PySem.W.keepIn G.K (.ref f) = true ∧ Binds G.K fd ["top", "bottom"] []
  bent : ∃ (f : Addr) (fd : FuncData), FnOk G.P G.w G.K G.mg G.base CX0 43 f fd ["dice", "text"] spBent ∧ G.mg "_law_bent" = some (.ref f) ∧ PySem.W.keepIn G.K (.ref f) = true ∧ Binds G.K fd ["dice", "text"] []
  due : ∃ (f : Addr) (fd : FuncData), FnOk G.P G.w G.K G.mg G.base CX0 41 f fd ["read", "text"] (spDue G) ∧ G.mg "_law_due" = some (.ref f) ∧ PySem.W.keepIn G.K (.ref f) = true ∧ Binds G.K fd ["read", "text"] []
  pN : ∃ f, G.mg "parse_number" = some (.ref f) ∧ Pr G C f fun l => optQ (numIn l)
  pR : ∃ f, G.mg "parse_row" = some (.ref f) ∧ Pr G C f fun l => optR (rowIn l)
  pS : ∃ f, G.mg "parse_spell" = some (.ref f) ∧ Pr G C f fun l => optSp (spellIn l)
  pC : ∃ f, G.mg "parse_course" = some (.ref f) ∧ Pr G C f fun l => optRs (rowsIn l restL)
  pG : ∃ f, G.mg "parse_readings" = some (.ref f) ∧ Pr G C f fun l => optRs (rowsIn l nothingL)
  rN : ∃ f, G.mg "_law_read_number" = some (.ref f) ∧ Rd G 40 f fun l => optQ (numIn l)
  rR : ∃ f, G.mg "_law_read_row" = some (.ref f) ∧ Rd G 40 f fun l => optR (rowIn l)
  rS : ∃ f, G.mg "_law_read_spell" = some (.ref f) ∧ Rd G 40 f fun l => optSp (spellIn l)
  rC : ∃ f, G.mg "_law_read_course" = some (.ref f) ∧ Rd G 40 f fun l => optRs (rowsIn l restL)
  rG : ∃ f, G.mg "_law_read_readings" = some (.ref f) ∧ Rd G 40 f fun l => optRs (rowsIn l nothingL)
abbrev NR : List Str := ["dice", "some", "width", "course", "turn", "row", "at", "number", "names", "spell", "told", "due", "back", "calls", "call", "read", "text", "bent"]
abbrev XR (G : Gb) (f : Addr) (cdv : Value) (A : Around) (outer : List Env) (s : Shared) (H : Hp) (E : XK) : Cx := (cxOf CX0 G.P G.w G.K G.mg G.base NR "_law_right" (defScope s_law_right) f cdv A outer s H E).nox
def rS (i : Nat) : Stmt := (defBody s_law_right).getD i (.Pass ⟨0, 0, 0, 0⟩)
theorem body_right : defBody s_law_right = [rS 0, rS 1, rS 2, rS 3, rS 4, rS 5, rS 6, rS 7, rS 8, rS 9, rS 10, rS 11, rS 12, rS 13, rS 14, rS 15, rS 16] := by kernel_rfl
theorem swapped_three {x y z : Str} {px py pz pt : Pos} {kt k2 : Nat} {pt2 : Pos} {a b c : Expr} {env : Env} (hk : env.scope.kind = .function) (hx : env.scope.names.lookup x = some .local) (hy : env.scope.names.lookup y = some .local) (hz : env.scope.names.lookup z = some .local) (h1 : x ≠ y) (h2 : x ≠ z) (h3 : y ≠ z)
    (hl : (py.line == px.line) = true) (hl2 : (pz.line == px.line) = true)
    (e1 : ([a, b, c].all (foldedForSure 8)) = false) (e2 : ([a, b, c].all (constantsAlone 8)) = false) (ha : ∀ e p, a ≠ .Starred e p) (hb : ∀ e p, b ≠ .Starred e p) (hc : ∀ e p, c ≠ .Starred e p) :
    swappedStores [.Tuple [.Name x px, .Name y py, .Name z pz] kt pt] (.Tuple [a, b, c] k2 pt2) env = pure (some [x, y, z]) := by
  have kx : env.kindOf x = some .local := hx
  have ky : env.kindOf y = some .local := hy
  have kz : env.kindOf z = some .local := hz
  have bk : env.blockKind = .function := by unfold Env.blockKind; rw [hk]; rfl
  have s1 : (match a with | .Starred .. => true | _ => false) = false := by cases a <;> first | rfl | exact absurd rfl (ha _ _)
  have s2 : (match b with | .Starred .. => true | _ => false) = false := by cases b <;> first | rfl | exact absurd rfl (hb _ _)
  have s3 : (match c with | .Starred .. => true | _ => false) = false := by cases c <;> first | rfl | exact absurd rfl (hc _ _)
  have hp : (px.line == px.line) = true := by simp
  unfold swappedStores
  simp only [bk, kx, ky, kz, List.any_cons, List.any_nil, s1, s2, s3, e1, e2, List.head?_cons, Option.map_some, Option.getD_some, Expr.pos, List.filterMap_cons, List.filterMap_nil, hl, hl2, hp, List.length_cons, List.length_nil, List.all_cons, List.all_nil, Bool.and_true]
  simp [List.eraseDups_cons, h1, h2, h3, h1.symm, h2.symm, h3.symm]
theorem eight_size : 8 ≤ sizeLine := by rw [sizeLine_eq]; decide
theorem nil_size : 0 ≤ sizeLine := Nat.zero_le _
theorem envN {K : PySem.W.Frag} {H : Hp} {σ : L2.St} {n : Nat} (h : σ.length = n) : EnvD K H σ (List.replicate n none) := ⟨by rw [List.length_replicate, h], fun i d hi => by
  rw [List.getElem?_replicate] at hi
  split at hi
  · cases hi
  · cases hi⟩
def someI : List Int := [0, 1, -1, 2, -3, 12, 10 ^ 40 + 1, 0 - 10 ^ 60]
def Mid0 (T : List (Addr × Str)) (a : Addr) (H0 : Hp) (k : Nat) : L2.St → Hp → Prop := fun σ H => ∃ (pS pC : Addr) (w : Nat), σ = [some (.ref a), some (.ref pS), some (.int (w : Int)), some (.ref pC)] ++ List.replicate 14 none ∧ RS T a H0 H k ∧ w < 4 ∧ H pS = some (.lst (someI.map V.int)) ∧ H pC = some (.lst []) ∧ pS ≠ pC ∧ New H0 pC ∧ pC ≠ a ∧ pS ≠ a
section
variable {G : Gb} {C fI : Addr} {f : Addr} {cdv : Value} {A : Around} {outer : List Env} {s : Shared} {H0 : Hp} {E : XK} {T : List (Addr × Str)} {a : Addr} {k : Nat} {D : Ends}
theorem ctxR (hr : Room 50 (A.deeper (envOfC "_law_right" (defScope s_law_right) s.heap.objs.size f cdv))) : Ctx G NR 40 (defScope s_law_right) (XR G f cdv A outer s H0 E) := ⟨rfl, rfl, rfl, rfl, rfl, rfl, sc_law_right.nd, rfl, rfl, PassesOwn.never, hr.mono (by decide)⟩
theorem ws0 (L : LT G C fI) (hr : Room 50 (A.deeper (envOfC "_law_right" (defScope s_law_right) s.heap.objs.size f cdv))) (r : RS T a H0 H0 (k + 1)) :
    WS (XR G f cdv A outer s H0 E) (rS 0) { D with nx := Mid0 T a H0 k } (L2.start NR [.ref a]) H0 := by
  obtain ⟨fr, fdr, FR, mr, kr, br⟩ := L.dice.roll
  have c := ctxR (G := G) (outer := outer) (H0 := H0) (E := E) hr
  have hft : FtOk G 40 (ftOf T40) := ok40 L.txt
  refine ws_of (ps_par3 (i := 1) (j := 2) (l := 3) rfl sc_law_right.nd rfl rfl rfl (by decide) (by decide) (by decide) rfl rfl rfl
    (pa_cons (pe_lst (pa_cons pe_int (pa_cons pe_int (pa_cons (pe_ev (ce := .neg (.lit (.int 1))) c hft L.txt.gv L.txt.bn (by kernel_rfl)) (pa_cons pe_int (pa_cons (pe_ev (ce := .neg (.lit (.int 3))) c hft L.txt.gv L.txt.bn (by kernel_rfl)) (pa_cons pe_int
      (pa_cons (pe_op op_add (pe_op op_powC pe_int pe_int) pe_int) (pa_cons (pe_op op_sub pe_int (pe_op op_powC pe_int pe_int)) pa_nil)))))))))
    (pa_cons (pe_call (dvs := []) (E := fun _ _ _ => False) FR (hr.mono (by decide)) rfl mr kr br .nil passN (pa_cons (pv 0) (pa_cons pe_int pa_nil)))
    (pa_cons (pe_lst pa_nil) pa_nil)))
    (swapped_three rfl rfl rfl rfl (by decide) (by decide) (by decide) rfl rfl rfl rfl (fun _ _ z => nomatch z) (fun _ _ z => nomatch z) (fun _ _ z => nomatch z))) ?_
  have en : ∀ i : Int, evE (ftOf T40) gv (.neg (.lit (.int i))) (List.replicate 18 none) = some (.int (-i)) := fun i => by
    walk_at "ev"
  refine ⟨_, _, envN rfl, en 1, fun v1 H1 s1 hv1 => ⟨_, _, envN rfl, en 3, fun v2 H2 s2 hv2 => ?_⟩⟩
  have hv1 := dp_int_inv hv1
  have hv2 := dp_int_inv hv2
  subst hv1 hv2
  refine ⟨10, 40, rfl, rfl, ⟨by decide, by decide, by decide⟩, _, 1, rfl, rfl, 10, 60, rfl, rfl, ⟨by decide, by decide, by decide⟩, 0, _, rfl, rfl, eight_size, fun pS nS => ?_⟩
  have r2 := (r.same s1).same s2
  have r3 := r2.same (upd_same_of (o := .lst (someI.map V.int)) nS)
  refine ⟨_, rfl, a, k, 4, rfl, by decide, by decide, r3.dice, fun w H4 x4 d4 w0 w1 => ?_⟩
  obtain ⟨w, rfl⟩ : ∃ n : Nat, w = (n : Int) := ⟨w.toNat, by omega⟩
  have r4 := r3.roll x4 d4
  have neS : pS ≠ a := r2.ne nS
  have atS : H4 pS = some (.lst (someI.map V.int)) := x4 _ _ neS upd_same
  refine ⟨nil_size, fun pC nC => ?_⟩
  refine ⟨_, _, _, rfl, pS, pC, w, rfl, r4.same (upd_same_of nC), by omega, ?_, upd_same, ne_of_none atS nC, r4.new nC, r4.ne nC, neS⟩
  rw [upd_ne (ne_of_none atS nC)]
  exact atS
end

end K81
namespace K81
open PySem PySem.Spec PyProof.Rows L2 JL M81 SX
open TL (tl)
local macro_rules | `(tactic| walk_at "ev") => `(tactic| simp only [e_lit, e_var, e_glob, e_bin, e_neg, e_cmp, e_chain, e_and, e_or, e_not, e_ife, e_own, e_bi, e_isi, e_split, e_join, e_idx, e_slc, e_tup, e_lst, e_fstr, a_nil, a_cons, s_set, s_par, s_if, s_ret, s_drop, b_nil, b_cons, l_and, l_or, l_not, l_neg, l_if, l_ifO, l_lt, l_le, l_gt, l_ge, l_eqI, l_neI, l_chainI, l_inC, l_ninC, l_is, l_isn, l_lenL, l_lenT, l_abs, l_tupL, l_tupT, l_add, l_sub,
  l_isi_s, l_isi_t, isiD, l_seq_nx, l_seq_rt, l_itL, l_itT, l_itS, l_it0, l_it1, l_il0, l_il1, isNoneD, Tg.bind, Tg.wipe,
  Option.bind_some, Option.bind_none, Option.map_some, Option.map_none, List.getElem?_cons_zero, List.getElem?_cons_succ, List.getElem?_nil, Option.join_some, List.set_cons_zero, List.set_cons_succ, Bool.not_true, Bool.not_false, Bool.false_eq_true, if_true, if_false])

open LamX
def QOk (q : Q) : Prop := valid q = true ∧ q.1.natAbs < 10 ^ 61 ∧ q.2.natAbs < 10 ^ 61
theorem pow61 : (10 : Nat) ^ 61 < 10 ^ 550 := Nat.pow_lt_pow_right (by decide) (by decide)
theorem QOk.small {q : Q} (h : QOk q) : small q := ⟨Nat.lt_trans h.2.1 pow61, Nat.lt_trans h.2.2 pow61⟩
theorem fr_ok {t b : Int} (h1 : t.natAbs < 10 ^ 61) (h2 : b.natAbs < 10 ^ 61) (hb : 1 ≤ b) : QOk (fr t b) :=
  ⟨fr_valid hb, Nat.lt_of_le_of_lt (Int.natAbs_ediv_le_natAbs _ _) h1, Nat.lt_of_le_of_lt (Int.natAbs_ediv_le_natAbs _ _) h2⟩
theorem some_ok : ∀ i ∈ someI, i.natAbs < 10 ^ 61 := by decide +kernel
structure CS1 (G : Gb) (T : List (Addr × Str)) (a : Addr) (H0 : Hp) (pS pC : Addr) (w : Nat) (rs : List (List Q)) (H : Hp) (k : Nat) : Prop where
  st : RS T a H0 H k
  hw : w < 4
  atS : H pS = some (.lst (someI.map V.int))
  crs : ∃ vs, H pC = some (.lst vs) ∧ DpAll G.K H vs (rs.map rowD)
  nSC : pS ≠ pC
  newC : New H0 pC
  neC : pC ≠ a
  neS : pS ≠ a
  wid : ∀ r ∈ rs, r.length = w ∧ ∀ q ∈ r, QOk q
section
variable {G : Gb} {T : List (Addr × Str)} {a pS pC p : Addr} {H0 H H1 : Hp} {w k j : Nat} {rs : List (List Q)} {xs ys : List V}
theorem noRows (rs : List (List Q)) : noListAll (rs.map rowD) = true := noListAll_of noList_row rs
theorem CS1.same (c : CS1 G T a H0 pS pC w rs H k) (s : Same H H1) : CS1 G T a H0 pS pC w rs H1 k := by
  obtain ⟨vs, h1, h2⟩ := c.crs
  exact ⟨c.st.same s, c.hw, s _ _ c.atS, ⟨vs, s _ _ h1, dpa_mono s h2⟩, c.nSC, c.newC, c.neC, c.neS, c.wid⟩
theorem CS1.mono (c : CS1 G T a H0 pS pC w rs H k) (h : j ≤ k) : CS1 G T a H0 pS pC w rs H j := ⟨c.st.mono h, c.hw, c.atS, c.crs, c.nSC, c.newC, c.neC, c.neS, c.wid⟩
theorem CS1.roll (c : CS1 G T a H0 pS pC w rs H k) (x : ExtB a H H1) (d : DiceOk j a H1) : CS1 G T a H0 pS pC w rs H1 j := by
  obtain ⟨vs, h1, h2⟩ := c.crs
  exact ⟨c.st.roll x d, c.hw, x _ _ c.neS c.atS, ⟨vs, x _ _ c.neC h1, dpa_nl (c.st.nlRoll x) (noRows rs) h2⟩, c.nSC, c.newC, c.neC, c.neS, c.wid⟩
theorem CS1.put (c : CS1 G T a H0 pS pC w rs H k) (hp : H p = some (.lst xs)) (h0 : New H0 p) (hne : p ≠ a) (h1 : p ≠ pS) (h2 : p ≠ pC) : CS1 G T a H0 pS pC w rs (upd H p (.lst ys)) k := by
  obtain ⟨vs, h3, h4⟩ := c.crs
  exact ⟨c.st.put hp h0 hne, c.hw, by rw [upd_ne (Ne.symm h1)]; exact c.atS, ⟨vs, by rw [upd_ne (Ne.symm h2)]; exact h3, dpa_nl (.put hp) (noRows rs) h4⟩, c.nSC, c.newC, c.neC, c.neS, c.wid⟩
theorem CS1.row (c : CS1 G T a H0 pS pC w rs H k) {vs : List V} {v : V} {r : List Q} (hC : H pC = some (.lst vs)) (hv : DpAll G.K H vs (rs.map rowD)) (hr : Dp G.K H v (rowD r)) (hl : r.length = w) (hq : ∀ q ∈ r, QOk q) : CS1 G T a H0 pS pC w (rs ++ [r]) (upd H pC (.lst (vs ++ [v]))) k := by
  refine ⟨c.st.put hC c.newC c.neC, c.hw, by rw [upd_ne c.nSC]; exact c.atS, ⟨vs ++ [v], upd_same, ?_⟩, c.nSC, c.newC, c.neC, c.neS, fun r' hr' => ?_⟩
  · rw [List.map_append]
    exact dpa_app (dpa_nl (.put hC) (noRows rs) hv) (.cons (dp_nl (.put hC) (noList_row r) hr) .nil)
  · rcases List.mem_append.mp hr' with h | h
    · exact c.wid r' h
    · simp at h
      subst h
      exact ⟨hl, hq⟩
end
theorem six_size : 6 ≤ sizeLine := by rw [sizeLine_eq]; decide
def denA : List Int := [1, 1, 2, 3, 7, 10 ^ 30 + 3]
theorem denA_ok : ∀ i ∈ denA, 1 ≤ i ∧ i.natAbs < 10 ^ 61 := by decide +kernel
def Mid1 (G : Gb) (T : List (Addr × Str)) (a : Addr) (H0 : Hp) (k : Nat) : L2.St → Hp → Prop := fun σ H => ∃ (pS pC : Addr) (w : Nat) (rs : List (List Q)) (o4 o5 o6 : Option V), σ = [some (.ref a), some (.ref pS), some (.int (w : Int)), some (.ref pC), o4, o5, o6] ++ List.replicate 11 none ∧ CS1 G T a H0 pS pC w rs H k ∧ rs.length ≤ 3
section
variable {G : Gb} {C fI : Addr} {f : Addr} {cdv : Value} {A : Around} {outer : List Env} {s : Shared} {H0 : Hp} {E : XK} {T : List (Addr × Str)} {a : Addr} {k : Nat} {D : Ends}
theorem ws1 (L : LT G C fI) (hr : Room 50 (A.deeper (envOfC "_law_right" (defScope s_law_right) s.heap.objs.size f cdv))) {σ : L2.St} {H : Hp} (h : Mid0 T a H0 (k + 19) σ H) :
    WS (XR G f cdv A outer s H0 E) (rS 1) { D with nx := Mid1 G T a H0 k } σ H := by
  obtain ⟨fr, fdr, FR, mr, kr, br⟩ := L.dice.roll
  obtain ⟨fp, fdp, FP, mp, kp, bp⟩ := L.dice.pick
  obtain ⟨ff, fdf, FF, mf, kf, bf⟩ := L.fr
  have c := ctxR (G := G) (outer := outer) (H0 := H0) (E := E) hr
  have hft : FtOk G 40 (ftOf T40) := ok40 L.txt
  have gRange : G.mg "range" = none := L.txt.bn "range" (by decide +kernel)
  have gTuple : G.mg "tuple" = none := L.txt.bn "tuple" (by decide +kernel)
  refine ws_of (ps_for PassesOwn.never rfl (pi_range1 rfl gRange (pa_cons (pe_call (dvs := []) (E := fun _ _ _ => False) FR (hr.mono (by decide)) rfl mr kr br .nil passN (pa_cons (pv 0) (pa_cons pe_int pa_nil))) pa_nil)) (pg_name (i := 4) sc_law_right.nd rfl (Or.inl rfl))
    (pss_cons (ps_set (i := 5) sc_law_right.nd rfl (Or.inl rfl) (pe_lst pa_nil))
    (pss_cons (ps_for PassesOwn.never rfl (pi_range1 rfl gRange (pa_cons (pv 2) pa_nil)) (pg_name (i := 6) sc_law_right.nd rfl (Or.inl rfl))
      (pss_one (ps_expr (pe_bm PySem.F.plainAttrs_list PySem.F.slot_list_append PySem.F.type_list_append mt_append (pv 5)
        (pa_cons (pe_call (dvs := []) (E := fun _ _ _ => False) FF (hr.mono (by decide)) rfl mf kf bf .nil passN
          (pa_cons (pe_call (dvs := []) (E := fun _ _ _ => False) FP (hr.mono (by decide)) rfl mp kp bp .nil passN (pa_cons (pv 0) (pa_cons (pv 1) pa_nil)))
          (pa_cons (pe_call (dvs := []) (E := fun _ _ _ => False) FP (hr.mono (by decide)) rfl mp kp bp .nil passN (pa_cons (pv 0) (pa_cons (pe_lst (pa_cons pe_int (pa_cons pe_int (pa_cons pe_int (pa_cons pe_int (pa_cons pe_int (pa_cons (pe_op op_add (pe_op op_powC pe_int pe_int) pe_int) pa_nil))))))) pa_nil))) pa_nil))) pa_nil)))))
    (pss_one (ps_expr (pe_bm PySem.F.plainAttrs_list PySem.F.slot_list_append PySem.F.type_list_append mt_append (pv 3)
      (pa_cons (pe_callTy call_tuple_of rfl gTuple PyProof.Rows.Boot.tuple (pa_cons (pv 5) pa_nil)) pa_nil))))))) ?_
  obtain ⟨pS, pC, w, rfl, st, hw, atS, atC, nSC, newC, neC, neS⟩ := h
  have c0 : CS1 G T a H0 pS pC w [] H (k + 19) := ⟨st, hw, atS, ⟨[], atC, .nil⟩, nSC, newC, neC, neS, fun _ h => nomatch h⟩
  refine ⟨_, rfl, a, k + 18, 4, rfl, by decide, by decide, c0.st.dice, fun n H1 x1 d1 n0 n1 => ?_⟩
  have c1 := c0.roll x1 d1
  refine ⟨n, rfl, by omega, by omega, ?_⟩
  refine for_range (lo := 0) (n := n.toNat) (fun i σ H => ∃ (rs : List (List Q)) (o4 o5 o6 : Option V), σ = [some (.ref a), some (.ref pS), some (.int (w : Int)), some (.ref pC), o4, o5, o6] ++ List.replicate 11 none ∧ CS1 G T a H0 pS pC w rs H (k + 6 * (3 - i)) ∧ rs.length = i)
    ⟨[], none, none, none, rfl, c1, rfl⟩ ?_ (fun σ H ⟨rs, o4, o5, o6, e, c, hl⟩ => ⟨pS, pC, w, rs, o4, o5, o6, e, c.mono (by omega), by omega⟩)
  rintro i σ H hi ⟨rs, o4, o5, o6, rfl, ci, hl⟩
  refine ⟨nil_size, fun pR nR => ?_⟩
  have neR := ci.st.ne nR
  have newR := ci.st.new nR
  have nRS : pR ≠ pS := fun z => by rw [z, ci.atS] at nR; cases nR
  have nRC : pR ≠ pC := fun z => by
    obtain ⟨_, q, _⟩ := ci.crs
    rw [z, q] at nR
    cases nR
  have cj := ci.same (upd_same_of (o := .lst []) nR)
  refine ⟨_, rfl, w, rfl, by omega, by omega, ?_⟩
  have hwN : ((w : Nat) : Int).toNat = w := rfl
  refine for_range (lo := 0) (n := ((w : Nat) : Int).toNat) (fun j σ H => ∃ (r : List Q) (us : List V) (o6 : Option V), σ = [some (.ref a), some (.ref pS), some (.int (w : Int)), some (.ref pC), some (.int (0 + (i : Int))), some (.ref pR), o6] ++ List.replicate 11 none ∧ CS1 G T a H0 pS pC w rs H (k + 6 * (2 - i) + 2 * (3 - j)) ∧ H pR = some (.lst us) ∧ DpAll G.K H us (r.map numD) ∧ r.length = j ∧ ∀ q ∈ r, QOk q)
    ⟨[], [], o6, rfl, cj.mono (by omega), upd_same, .nil, rfl, fun _ h => nomatch h⟩ ?_ ?_
  · rintro j σ H hj ⟨r, us, o6, rfl, cj, hR, hu, hlr, hq⟩
    refine ⟨_, rfl, .inl ⟨rfl, _, SqL.of hR⟩, ?_⟩
    refine ⟨_, rfl, _, rfl, a, pS, k + 6 * (2 - i) + 2 * (3 - j) - 1, _, rfl, cj.atS, neS, by decide, by decide, cj.st.dice.mono (by omega), fun x hx H2 x2 d2 => ?_⟩
    obtain ⟨t, ht, rfl⟩ := List.mem_map.mp hx
    have c2 := cj.roll x2 d2
    have hR2 := x2 _ _ neR hR
    have hu2 := dpa_nl (cj.st.nlRoll x2) (noListAll_of (f := numD) (fun _ => rfl) r) hu
    refine ⟨_, rfl, 10, 30, rfl, rfl, ⟨by decide, by decide, by decide⟩, _, 3, rfl, rfl, six_size, fun p2 n2 => ?_⟩
    have c3 := c2.same (upd_same_of (o := .lst (denA.map V.int)) n2)
    refine ⟨a, p2, k + 6 * (2 - i) + 2 * (3 - j) - 2, denA.map V.int, rfl, upd_same, c2.st.ne n2, by decide, by decide, c3.st.dice.mono (by omega), fun y hy H4 x4 d4 => ?_⟩
    obtain ⟨b, hb, rfl⟩ := List.mem_map.mp hy
    obtain ⟨b1, b2⟩ := denA_ok b hb
    have c4 := c3.roll x4 d4
    have hR3 : (upd H2 p2 (.lst (denA.map V.int))) pR = some (.lst us) := upd_same_of n2 _ _ hR2
    have hR4 := x4 _ _ neR hR3
    have hu4 := dpa_nl (c3.st.nlRoll x4) (noListAll_of (f := numD) (fun _ => rfl) r) (dpa_mono (upd_same_of n2) hu2)
    have t1 := some_ok t ht
    refine ⟨[.int t, .int b], numD (M81.fr t b), .cons (.int _) (.cons (.int _) .nil), ⟨t, b, b1, Nat.lt_trans t1 pow61, Nat.lt_trans b2 pow61, rfl, rfl⟩, fun v H5 s5 hv => ?_⟩
    have hR5 := s5 _ _ hR4
    refine ⟨pR, us, v, rfl, rfl, hR5, ?_, ?_⟩
    · have e1 := dpa_len hu4
      rw [List.length_map] at e1
      rw [sizeLine_eq]
      omega
    · refine ⟨r ++ [M81.fr t b], us ++ [v], some (.int (0 + (j : Int))), rfl, ((c4.same s5).put hR5 newR neR nRS nRC).mono (by omega), upd_same, ?_, by rw [List.length_append, hlr]; rfl, fun q hq' => ?_⟩
      · rw [List.map_append]
        exact dpa_app (dpa_nl (.put hR5) (noListAll_of (f := numD) (fun _ => rfl) r) (dpa_mono s5 hu4)) (.cons (dp_nl (.put hR5) rfl hv) .nil)
      · rcases List.mem_append.mp hq' with h | h
        · exact hq q h
        · simp at h
          subst h
          exact fr_ok t1 b2 b1
  · rintro σ H ⟨r, us, o6, rfl, cj, hR, hu, hlr, hq⟩
    obtain ⟨vs, hC, hv⟩ := cj.crs
    refine ⟨_, rfl, .inl ⟨rfl, _, SqL.of hC⟩, ?_⟩
    refine ⟨_, rfl, pR, us, rfl, .inl ⟨.inl (.inl hR), fun p nP => ?_⟩⟩
    have c5 := cj.same (upd_same_of (o := .tup us) nP)
    have hC5 : (upd H p (.tup us)) pC = some (.lst vs) := upd_same_of nP _ _ hC
    have hlv : vs.length ≤ 3 := by
      have e1 := dpa_len hv
      rw [List.length_map] at e1
      omega
    refine ⟨pC, vs, .ref p, rfl, rfl, hC5, by rw [sizeLine_eq]; omega, ?_⟩
    refine ⟨rs ++ [r], some (.int (0 + (i : Int))), some (.ref pR), o6, rfl, (c5.row hC5 (dpa_mono (upd_same_of nP) hv) (.tup (.inl (.inl upd_same)) (dpa_mono (upd_same_of nP) hu)) hlr hq).mono (by omega), by rw [List.length_append, hl]; rfl⟩
end

end K81
namespace K81
open PySem PySem.Spec PyProof.Rows L2 JL M81 SX
open TL (tl)
local macro_rules | `(tactic| walk_at "ev") => `(tactic| simp only [e_lit, e_var, e_glob, e_bin, e_neg, e_cmp, e_chain, e_and, e_or, e_not, e_ife, e_own, e_bi, e_isi, e_split, e_join, e_idx, e_slc, e_tup, e_lst, e_fstr, a_nil, a_cons, s_set, s_par, s_if, s_ret, s_drop, b_nil, b_cons, l_and, l_or, l_not, l_neg, l_if, l_ifO, l_lt, l_le, l_gt, l_ge, l_eqI, l_neI, l_chainI, l_inC, l_ninC, l_is, l_isn, l_lenL, l_lenT, l_abs, l_tupL, l_tupT, l_add, l_sub,
  l_isi_s, l_isi_t, isiD, l_seq_nx, l_seq_rt, l_itL, l_itT, l_itS, l_it0, l_it1, l_il0, l_il1, isNoneD, Tg.bind, Tg.wipe,
  Option.bind_some, Option.bind_none, Option.map_some, Option.map_none, List.getElem?_cons_zero, List.getElem?_cons_succ, List.getElem?_nil, Option.join_some, List.set_cons_zero, List.set_cons_succ, Bool.not_true, Bool.not_false, Bool.false_eq_true, if_true, if_false])

open LamX
structure CS2 (G : Gb) (T : List (Addr × Str)) (a : Addr) (H0 : Hp) (q : Q) (rs : List (List Q)) (vN vC : V) (H : Hp) (k : Nat) : Prop where
  st : RS T a H0 H k
  dN : Dp G.K H vN (numD q)
  dC : Dp G.K H vC (rowsD rs)
  hq : QOk q
  wid : ∃ w, w < 4 ∧ ∀ r ∈ rs, r.length = w ∧ ∀ q ∈ r, QOk q
  len : rs.length ≤ 3
theorem noRowsD (rs : List (List Q)) : noList (rowsD rs) = true := noListAll_of noList_row rs
section
variable {G : Gb} {T : List (Addr × Str)} {a p : Addr} {H0 H H1 : Hp} {k j : Nat} {q : Q} {rs : List (List Q)} {vN vC : V} {xs ys : List V}
theorem CS2.same (c : CS2 G T a H0 q rs vN vC H k) (s : Same H H1) : CS2 G T a H0 q rs vN vC H1 k := ⟨c.st.same s, dp_mono s c.dN, dp_mono s c.dC, c.hq, c.wid, c.len⟩
theorem CS2.mono (c : CS2 G T a H0 q rs vN vC H k) (h : j ≤ k) : CS2 G T a H0 q rs vN vC H j := ⟨c.st.mono h, c.dN, c.dC, c.hq, c.wid, c.len⟩
theorem CS2.roll (c : CS2 G T a H0 q rs vN vC H k) (x : ExtB a H H1) (d : DiceOk j a H1) : CS2 G T a H0 q rs vN vC H1 j := ⟨c.st.roll x d, dp_nl (c.st.nlRoll x) rfl c.dN, dp_nl (c.st.nlRoll x) (noRowsD rs) c.dC, c.hq, c.wid, c.len⟩
theorem CS2.put (c : CS2 G T a H0 q rs vN vC H k) (hp : H p = some (.lst xs)) (h0 : New H0 p) (hne : p ≠ a) : CS2 G T a H0 q rs vN vC (upd H p (.lst ys)) k := ⟨c.st.put hp h0 hne, dp_nl (.put hp) rfl c.dN, dp_nl (.put hp) (noRowsD rs) c.dC, c.hq, c.wid, c.len⟩
end
def denB : List Int := [1, 2, 6, 35]
theorem denB_ok : ∀ i ∈ denB, 1 ≤ i ∧ i.natAbs < 10 ^ 61 := by decide +kernel
theorem four_size : 4 ≤ sizeLine := by rw [sizeLine_eq]; decide
def Mid2 (G : Gb) (T : List (Addr × Str)) (a : Addr) (H0 : Hp) (k : Nat) : L2.St → Hp → Prop := fun σ H => ∃ (q : Q) (rs : List (List Q)) (vN vC : V) (o1 o2 o4 o5 o6 : Option V), σ = [some (.ref a), o1, o2, some vC, o4, o5, o6, some vN] ++ List.replicate 10 none ∧ CS2 G T a H0 q rs vN vC H k
def Mid3 (G : Gb) (T : List (Addr × Str)) (a : Addr) (H0 : Hp) (k : Nat) : L2.St → Hp → Prop := fun σ H => ∃ (q : Q) (rs : List (List Q)) (vN vC vR : V) (o1 o2 o4 o6 : Option V), σ = [some (.ref a), o1, o2, some vC, o4, some vR, o6, some vN] ++ List.replicate 10 none ∧ CS2 G T a H0 q rs vN vC H k ∧ Dp G.K H vR (rowD (rs.headD []))
def namesL : List (List Nat) := [[97], [99, 97, 108, 109], [115, 116, 111, 114, 109], [120, 46, 49], [110, 111, 110, 101], [110, 111, 116, 104, 105, 110, 103], [98, 50], [97, 98, 99, 100, 101, 102, 103, 104, 105, 106, 107, 108]]
theorem namesL_ok : ∀ s ∈ namesL, nameB s = true := by decide
theorem namesL_is : ([.str "a", .str "calm", .str "storm", .str "x.1", .str "none", .str "nothing", .str "b2", .str "abcdefghijkl"] : List V) = namesL.map fun s => V.str (S s) := by kernel_rfl
def Mid4 (G : Gb) (T : List (Addr × Str)) (a : Addr) (H0 : Hp) (k : Nat) : L2.St → Hp → Prop := fun σ H => ∃ (q : Q) (rs : List (List Q)) (vN vC vR : V) (pN : Addr) (o1 o2 o4 o6 : Option V), σ = [some (.ref a), o1, o2, some vC, o4, some vR, o6, some vN, some (.ref pN)] ++ List.replicate 9 none ∧ CS2 G T a H0 q rs vN vC H k ∧ Dp G.K H vR (rowD (rs.headD [])) ∧ H pN = some (.lst (namesL.map fun s => V.str (S s))) ∧ pN ≠ a
section
variable {G : Gb} {C fI : Addr} {f : Addr} {cdv : Value} {A : Around} {outer : List Env} {s : Shared} {H0 : Hp} {E : XK} {T : List (Addr × Str)} {a : Addr} {k : Nat} {D : Ends}
theorem ws2 (L : LT G C fI) (hr : Room 50 (A.deeper (envOfC "_law_right" (defScope s_law_right) s.heap.objs.size f cdv))) {σ : L2.St} {H : Hp} (h : Mid1 G T a H0 (k + 2) σ H) :
    WS (XR G f cdv A outer s H0 E) (rS 2) { D with nx := Mid2 G T a H0 k } σ H := by
  obtain ⟨fp, fdp, FP, mp, kp, bp⟩ := L.dice.pick
  obtain ⟨ff, fdf, FF, mf, kf, bf⟩ := L.fr
  have gTuple : G.mg "tuple" = none := L.txt.bn "tuple" (by decide +kernel)
  refine ws_of (ps_par (i := 7) (j := 3) rfl sc_law_right.nd rfl rfl (by decide) rfl rfl
    (pa_cons (pe_call (dvs := []) (E := fun _ _ _ => False) FF (hr.mono (by decide)) rfl mf kf bf .nil passN
          (pa_cons (pe_call (dvs := []) (E := fun _ _ _ => False) FP (hr.mono (by decide)) rfl mp kp bp .nil passN (pa_cons (pv 0) (pa_cons (pv 1) pa_nil)))
          (pa_cons (pe_call (dvs := []) (E := fun _ _ _ => False) FP (hr.mono (by decide)) rfl mp kp bp .nil passN (pa_cons (pv 0) (pa_cons (pe_lst (pa_cons pe_int (pa_cons pe_int (pa_cons pe_int (pa_cons pe_int pa_nil))))) pa_nil))) pa_nil)))
    (pa_cons (pe_callTy call_tuple_of rfl gTuple PyProof.Rows.Boot.tuple (pa_cons (pv 3) pa_nil)) pa_nil))
    (swapped_two rfl rfl rfl (by decide) rfl rfl rfl (fun _ _ z => nomatch z) (fun _ _ z => nomatch z))) ?_
  obtain ⟨pS, pC, w, rs, o4, o5, o6, rfl, c, hl⟩ := h
  refine ⟨_, rfl, _, rfl, a, pS, k + 1, _, rfl, c.atS, c.neS, by decide, by decide, c.st.dice, fun x hx H2 x2 d2 => ?_⟩
  obtain ⟨t, ht, rfl⟩ := List.mem_map.mp hx
  have c2 := c.roll x2 d2
  refine ⟨_, rfl, four_size, fun p2 n2 => ?_⟩
  have c3 := c2.same (upd_same_of (o := .lst (denB.map V.int)) n2)
  refine ⟨a, p2, k, denB.map V.int, rfl, upd_same, c2.st.ne n2, by decide, by decide, c3.st.dice, fun y hy H4 x4 d4 => ?_⟩
  obtain ⟨b, hb, rfl⟩ := List.mem_map.mp hy
  obtain ⟨b1, b2⟩ := denB_ok b hb
  have c4 := c3.roll x4 d4
  have t1 := some_ok t ht
  refine ⟨[.int t, .int b], numD (M81.fr t b), .cons (.int _) (.cons (.int _) .nil), ⟨t, b, b1, Nat.lt_trans t1 pow61, Nat.lt_trans b2 pow61, rfl, rfl⟩, fun v H5 s5 hv => ?_⟩
  have c5 := c4.same s5
  obtain ⟨vs, hC, hvs⟩ := c5.crs
  refine ⟨_, rfl, pC, vs, rfl, .inl ⟨.inl (.inl hC), fun p nP => ?_⟩⟩
  refine ⟨v, .ref p, rfl, M81.fr t b, rs, v, .ref p, some (.ref pS), some (.int (w : Int)), o4, o5, o6, rfl, ?_⟩
  have c6 := c5.same (upd_same_of (o := .tup vs) nP)
  exact ⟨c6.st, dp_mono (upd_same_of nP) hv, .tup (.inl (.inl upd_same)) (dpa_mono (upd_same_of nP) hvs), fr_ok t1 b2 b1, ⟨w, c.hw, c.wid⟩, hl⟩
theorem ws3 (L : LT G C fI) (hr : Room 50 (A.deeper (envOfC "_law_right" (defScope s_law_right) s.heap.objs.size f cdv))) {σ : L2.St} {H : Hp} (h : Mid2 G T a H0 k σ H) :
    WS (XR G f cdv A outer s H0 E) (rS 3) { D with nx := Mid3 G T a H0 k } σ H := by
  have c := ctxR (G := G) (outer := outer) (H0 := H0) (E := E) hr
  have hft : FtOk G 40 (ftOf T40) := ok40 L.txt
  refine ws_of (ps_set (i := 5) sc_law_right.nd rfl (Or.inl rfl) (pe_ev (ce := .ife (.cmp .NotEq (.var 3) (.tup [])) (.idx (.var 3) (.lit (.int 0))) (.tup [])) c hft L.txt.gv L.txt.bn (by kernel_rfl))) ?_
  obtain ⟨q, rs, vN, vC, o1, o2, o4, o5, o6, rfl, c2⟩ := h
  have e : evE (ftOf T40) gv (.ife (.cmp .NotEq (.var 3) (.tup [])) (.idx (.var 3) (.lit (.int 0))) (.tup [])) ([none, none, none, some (rowsD rs), none, none, none, some (numD q)] ++ List.replicate 10 none) = some (rowD (rs.headD [])) := by
    show evE _ _ _ (none :: none :: none :: some (rowsD rs) :: _) = _
    unfold rowsD
    walk_at "ev"
    rw [if_pos (show ([] : List PyData).length ≤ 1000 by decide)]
    walk_at "ev"
    rw [l_ne ((lay_rows rs).shaped (by decide)) shaped_nil, eqv_nil]
    walk_at "ev"
    cases rs with
    | nil => rfl
    | cons r rr =>
      rw [decide_eq_false (by simp)]
      walk_at "ev"
      rw [List.map_cons]
      exact l_it0 _ _
  refine ⟨_, _, .conN (.conN (.conN (.conS c2.dC (.conN (.conN (.conN (.conS c2.dN (envN rfl)))))))), e, fun v H1 s1 hv => ?_⟩
  exact ⟨q, rs, vN, vC, v, o1, o2, o4, o6, rfl, c2.same s1, hv⟩
theorem ws4 (L : LT G C fI) (hr : Room 50 (A.deeper (envOfC "_law_right" (defScope s_law_right) s.heap.objs.size f cdv))) {σ : L2.St} {H : Hp} (h : Mid3 G T a H0 k σ H) :
    WS (XR G f cdv A outer s H0 E) (rS 4) { D with nx := Mid4 G T a H0 k } σ H := by
  refine ws_of (ps_set (i := 8) sc_law_right.nd rfl (Or.inr rfl) (pe_lst (pa_cons pe_str (pa_cons pe_str (pa_cons pe_str (pa_cons pe_str (pa_cons pe_str (pa_cons pe_str (pa_cons pe_str (pa_cons pe_str pa_nil)))))))))) ?_
  obtain ⟨q, rs, vN, vC, vR, o1, o2, o4, o6, rfl, c2, hR⟩ := h
  refine ⟨eight_size, fun p nP => ?_⟩
  rw [namesL_is]
  exact ⟨q, rs, vN, vC, vR, p, o1, o2, o4, o6, rfl, c2.same (upd_same_of nP), dp_mono (upd_same_of nP) hR, upd_same, c2.st.ne nP⟩
end

end K81
namespace K81
open PySem PySem.Spec PyProof.Rows L2 JL M81 SX
open TL (tl)
local macro_rules | `(tactic| walk_at "ev") => `(tactic| simp only [e_lit, e_var, e_glob, e_bin, e_neg, e_cmp, e_chain, e_and, e_or, e_not, e_ife, e_own, e_bi, e_isi, e_split, e_join, e_idx, e_slc, e_tup, e_lst, e_fstr, a_nil, a_cons, s_set, s_par, s_if, s_ret, s_drop, b_nil, b_cons, l_and, l_or, l_not, l_neg, l_if, l_ifO, l_lt, l_le, l_gt, l_ge, l_eqI, l_neI, l_chainI, l_inC, l_ninC, l_is, l_isn, l_lenL, l_lenT, l_abs, l_tupL, l_tupT, l_add, l_sub,
  l_isi_s, l_isi_t, isiD, l_seq_nx, l_seq_rt, l_itL, l_itT, l_itS, l_it0, l_it1, l_il0, l_il1, isNoneD, Tg.bind, Tg.wipe,
  Option.bind_some, Option.bind_none, Option.map_some, Option.map_none, List.getElem?_cons_zero, List.getElem?_cons_succ, List.getElem?_nil, Option.join_some, List.set_cons_zero, List.set_cons_succ, Bool.not_true, Bool.not_false, Bool.false_eq_true, if_true, if_false])

open LamX
def Mid5 (G : Gb) (T : List (Addr × Str)) (a : Addr) (H0 : Hp) (fin : Bool) (k : Nat) : L2.St → Hp → Prop := fun σ H => ∃ (q : Q) (rs : List (List Q)) (ns : List (List Nat)) (vN vC vR vS : V) (o1 o2 o4 o6 o8 : Option V), σ = [some (.ref a), o1, o2, some vC, o4, some vR, o6, some vN, o8, some vS] ++ List.replicate 8 none ∧ CS2 G T a H0 q rs vN vC H k ∧ Dp G.K H vR (rowD (rs.headD [])) ∧ Dp G.K H vS (spellD ns) ∧ (∀ n ∈ ns, nameB n = true) ∧ ns.length ≤ 5 ∧ (fin = true → ns ≠ [noneL])
section
variable {G : Gb} {C fI : Addr} {f : Addr} {cdv : Value} {A : Around} {outer : List Env} {s : Shared} {H0 : Hp} {E : XK} {T : List (Addr × Str)} {a : Addr} {k : Nat} {D : Ends}
theorem ws5 (L : LT G C fI) (hr : Room 50 (A.deeper (envOfC "_law_right" (defScope s_law_right) s.heap.objs.size f cdv))) {σ : L2.St} {H : Hp} (h : Mid4 G T a H0 (k + 6) σ H) :
    WS (XR G f cdv A outer s H0 E) (rS 5) { D with nx := Mid5 G T a H0 false k } σ H := by
  obtain ⟨fr, fdr, FR, mr, kr, br⟩ := L.dice.roll
  obtain ⟨fp, fdp, FP, mp, kp, bp⟩ := L.dice.pick
  have gRange : G.mg "range" = none := L.txt.bn "range" (by decide +kernel)
  have gTuple : G.mg "tuple" = none := L.txt.bn "tuple" (by decide +kernel)
  refine ws_of (ps_set (i := 9) sc_law_right.nd rfl (Or.inl rfl) (pe_callTy call_tuple_of rfl gTuple PyProof.Rows.Boot.tuple (pa_cons
    (pe_lc (own := [("turn", 4)]) rfl sc_law_right.nd (pi_range1 rfl gRange (pa_cons (pe_call (dvs := []) (E := fun _ _ _ => False) FR (hr.mono (by decide)) rfl mr kr br .nil passN (pa_cons (pv 0) (pa_cons pe_int pa_nil))) pa_nil))
      (show BlkOk NR (defScope s_law_right) _ _ from blkOk_by (by decide +kernel)) (fun s H C cl fp => pg_name (i := 4) sc_law_right.nd rfl (Or.inl rfl)) (fun s H C cl fp => pts_nil)
      (fun s H C cl fp => pe_call (dvs := []) (E := fun _ _ _ => False) FP (hr.mono (by decide)) rfl mp kp bp .nil passN (pa_cons (pv 0) (pa_cons (pv 8) pa_nil)))) pa_nil))) ?_
  obtain ⟨q, rs, vN, vC, vR, pN, o1, o2, o4, o6, rfl, c2, hR, hN, neN⟩ := h
  refine ⟨_, rfl, a, k + 5, 5, rfl, by decide, by decide, c2.st.dice, fun n H1 x1 d1 n0 n1 => ?_⟩
  have c3 := c2.roll x1 d1
  have hN1 := x1 _ _ neN hN
  have hR1 := dp_nl (c2.st.nlRoll x1) (noList_row _) hR
  refine ⟨n, rfl, by omega, by omega, fun Dd nD => ?_⟩
  have s2 := upd_same_of (o := .lst []) nD
  have neD := c3.st.ne nD
  have newD := c3.st.new nD
  have nDN : Dd ≠ pN := fun z => by rw [z, hN1] at nD; cases nD
  refine lc_range (lo := 0) (n := n.toNat) (fun i H => ∃ ns : List (List Nat), H Dd = some (.lst (ns.map fun s => V.str (S s))) ∧ (∀ x ∈ ns, nameB x = true) ∧ ns.length = i ∧ CS2 G T a H0 q rs vN vC H (k + (5 - i)) ∧ Dp G.K H vR (rowD (rs.headD [])) ∧ H pN = some (.lst (namesL.map fun s => V.str (S s))))
    ⟨[], upd_same, (fun _ h => nomatch h), rfl, c3.same s2, dp_mono s2 hR1, s2 _ _ hN1⟩ ?_ ?_
  · rintro i H hi ⟨ns, hD, hn, hl, c4, hR4, hN4⟩
    refine ⟨rfl, ?_⟩
    refine ⟨_, rfl, _, rfl, a, pN, k + (5 - i) - 1, _, rfl, hN4, neN, by decide, by decide, c4.st.dice.mono (by omega), fun x hx H5 x5 d5 => ?_⟩
    obtain ⟨y, hy, rfl⟩ := List.mem_map.mp hx
    have c5 := c4.roll x5 d5
    have hD5 := x5 _ _ neD hD
    have hN5 := x5 _ _ neN hN4
    have hR5 := dp_nl (c4.st.nlRoll x5) (noList_row _) hR4
    refine ⟨_, hD5, by rw [List.length_map, sizeLine_eq]; omega, ns ++ [y], by rw [upd_same, List.map_append]; rfl, fun z hz => ?_, by rw [List.length_append, hl]; rfl, (c5.put hD5 newD neD).mono (by omega), dp_nl (.put hD5) (noList_row _) hR5, by rw [upd_ne (Ne.symm nDN)]; exact hN5⟩
    rcases List.mem_append.mp hz with h | h
    · exact hn z h
    · simp at h
      subst h
      exact namesL_ok _ hy
  · rintro H ⟨ns, hD, hn, hl, c4, hR4, hN4⟩
    refine ⟨Dd, _, rfl, .inl ⟨.inl (.inl hD), fun p nP => ?_⟩⟩
    have s6 := upd_same_of (o := .tup (ns.map fun s => V.str (S s))) nP
    refine ⟨q, rs, ns, vN, vC, vR, .ref p, o1, o2, o4, o6, some (.ref pN), rfl, (c4.same s6).mono (by omega), dp_mono s6 hR4, ?_, hn, by omega, fun z => by cases z⟩
    unfold spellD
    refine .tup (.inl (.inl upd_same)) ?_
    have := dpa_strs (K := G.K) (H := upd H p (.tup (ns.map fun s => V.str (S s)))) (ns.map S)
    rw [List.map_map, List.map_map] at this
    exact this
theorem ws6 (L : LT G C fI) (hr : Room 50 (A.deeper (envOfC "_law_right" (defScope s_law_right) s.heap.objs.size f cdv))) {σ : L2.St} {H : Hp} (h : Mid5 G T a H0 false k σ H) :
    WS (XR G f cdv A outer s H0 E) (rS 6) { D with nx := Mid5 G T a H0 true k } σ H := by
  have c := ctxR (G := G) (outer := outer) (H0 := H0) (E := E) hr
  have hft : FtOk G 40 (ftOf T40) := ok40 L.txt
  refine ws_of (ps_set (i := 9) sc_law_right.nd rfl (Or.inl rfl) (pe_ev (ce := .ife (.cmp .NotEq (.var 9) (.tup [.lit (.str "none")])) (.var 9) (.tup [])) c hft L.txt.gv L.txt.bn (by kernel_rfl))) ?_
  obtain ⟨q, rs, ns, vN, vC, vR, vS, o1, o2, o4, o6, o8, rfl, c2, hR, hS, hn, hl, _⟩ := h
  have e : evE (ftOf T40) gv (.ife (.cmp .NotEq (.var 9) (.tup [.lit (.str "none")])) (.var 9) (.tup [])) ([none, none, none, none, none, none, none, none, none, some (spellD ns)] ++ List.replicate 8 none) = some (spellD (if ns = [noneL] then [] else ns)) := by
    show evE _ _ _ (none :: none :: none :: none :: none :: none :: none :: none :: none :: some (spellD ns) :: _) = _
    walk_at "ev"
    rw [if_pos (one1000 _), none_S, if_pos (show ([] : List PyData).length ≤ 1000 by decide)]
    walk_at "ev"
    rw [l_ne (show SeqAt.shaped (spellD ns) = true from (lay_spell fun n hn' => name_asc (hn n hn')).shaped (by decide)) (by decide +kernel)]
    have he : PyData.eqv (spellD ns) (.tuple [.str (S noneL)]) = decide (ns = [noneL]) := eqv_spell1
    rw [he]
    walk_at "ev"
    by_cases hx : ns = [noneL]
    · rw [decide_eq_true hx, if_pos hx]
      rfl
    · rw [decide_eq_false hx, if_neg hx]
      rfl
  refine ⟨_, _, .conN (.conN (.conN (.conN (.conN (.conN (.conN (.conN (.conN (.conS hS (envN rfl)))))))))), e, fun v H1 s1 hv => ?_⟩
  refine ⟨q, rs, _, vN, vC, vR, v, o1, o2, o4, o6, o8, rfl, c2.same s1, dp_mono s1 hR, hv, fun n hn' => ?_, ?_, fun _ => ?_⟩
  · split at hn'
    · cases hn'
    · exact hn n hn'
  · split
    · exact Nat.zero_le _
    · exact hl
  · split
    · intro z; cases z
    · assumption
end

end K81
namespace K81
open PySem PySem.Spec PyProof.Rows L2 JL M81 SX
open TL (tl)
local macro_rules | `(tactic| walk_at "ev") => `(tactic| simp only [e_lit, e_var, e_glob, e_bin, e_neg, e_cmp, e_chain, e_and, e_or, e_not, e_ife, e_own, e_bi, e_isi, e_split, e_join, e_idx, e_slc, e_tup, e_lst, e_fstr, a_nil, a_cons, s_set, s_par, s_if, s_ret, s_drop, b_nil, b_cons, l_and, l_or, l_not, l_neg, l_if, l_ifO, l_lt, l_le, l_gt, l_ge, l_eqI, l_neI, l_chainI, l_inC, l_ninC, l_is, l_isn, l_lenL, l_lenT, l_abs, l_tupL, l_tupT, l_add, l_sub,
  l_isi_s, l_isi_t, isiD, l_seq_nx, l_seq_rt, l_itL, l_itT, l_itS, l_it0, l_it1, l_il0, l_il1, isNoneD, Tg.bind, Tg.wipe,
  Option.bind_some, Option.bind_none, Option.map_some, Option.map_none, List.getElem?_cons_zero, List.getElem?_cons_succ, List.getElem?_nil, Option.join_some, List.set_cons_zero, List.set_cons_succ, Bool.not_true, Bool.not_false, Bool.false_eq_true, if_true, if_false])

open LamX
structure CS3 (G : Gb) (T : List (Addr × Str)) (a : Addr) (H0 : Hp) (q : Q) (rs : List (List Q)) (ns : List (List Nat)) (vN vC vR vS : V) (H : Hp) (k : Nat) : Prop where
  c2 : CS2 G T a H0 q rs vN vC H k
  dR : Dp G.K H vR (rowD (rs.headD []))
  dS : Dp G.K H vS (spellD ns)
  hn : ∀ n ∈ ns, nameB n = true
  hl : ns.length ≤ 5
  h1 : ns ≠ [noneL]
theorem CS3.same {G : Gb} {T : List (Addr × Str)} {a : Addr} {H0 H H1 : Hp} {q : Q} {rs : List (List Q)} {ns : List (List Nat)} {vN vC vR vS : V} {k : Nat} (c : CS3 G T a H0 q rs ns vN vC vR vS H k) (s : Same H H1) : CS3 G T a H0 q rs ns vN vC vR vS H1 k := ⟨c.c2.same s, dp_mono s c.dR, dp_mono s c.dS, c.hn, c.hl, c.h1⟩
/-! ### the texts -/
theorem numText_62 {q : Q} (h : QOk q) : (numText q).length ≤ 125 := numText_len (k := 61) (by decide) h.2.1 h.2.2
theorem intL_db {i : Int} (h : i.natAbs < 10 ^ 61) : DB 62 (intL i) := DB.of_len (intL_len (k := 61) (by decide) h)
theorem numText_db {q : Q} (h : QOk q) : DB 62 (numText q) := by
  unfold numText
  split
  · exact intL_db h.2.1
  · exact DB.sep (intL_db h.2.1) (intL_db h.2.2) (by decide)
def RowS (r : List Q) : Prop := r.length ≤ 3 ∧ ∀ q ∈ r, QOk q
theorem RowS.ok {r : List Q} (h : RowS r) : RowOk r := ⟨fun q hq => (h.2 q hq).small, by have := h.1; omega⟩
theorem rowText_400 {r : List Q} (h : RowS r) : (rowText r).length ≤ 400 := by
  unfold rowText
  split
  · decide
  · have a := joinL_len [32] (r.map numText)
    have b : ((r.map numText).map (·.length)).sum ≤ r.length * 125 := by
      rw [List.map_map]
      exact sum_le fun q hq => numText_62 (h.2 q hq)
    have c := h.1
    have e : r.length * 125 ≤ 3 * 125 := Nat.mul_le_mul_right _ c
    rw [List.length_map] at a
    simp only [List.length_cons, List.length_nil] at a
    omega
theorem rowText_db {r : List Q} (h : RowS r) : DB 62 (rowText r) := by
  unfold rowText
  split
  · exact DB.of_len (by decide)
  · exact DB.join (c := 32) (s := []) (by decide) (DB.of_len (by decide)) fun p hp => by
      obtain ⟨q, hq, rfl⟩ := List.mem_map.mp hp
      exact numText_db (h.2 q hq)
structure RowsS (rs : List (List Q)) : Prop where
  len : rs.length ≤ 3
  row : ∀ r ∈ rs, RowS r
theorem RowsS.ok {rs : List (List Q)} (h : RowsS rs) : RowsOk rs := ⟨fun r hr => (h.row r hr).ok, by have := h.len; omega⟩
theorem rowsText_1300 {rs : List (List Q)} {w : List Nat} (h : RowsS rs) (hw : w.length ≤ 10) : (rowsText rs w).length ≤ 1300 := by
  unfold rowsText
  split
  · omega
  · have a := joinL_len [44, 32] (rs.map rowText)
    have b : ((rs.map rowText).map (·.length)).sum ≤ rs.length * 400 := by
      rw [List.map_map]
      exact sum_le fun r hr => rowText_400 (h.row r hr)
    have c := h.len
    have e : rs.length * 400 ≤ 3 * 400 := Nat.mul_le_mul_right _ c
    rw [List.length_map] at a
    simp only [List.length_cons, List.length_nil] at a
    omega
theorem rowsText_db {rs : List (List Q)} {w : List Nat} (h : RowsS rs) (hw : w.length ≤ 10) : DB 62 (rowsText rs w) := by
  unfold rowsText
  split
  · exact DB.of_len (by omega)
  · exact DB.join (c := 44) (s := [32]) (by decide) (fun a m b e hm => by
      have hl := congrArg List.length e
      simp only [List.length_cons, List.length_nil, List.length_append] at hl
      cases m with
      | nil => exact Nat.le_refl 0
      | cons c r =>
        exfalso
        cases a with
        | nil =>
          simp only [List.nil_append, List.cons_append, List.cons.injEq] at e
          obtain ⟨rfl, _⟩ := e
          revert hm
          unfold allDig
          simp
        | cons x y => simp only [List.length_cons] at hl; omega) fun p hp => by
      obtain ⟨r, hr, rfl⟩ := List.mem_map.mp hp
      exact rowText_db (h.row r hr)
theorem rowText_chars {r : List Q} : ∀ c ∈ rowText r, c < 128 ∧ c ≠ 10 := by
  intro c hc
  unfold rowText at hc
  split at hc
  · revert hc
    unfold noneL
    simp
    omega
  · rcases joinL_mem hc with h | ⟨p, hp, h⟩
    · simp at h; omega
    · obtain ⟨q, _, rfl⟩ := List.mem_map.mp hp
      have := numText_chars q c h
      omega
theorem rowsText_chars {rs : List (List Q)} {w : List Nat} (hw : ∀ c ∈ w, c < 128 ∧ c ≠ 10) : ∀ c ∈ rowsText rs w, c < 128 ∧ c ≠ 10 := by
  intro c hc
  unfold rowsText at hc
  split at hc
  · exact hw c hc
  · rcases joinL_mem hc with h | ⟨p, hp, h⟩
    · simp at h; omega
    · obtain ⟨r, _, rfl⟩ := List.mem_map.mp hp
      exact rowText_chars c h
theorem numText_chars2 (q : Q) : ∀ c ∈ numText q, c < 128 ∧ c ≠ 10 := fun c hc => by have := numText_chars q c hc; omega
theorem name_chars {n : List Nat} (h : nameB n = true) : ∀ c ∈ n, c < 128 ∧ c ≠ 10 := fun c hc => by
  unfold nameB at h
  simp only [Bool.and_eq_true, List.all_eq_true] at h
  have := h.2 c hc
  unfold isSign isLet at this
  simp at this
  omega
theorem spellText_chars {ns : List (List Nat)} (h : ∀ n ∈ ns, nameB n = true) : ∀ c ∈ spellText ns, c < 128 ∧ c ≠ 10 := by
  intro c hc
  unfold spellText at hc
  split at hc
  · revert hc
    unfold noneL
    simp
    omega
  · rcases joinL_mem hc with h2 | ⟨p, hp, h2⟩
    · simp at h2; omega
    · exact name_chars (h p hp) c h2
theorem spellText_100 {ns : List (List Nat)} (h : ∀ n ∈ ns, nameB n = true) (hl : ns.length ≤ 5) : (spellText ns).length ≤ 100 := by
  unfold spellText
  split
  · decide
  · have a := joinL_len [32] ns
    have b : (ns.map (·.length)).sum ≤ ns.length * 12 := sum_le fun n hn => name_len (h n hn)
    simp only [List.length_cons, List.length_nil] at a
    omega
theorem good0_of {l : List Nat} (hc : ∀ c ∈ l, c < 128 ∧ c ≠ 10) (hl : l.length ≤ 1300) (hd : DB 200 l) : Good0 l := ⟨fun c h => (hc c h).1, by omega, hd⟩
theorem Good0.good {l : List Nat} (g : Good0 l) : Good l := ⟨g.asc, by have := g.len; omega, g.db.mono (by decide)⟩
theorem one_of {l : List Nat} (h : ∀ c ∈ l, c < 128 ∧ c ≠ 10) : many l = false := by
  unfold many
  rw [spl1 fun z => (h 10 z).2 rfl]
  rfl

end K81
namespace K81
open PySem PySem.Spec PyProof.Rows L2 JL M81 SX
open TL (tl)
local macro_rules | `(tactic| walk_at "ev") => `(tactic| simp only [e_lit, e_var, e_glob, e_bin, e_neg, e_cmp, e_chain, e_and, e_or, e_not, e_ife, e_own, e_bi, e_isi, e_split, e_join, e_idx, e_slc, e_tup, e_lst, e_fstr, a_nil, a_cons, s_set, s_par, s_if, s_ret, s_drop, b_nil, b_cons, l_and, l_or, l_not, l_neg, l_if, l_ifO, l_lt, l_le, l_gt, l_ge, l_eqI, l_neI, l_chainI, l_inC, l_ninC, l_is, l_isn, l_lenL, l_lenT, l_abs, l_tupL, l_tupT, l_add, l_sub,
  l_isi_s, l_isi_t, isiD, l_seq_nx, l_seq_rt, l_itL, l_itT, l_itS, l_it0, l_it1, l_il0, l_il1, isNoneD, Tg.bind, Tg.wipe,
  Option.bind_some, Option.bind_none, Option.map_some, Option.map_none, List.getElem?_cons_zero, List.getElem?_cons_succ, List.getElem?_nil, Option.join_some, List.set_cons_zero, List.set_cons_succ, Bool.not_true, Bool.not_false, Bool.false_eq_true, if_true, if_false])

open LamX
def toldL (q : Q) (rs : List (List Q)) (ns : List (List Nat)) : List (List Nat) := [numText q, rowText (rs.headD []), spellText ns, rowsText rs restL, rowsText rs nothingL]
theorem CS2.rowsS {G : Gb} {T : List (Addr × Str)} {a : Addr} {H0 H : Hp} {q : Q} {rs : List (List Q)} {vN vC : V} {k : Nat} (c : CS2 G T a H0 q rs vN vC H k) : RowsS rs := by
  obtain ⟨w, hw, h⟩ := c.wid
  exact ⟨c.len, fun r hr => ⟨by rw [(h r hr).1]; omega, (h r hr).2⟩⟩
theorem CS2.wide {G : Gb} {T : List (Addr × Str)} {a : Addr} {H0 H : Hp} {q : Q} {rs : List (List Q)} {vN vC : V} {k : Nat} (c : CS2 G T a H0 q rs vN vC H k) : wide rs = true := by
  obtain ⟨w, hw, h⟩ := c.wid
  unfold M81.wide
  refine List.all_eq_true.mpr fun r hr => decide_eq_true ?_
  cases rs with
  | nil => cases hr
  | cons r0 rr => exact (h r hr).1.trans (h r0 (List.mem_cons_self ..)).1.symm
theorem CS2.valid {G : Gb} {T : List (Addr × Str)} {a : Addr} {H0 H : Hp} {q : Q} {rs : List (List Q)} {vN vC : V} {k : Nat} (c : CS2 G T a H0 q rs vN vC H k) : ∀ r ∈ rs, ∀ q ∈ r, valid q = true := by
  obtain ⟨w, hw, h⟩ := c.wid
  exact fun r hr q hq => ((h r hr).2 q hq).1
theorem head_of {P : List Q → Prop} {rs : List (List Q)} (h0 : P []) (h : ∀ r ∈ rs, P r) : P (rs.headD []) := by
  cases rs with
  | nil => exact h0
  | cons r rr => exact h r (List.mem_cons_self ..)
theorem rowS_nil : RowS [] := ⟨by decide, fun _ h => nomatch h⟩
abbrev rho3 (q : Q) (rs : List (List Q)) (ns : List (List Nat)) : Rho := none :: none :: none :: some (rowsD rs) :: none :: some (rowD (rs.headD [])) :: none :: some (numD q) :: none :: some (spellD ns) :: List.replicate 8 none
def sig3 (a : Addr) (vN vC vR vS : V) (o1 o2 o4 o6 o8 o10 o11 o12 o13 : Option V) : L2.St := [some (.ref a), o1, o2, some vC, o4, some vR, o6, some vN, o8, some vS, o10, o11, o12, o13] ++ List.replicate 4 none
theorem CS3.env {G : Gb} {T : List (Addr × Str)} {a : Addr} {H0 H : Hp} {q : Q} {rs : List (List Q)} {ns : List (List Nat)} {vN vC vR vS : V} {k : Nat} (c : CS3 G T a H0 q rs ns vN vC vR vS H k) (o1 o2 o4 o6 o8 o10 o11 o12 o13 : Option V) : EnvD G.K H (sig3 a vN vC vR vS o1 o2 o4 o6 o8 o10 o11 o12 o13) (rho3 q rs ns) :=
  .conN (.conN (.conN (.conS c.c2.dC (.conN (.conS c.dR (.conN (.conS c.c2.dN (.conN (.conS c.dS (envN rfl))))))))))
def Mid7 (G : Gb) (T : List (Addr × Str)) (a : Addr) (H0 : Hp) (k : Nat) : L2.St → Hp → Prop := fun σ H => ∃ (q : Q) (rs : List (List Q)) (ns : List (List Nat)) (vN vC vR vS : V) (pT : Addr) (o1 o2 o4 o6 o8 : Option V), σ = sig3 a vN vC vR vS o1 o2 o4 o6 o8 (some (.ref pT)) none none none ∧ CS3 G T a H0 q rs ns vN vC vR vS H k ∧ H pT = some (.lst ((toldL q rs ns).map fun s => V.str (S s))) ∧ pT ≠ a
def Mid8 (G : Gb) (T : List (Addr × Str)) (a : Addr) (H0 : Hp) (k : Nat) : L2.St → Hp → Prop := fun σ H => ∃ (q : Q) (rs : List (List Q)) (ns : List (List Nat)) (vN vC vR vS : V) (pT pD : Addr) (o1 o2 o4 o6 o8 : Option V), σ = sig3 a vN vC vR vS o1 o2 o4 o6 o8 (some (.ref pT)) (some (.ref pD)) none none ∧ CS3 G T a H0 q rs ns vN vC vR vS H k ∧ H pT = some (.lst ((toldL q rs ns).map fun s => V.str (S s))) ∧ pT ≠ a ∧ H pD = some (.lst (((toldL q rs ns).take 4).map fun s => V.str (S s)))
def Mid9 (G : Gb) (T : List (Addr × Str)) (a : Addr) (H0 : Hp) (k : Nat) : L2.St → Hp → Prop := fun σ H => ∃ (q : Q) (rs : List (List Q)) (ns : List (List Nat)) (vN vC vR vS : V) (pT : Addr) (o1 o2 o4 o6 o8 o11 : Option V), σ = sig3 a vN vC vR vS o1 o2 o4 o6 o8 (some (.ref pT)) o11 none none ∧ CS3 G T a H0 q rs ns vN vC vR vS H k ∧ H pT = some (.lst ((toldL q rs ns).map fun s => V.str (S s))) ∧ pT ≠ a
theorem eqv_strs : ∀ l : List (List Nat), PyData.eqvAll (l.map strD) (l.map strD) = true
  | [] => rfl
  | s :: r => by
    show ((S s == S s) && PyData.eqvAll (r.map strD) (r.map strD)) = true
    rw [eqv_strs r, S_beq_eq, decide_eq_true rfl]
    rfl
theorem eqv_strL (l : List (List Nat)) : PyData.eqv (.list (l.map strD)) (.list (l.map strD)) = true := eqv_strs l
theorem dp_strL {K : PySem.W.Frag} {H : Hp} {p : Addr} {l : List (List Nat)} (h : H p = some (.lst (l.map fun s => V.str (S s)))) : Dp K H (.ref p) (.list (l.map strD)) := by
  refine .lst (.inl (.inl h)) ?_
  have := dpa_strs (K := K) (H := H) (l.map S)
  rw [List.map_map, List.map_map] at this
  exact this
section
variable {G : Gb} {C fI : Addr} {f : Addr} {cdv : Value} {A : Around} {outer : List Env} {s : Shared} {H0 : Hp} {E : XK} {T : List (Addr × Str)} {a : Addr} {k : Nat} {D : Ends}
theorem ws7 (L : LT G C fI) (hr : Room 50 (A.deeper (envOfC "_law_right" (defScope s_law_right) s.heap.objs.size f cdv))) {σ : L2.St} {H : Hp} (h : Mid5 G T a H0 true k σ H) :
    WS (XR G f cdv A outer s H0 E) (rS 7) { D with nx := Mid7 G T a H0 k } σ H := by
  have c := ctxR (G := G) (outer := outer) (H0 := H0) (E := E) hr
  have hft : FtOk G 40 (ftOf T40) := ok40 L.txt
  refine ws_of (ps_set (i := 10) sc_law_right.nd rfl (Or.inl rfl) (pe_lst (pa_cons (pe_ev (ce := .own "format_number" [.var 7]) c hft L.txt.gv L.txt.bn (by kernel_rfl)) (pa_cons (pe_ev (ce := .own "format_row" [.var 5]) c hft L.txt.gv L.txt.bn (by kernel_rfl)) (pa_cons (pe_ev (ce := .own "format_spell" [.var 9]) c hft L.txt.gv L.txt.bn (by kernel_rfl))
    (pa_cons (pe_ev (ce := .own "format_course" [.var 3]) c hft L.txt.gv L.txt.bn (by kernel_rfl)) (pa_cons (pe_ev (ce := .own "format_readings" [.var 3]) c hft L.txt.gv L.txt.bn (by kernel_rfl)) pa_nil))))))) ?_
  obtain ⟨q, rs, ns, vN, vC, vR, vS, o1, o2, o4, o6, o8, rfl, c2, hR, hS, hn, hl, h1⟩ := h
  have c3 : CS3 G T a H0 q rs ns vN vC vR vS H k := ⟨c2, hR, hS, hn, hl, h1 rfl⟩
  have rS_ := c2.rowsS
  have hh : RowS (rs.headD []) := head_of rowS_nil rS_.row
  have hall : (rs.all fun r => r.all valid) = true := List.all_eq_true.mpr fun r hr => List.all_eq_true.mpr fun q hq => c2.valid r hr q hq
  have e0 : evE (ftOf T40) gv (.own "format_number" [.var 7]) (rho3 q rs ns) = some (strD (numText q)) := by
    walk_at "ev"
    rw [ft_at (m := f_format_number) (by kernel_rfl), a_format_number q c2.hq.small c2.hq.1 (by have := numText_62 c2.hq; omega)]
  have e1 : evE (ftOf T40) gv (.own "format_row" [.var 5]) (rho3 q rs ns) = some (strD (rowText (rs.headD []))) := by
    walk_at "ev"
    rw [ft_at (m := f_format_row) (by kernel_rfl), a_format_row _ hh.ok (List.all_eq_true.mpr fun q hq => (hh.2 q hq).1) (by have := rowText_400 hh; omega)]
  have e2 : evE (ftOf T40) gv (.own "format_spell" [.var 9]) (rho3 q rs ns) = some (strD (spellText ns)) := by
    walk_at "ev"
    rw [ft_at (m := f_format_spell) (by kernel_rfl), a_format_spell ns hn (h1 rfl) (by omega) (by have := spellText_100 hn hl; omega)]
  have e3 : evE (ftOf T40) gv (.own "format_course" [.var 3]) (rho3 q rs ns) = some (strD (rowsText rs restL)) := by
    walk_at "ev"
    rw [ft_at (m := f_format_course) (by kernel_rfl), a_format_course rs rS_.ok hall c2.wide (by have := rowsText_1300 (w := restL) rS_ (by decide); omega)]
  have e4 : evE (ftOf T40) gv (.own "format_readings" [.var 3]) (rho3 q rs ns) = some (strD (rowsText rs nothingL)) := by
    walk_at "ev"
    rw [ft_at (m := f_format_readings) (by kernel_rfl), a_format_readings rs rS_.ok hall c2.wide (by have := rowsText_1300 (w := nothingL) rS_ (by decide); omega)]
  have hE := fun H c3 => CS3.env (H := H) (G := G) (T := T) (a := a) (H0 := H0) (q := q) (rs := rs) (ns := ns) (vN := vN) (vC := vC) (vR := vR) (vS := vS) (k := k) c3 o1 o2 o4 o6 o8 none none none none
  refine ⟨_, _, hE _ c3, e0, fun v0 H1 s1 hv0 => ⟨_, _, hE _ (c3.same s1), e1, fun v1 H2 s2 hv1 => ⟨_, _, hE _ ((c3.same s1).same s2), e2, fun v2 H3 s3 hv2 => ⟨_, _, hE _ (((c3.same s1).same s2).same s3), e3, fun v3 H4 s4 hv3 => ⟨_, _, hE _ ((((c3.same s1).same s2).same s3).same s4), e4, fun v4 H5 s5 hv4 => ?_⟩⟩⟩⟩⟩
  have hv0 := dp_str_inv hv0
  have hv1 := dp_str_inv hv1
  have hv2 := dp_str_inv hv2
  have hv3 := dp_str_inv hv3
  have hv4 := dp_str_inv hv4
  subst hv0 hv1 hv2 hv3 hv4
  have c8 := ((((c3.same s1).same s2).same s3).same s4).same s5
  refine ⟨five_size, fun p nP => ?_⟩
  exact ⟨q, rs, ns, vN, vC, vR, vS, p, o1, o2, o4, o6, o8, rfl, c8.same (upd_same_of nP), upd_same, c8.c2.st.ne nP⟩
end

end K81
namespace K81
open PySem PySem.Spec PyProof.Rows L2 JL M81 SX
open TL (tl)
local macro_rules | `(tactic| walk_at "ev") => `(tactic| simp only [e_lit, e_var, e_glob, e_bin, e_neg, e_cmp, e_chain, e_and, e_or, e_not, e_ife, e_own, e_bi, e_isi, e_split, e_join, e_idx, e_slc, e_tup, e_lst, e_fstr, a_nil, a_cons, s_set, s_par, s_if, s_ret, s_drop, b_nil, b_cons, l_and, l_or, l_not, l_neg, l_if, l_ifO, l_lt, l_le, l_gt, l_ge, l_eqI, l_neI, l_chainI, l_inC, l_ninC, l_is, l_isn, l_lenL, l_lenT, l_abs, l_tupL, l_tupT, l_add, l_sub,
  l_isi_s, l_isi_t, isiD, l_seq_nx, l_seq_rt, l_itL, l_itT, l_itS, l_it0, l_it1, l_il0, l_il1, isNoneD, Tg.bind, Tg.wipe,
  Option.bind_some, Option.bind_none, Option.map_some, Option.map_none, List.getElem?_cons_zero, List.getElem?_cons_succ, List.getElem?_nil, Option.join_some, List.set_cons_zero, List.set_cons_succ, Bool.not_true, Bool.not_false, Bool.false_eq_true, if_true, if_false])

open LamX
theorem one_sz : 1 ≤ sizeLine := by rw [sizeLine_eq]; decide
section
variable {G : Gb} {C fI : Addr} {f : Addr} {cdv : Value} {A : Around} {outer : List Env} {s : Shared} {H0 : Hp} {E : XK} {T : List (Addr × Str)} {a : Addr} {k : Nat} {D : Ends}
theorem ws8 (L : LT G C fI) (hr : Room 50 (A.deeper (envOfC "_law_right" (defScope s_law_right) s.heap.objs.size f cdv))) {σ : L2.St} {H : Hp} (h : Mid7 G T a H0 k σ H) :
    WS (XR G f cdv A outer s H0 E) (rS 8) { D with nx := Mid8 G T a H0 k } σ H := by
  have c := ctxR (G := G) (outer := outer) (H0 := H0) (E := E) hr
  have hft : FtOk G 40 (ftOf T40) := ok40 L.txt
  refine ws_of (ps_set (i := 11) sc_law_right.nd rfl (Or.inl rfl) (pe_lst (pa_cons (pe_ev (ce := .own "_law_number_text" [.var 7]) c hft L.txt.gv L.txt.bn (by kernel_rfl)) (pa_cons (pe_ev (ce := .own "_law_row_text" [.var 5]) c hft L.txt.gv L.txt.bn (by kernel_rfl)) (pa_cons (pe_ev (ce := .own "_law_spell_text" [.var 9]) c hft L.txt.gv L.txt.bn (by kernel_rfl))
    (pa_cons (pe_ev (ce := .own "_law_rows_text" [.var 3, .lit (.str "rest")]) c hft L.txt.gv L.txt.bn (by kernel_rfl)) pa_nil)))))) ?_
  obtain ⟨q, rs, ns, vN, vC, vR, vS, pT, o1, o2, o4, o6, o8, rfl, c3, hT, neT⟩ := h
  have rS_ := c3.c2.rowsS
  have hh : RowS (rs.headD []) := head_of rowS_nil rS_.row
  have e0 : evE (ftOf T40) gv (.own "_law_number_text" [.var 7]) (rho3 q rs ns) = some (strD (numText q)) := by
    walk_at "ev"
    rw [ft_at (m := f_law_number_text) (by kernel_rfl), a_law_number_text q c3.c2.hq.small]
  have e1 : evE (ftOf T40) gv (.own "_law_row_text" [.var 5]) (rho3 q rs ns) = some (strD (rowText (rs.headD []))) := by
    walk_at "ev"
    rw [ft_at (m := f_law_row_text) (by kernel_rfl), a_law_row_text _ hh.ok]
  have e2 : evE (ftOf T40) gv (.own "_law_spell_text" [.var 9]) (rho3 q rs ns) = some (strD (spellText ns)) := by
    walk_at "ev"
    rw [ft_at (m := f_law_spell_text) (by kernel_rfl), a_law_spell_text ns c3.hn (by have := c3.hl; omega)]
  have e3 : evE (ftOf T40) gv (.own "_law_rows_text" [.var 3, .lit (.str "rest")]) (rho3 q rs ns) = some (strD (rowsText rs restL)) := by
    walk_at "ev"
    rw [rest_S, ft_at (m := f_law_rows_text) (by kernel_rfl)]
    exact a_law_rows_text rs restL rS_.ok
  have hE := fun H c3 => CS3.env (H := H) (G := G) (T := T) (a := a) (H0 := H0) (q := q) (rs := rs) (ns := ns) (vN := vN) (vC := vC) (vR := vR) (vS := vS) (k := k) c3 o1 o2 o4 o6 o8 (some (.ref pT)) none none none
  refine ⟨_, _, hE _ c3, e0, fun v0 H1 s1 hv0 => ⟨_, _, hE _ (c3.same s1), e1, fun v1 H2 s2 hv1 => ⟨_, _, hE _ ((c3.same s1).same s2), e2, fun v2 H3 s3 hv2 => ⟨_, _, hE _ (((c3.same s1).same s2).same s3), e3, fun v3 H4 s4 hv3 => ?_⟩⟩⟩⟩
  have hv0 := dp_str_inv hv0
  have hv1 := dp_str_inv hv1
  have hv2 := dp_str_inv hv2
  have hv3 := dp_str_inv hv3
  subst hv0 hv1 hv2 hv3
  have sf := ((s1.trans s2).trans s3).trans s4
  refine ⟨four_size, fun p nP => ?_⟩
  have s5 := sf.trans (upd_same_of (o := .lst (((toldL q rs ns).take 4).map fun s => V.str (S s))) nP)
  exact ⟨q, rs, ns, vN, vC, vR, vS, pT, p, o1, o2, o4, o6, o8, rfl, c3.same s5, s5 _ _ hT, neT, upd_same⟩
theorem units_of {k : Nat} {A : Around} (h : Room k A) : A.units + 65 < cLine := by have := h.un; omega
theorem ws9 (L : LT G C fI) (hr : Room 50 (A.deeper (envOfC "_law_right" (defScope s_law_right) s.heap.objs.size f cdv))) {σ : L2.St} {H : Hp} (h : Mid8 G T a H0 k σ H) :
    WS (XR G f cdv A outer s H0 E) (rS 9) { D with nx := Mid9 G T a H0 k } σ H := by
  have c := ctxR (G := G) (outer := outer) (H0 := H0) (E := E) hr
  have hft : FtOk G 40 (ftOf T40) := ok40 L.txt
  refine ws_of (ps_if (pt_cmpR (op_cmpD (units_of hr) .NotEq) (pv 10) (pe_op op_cat (pv 11) (pe_lst (pa_cons (pe_ev (ce := .own "_law_rows_text" [.var 3, .lit (.str "nothing")]) c hft L.txt.gv L.txt.bn (by kernel_rfl)) pa_nil))) (nomark _)) (pss_one (ps_ret pe_bl)) pss_nil) ?_
  obtain ⟨q, rs, ns, vN, vC, vR, vS, pT, pD, o1, o2, o4, o6, o8, rfl, c3, hT, neT, hD⟩ := h
  have rS_ := c3.c2.rowsS
  have e3 : evE (ftOf T40) gv (.own "_law_rows_text" [.var 3, .lit (.str "nothing")]) (rho3 q rs ns) = some (strD (rowsText rs nothingL)) := by
    walk_at "ev"
    rw [noth_S, ft_at (m := f_law_rows_text) (by kernel_rfl)]
    exact a_law_rows_text rs nothingL rS_.ok
  refine ⟨_, rfl, _, rfl, _, _, c3.env o1 o2 o4 o6 o8 (some (.ref pT)) (some (.ref pD)) none none, e3, fun v1 H1 s1 hv1 => ?_⟩
  have hv1 := dp_str_inv hv1
  subst hv1
  refine ⟨one_sz, fun p nP => ?_⟩
  have hD1 := s1 _ _ hD
  have s2 := upd_same_of (o := .lst [.str (S (rowsText rs nothingL))]) nP
  have hD2 := s2 _ _ hD1
  refine ⟨pD, p, _, _, rfl, rfl, hD2, upd_same, five_size, fun p2 nP2 => ?_⟩
  have s3 := upd_same_of (o := .lst ((toldL q rs ns).map fun s => V.str (S s))) nP2
  have sf := (s1.trans s2).trans s3
  have hT3 := sf _ _ hT
  have sh : SeqAt.shaped (.list ((toldL q rs ns).map strD)) = true := (Lay.lst (k := 0) fun d hd => by
    obtain ⟨l, hl, rfl⟩ := List.mem_map.mp hd
    refine lay_str fun c hc => ?_
    simp only [toldL, List.mem_cons, List.not_mem_nil, or_false] at hl
    rcases hl with rfl | rfl | rfl | rfl | rfl
    · exact (numText_chars2 q c hc).1
    · exact (rowText_chars c hc).1
    · exact (spellText_chars c3.hn c hc).1
    · exact (rowsText_chars (w := restL) (by decide) c hc).1
    · exact (rowsText_chars (w := nothingL) (by decide) c hc).1).shaped (by decide)
  refine ⟨.list ((toldL q rs ns).map strD), .list ((toldL q rs ns).map strD), false, dp_strL hT3, dp_strL upd_same, ?_, false, rfl, ?_⟩
  · rw [l_ne sh sh, eqv_strL]
    rfl
  · exact ⟨q, rs, ns, vN, vC, vR, vS, pT, o1, o2, o4, o6, o8, some (.ref pD), rfl, c3.same sf, hT3, neT⟩
end

end K81
namespace K81
open PySem PySem.Spec PyProof.Rows L2 JL M81 SX
open TL (tl)
local macro_rules | `(tactic| walk_at "ev") => `(tactic| simp only [e_lit, e_var, e_glob, e_bin, e_neg, e_cmp, e_chain, e_and, e_or, e_not, e_ife, e_own, e_bi, e_isi, e_split, e_join, e_idx, e_slc, e_tup, e_lst, e_fstr, a_nil, a_cons, s_set, s_par, s_if, s_ret, s_drop, b_nil, b_cons, l_and, l_or, l_not, l_neg, l_if, l_ifO, l_lt, l_le, l_gt, l_ge, l_eqI, l_neI, l_chainI, l_inC, l_ninC, l_is, l_isn, l_lenL, l_lenT, l_abs, l_tupL, l_tupT, l_add, l_sub,
  l_isi_s, l_isi_t, isiD, l_seq_nx, l_seq_rt, l_itL, l_itT, l_itS, l_it0, l_it1, l_il0, l_il1, isNoneD, Tg.bind, Tg.wipe,
  Option.bind_some, Option.bind_none, Option.map_some, Option.map_none, List.getElem?_cons_zero, List.getElem?_cons_succ, List.getElem?_nil, Option.join_some, List.set_cons_zero, List.set_cons_succ, Bool.not_true, Bool.not_false, Bool.false_eq_true, if_true, if_false])

open LamX
theorem passF {X : Cx} {P : Program} {w : World} : Passes (L2.CX P w) X (fun _ _ _ => False) := fun _ _ _ _ _ _ _ z => by
  obtain ⟨_, _, _, _, _, _, _, _, _, _, _, _, z⟩ := z
  exact z.elim
theorem lineOut_of {K : PySem.W.Frag} {C : Addr} {m : List Nat → PyData} {l : List Nat} {H : Hp} {Q : VK} {E : XK} {d : PyData} (hm : m l = d) (h : many l = false) (hn : isNoneD d = false) (q : ∀ v H2, Same H H2 → Dp K H2 v d → Q v H2) : lineOut K C m l H Q E := by
  unfold lineOut
  rw [one_fst h, hm, hn, if_neg Bool.false_ne_true, h, if_neg Bool.false_ne_true]
  exact q
abbrev rho4 (q : Q) (rs : List (List Q)) (ns : List (List Nat)) : Rho := none :: none :: none :: some (rowsD rs) :: none :: some (rowD (rs.headD [])) :: none :: some (numD q) :: none :: some (spellD ns) :: some (.list ((toldL q rs ns).map strD)) :: List.replicate 7 none
theorem CS3.env4 {G : Gb} {T : List (Addr × Str)} {a pT : Addr} {H0 H : Hp} {q : Q} {rs : List (List Q)} {ns : List (List Nat)} {vN vC vR vS : V} {k : Nat} (c : CS3 G T a H0 q rs ns vN vC vR vS H k) (hT : H pT = some (.lst ((toldL q rs ns).map fun s => V.str (S s)))) (o1 o2 o4 o6 o8 o11 o12 o13 : Option V) : EnvD G.K H (sig3 a vN vC vR vS o1 o2 o4 o6 o8 (some (.ref pT)) o11 o12 o13) (rho4 q rs ns) :=
  .conN (.conN (.conN (.conS c.c2.dC (.conN (.conS c.dR (.conN (.conS c.c2.dN (.conN (.conS c.dS (.conS (dp_strL hT) (envN rfl)))))))))))
theorem told_good {G : Gb} {T : List (Addr × Str)} {a : Addr} {H0 H : Hp} {q : Q} {rs : List (List Q)} {ns : List (List Nat)} {vN vC vR vS : V} {k : Nat} (c : CS3 G T a H0 q rs ns vN vC vR vS H k) : ∀ l ∈ toldL q rs ns, Good0 l ∧ many l = false := by
  have rS_ := c.c2.rowsS
  have hh : RowS (rs.headD []) := head_of rowS_nil rS_.row
  intro l hl
  simp only [toldL, List.mem_cons, List.not_mem_nil, or_false] at hl
  rcases hl with rfl | rfl | rfl | rfl | rfl
  · exact ⟨good0_of (numText_chars2 q) (by have := numText_62 c.c2.hq; omega) ((numText_db c.c2.hq).mono (by decide)), one_of (numText_chars2 q)⟩
  · exact ⟨good0_of rowText_chars (by have := rowText_400 hh; omega) ((rowText_db hh).mono (by decide)), one_of rowText_chars⟩
  · exact ⟨good0_of (spellText_chars c.hn) (by have := spellText_100 c.hn c.hl; omega) (DB.of_len (by have := spellText_100 c.hn c.hl; omega)), one_of (spellText_chars c.hn)⟩
  · exact ⟨good0_of (rowsText_chars (by decide)) (rowsText_1300 rS_ (by decide)) ((rowsText_db rS_ (by decide)).mono (by decide)), one_of (rowsText_chars (by decide))⟩
  · exact ⟨good0_of (rowsText_chars (by decide)) (rowsText_1300 rS_ (by decide)) ((rowsText_db rS_ (by decide)).mono (by decide)), one_of (rowsText_chars (by decide))⟩
def Mid10 (G : Gb) (T : List (Addr × Str)) (a : Addr) (H0 : Hp) (k : Nat) : L2.St → Hp → Prop := fun σ H => ∃ (q : Q) (rs : List (List Q)) (ns : List (List Nat)) (vN vC vR vS : V) (pT pB : Addr) (o1 o2 o4 o6 o8 o11 : Option V) (v0 v1 v2 v3 : V), σ = sig3 a vN vC vR vS o1 o2 o4 o6 o8 (some (.ref pT)) o11 (some (.ref pB)) none ∧ CS3 G T a H0 q rs ns vN vC vR vS H k ∧ H pT = some (.lst ((toldL q rs ns).map fun s => V.str (S s))) ∧ pT ≠ a ∧
  H pB = some (.lst [v0, v1, v2, v3]) ∧ Dp G.K H v0 (numD q) ∧ Dp G.K H v1 (rowD (rs.headD [])) ∧ Dp G.K H v2 (spellD ns) ∧ Dp G.K H v3 (rowsD rs)
def Mid11 (G : Gb) (T : List (Addr × Str)) (a : Addr) (H0 : Hp) (k : Nat) : L2.St → Hp → Prop := fun σ H => ∃ (L : List (List Nat)) (pT : Addr) (o1 o2 o3 o4 o5 o6 o7 o8 o9 o11 o12 : Option V), σ = [some (.ref a), o1, o2, o3, o4, o5, o6, o7, o8, o9, some (.ref pT), o11, o12] ++ List.replicate 5 none ∧ RS T a H0 H k ∧ H pT = some (.lst (L.map fun s => V.str (S s))) ∧ pT ≠ a ∧ L.length = 5 ∧ ∀ l ∈ L, Good0 l
section
variable {G : Gb} {C fI : Addr} {f : Addr} {cdv : Value} {A : Around} {outer : List Env} {s : Shared} {H0 : Hp} {E : XK} {T : List (Addr × Str)} {a : Addr} {k : Nat} {D : Ends}
theorem ws10 (L : LT G C fI) (hr : Room 50 (A.deeper (envOfC "_law_right" (defScope s_law_right) s.heap.objs.size f cdv))) {σ : L2.St} {H : Hp} (h : Mid9 G T a H0 k σ H) :
    WS (XR G f cdv A outer s H0 E) (rS 10) { D with nx := Mid10 G T a H0 k } σ H := by
  have c := ctxR (G := G) (outer := outer) (H0 := H0) (E := E) hr
  have hft : FtOk G 40 (ftOf T40) := ok40 L.txt
  obtain ⟨fN, mN, PN⟩ := L.pN
  obtain ⟨fR, mR, PR⟩ := L.pR
  obtain ⟨fS, mS, PS_⟩ := L.pS
  obtain ⟨fC, mC, PC⟩ := L.pC
  obtain ⟨fdN, FN, kN, bN⟩ := PN.ex
  obtain ⟨fdR, FR, kR, bR⟩ := PR.ex
  obtain ⟨fdS, FS, kS, bS⟩ := PS_.ex
  obtain ⟨fdC, FC, kC, bC⟩ := PC.ex
  have hr2 := hr.mono (j := 42) (by decide)
  refine ws_of (ps_set (i := 12) sc_law_right.nd rfl (Or.inl rfl) (pe_lst
    (pa_cons (pe_call (dvs := []) FN hr2 rfl mN kN bN .nil passF (pa_cons (pe_ev (ce := .idx (.var 10) (.lit (.int 0))) c hft L.txt.gv L.txt.bn (by kernel_rfl)) pa_nil))
    (pa_cons (pe_call (dvs := []) FR hr2 rfl mR kR bR .nil passF (pa_cons (pe_ev (ce := .idx (.var 10) (.lit (.int 1))) c hft L.txt.gv L.txt.bn (by kernel_rfl)) pa_nil))
    (pa_cons (pe_call (dvs := []) FS hr2 rfl mS kS bS .nil passF (pa_cons (pe_ev (ce := .idx (.var 10) (.lit (.int 2))) c hft L.txt.gv L.txt.bn (by kernel_rfl)) pa_nil))
    (pa_cons (pe_call (dvs := []) FC hr2 rfl mC kC bC .nil passF (pa_cons (pe_ev (ce := .idx (.var 10) (.lit (.int 3))) c hft L.txt.gv L.txt.bn (by kernel_rfl)) pa_nil)) pa_nil)))))) ?_
  obtain ⟨q, rs, ns, vN, vC, vR, vS, pT, o1, o2, o4, o6, o8, o11, rfl, c3, hT, neT⟩ := h
  have tg := told_good c3
  have rS_ := c3.c2.rowsS
  have hh : RowS (rs.headD []) := head_of rowS_nil rS_.row
  have ei : ∀ (i : Nat) (l : List Nat), (toldL q rs ns)[i]? = some l → evE (ftOf T40) gv (.idx (.var 10) (.lit (.int (i : Int)))) (rho4 q rs ns) = some (strD l) := fun i l hl => by
    walk_at "ev"
    exact l_itemL (by rw [List.getElem?_map, hl]; rfl)
  have hE := fun H c3 hT => CS3.env4 (H := H) (G := G) (T := T) (a := a) (pT := pT) (H0 := H0) (q := q) (rs := rs) (ns := ns) (vN := vN) (vC := vC) (vR := vR) (vS := vS) (k := k) c3 hT o1 o2 o4 o6 o8 o11 none none
  refine ⟨_, _, hE _ c3 hT, ei 0 _ rfl, fun u0 H1 s1 hu0 => ?_⟩
  have hu0 := dp_str_inv hu0
  subst hu0
  refine ⟨_, rfl, (tg _ (by simp [toldL])).1.good, lineOut_of (d := numD q) (by show optQ (numIn (numText q)) = _; rw [numText_chk c3.c2.hq.1]; rfl) (tg _ (by simp [toldL])).2 rfl fun v0 H2 s2 hv0 => ?_⟩
  have t2 := s1.trans s2
  refine ⟨_, _, hE _ (c3.same t2) (t2 _ _ hT), ei 1 _ rfl, fun u1 H3 s3 hu1 => ?_⟩
  have hu1 := dp_str_inv hu1
  subst hu1
  refine ⟨_, rfl, (tg _ (by simp [toldL])).1.good, lineOut_of (d := rowD (rs.headD [])) (by show optR (rowIn (rowText (rs.headD []))) = _; rw [rowIn_text fun q hq => (hh.2 q hq).1]; rfl) (tg _ (by simp [toldL])).2 rfl fun v1 H4 s4 hv1 => ?_⟩
  have t4 := (t2.trans s3).trans s4
  refine ⟨_, _, hE _ (c3.same t4) (t4 _ _ hT), ei 2 _ rfl, fun u2 H5 s5 hu2 => ?_⟩
  have hu2 := dp_str_inv hu2
  subst hu2
  refine ⟨_, rfl, (tg _ (by simp [toldL])).1.good, lineOut_of (d := spellD ns) (by show optSp (spellIn (spellText ns)) = _; rw [spellIn_text c3.hn c3.h1]; rfl) (tg _ (by simp [toldL])).2 rfl fun v2 H6 s6 hv2 => ?_⟩
  have t6 := (t4.trans s5).trans s6
  refine ⟨_, _, hE _ (c3.same t6) (t6 _ _ hT), ei 3 _ rfl, fun u3 H7 s7 hu3 => ?_⟩
  have hu3 := dp_str_inv hu3
  subst hu3
  refine ⟨_, rfl, (tg _ (by simp [toldL])).1.good, lineOut_of (d := rowsD rs) (by show optRs (rowsIn (rowsText rs restL) restL) = _; rw [rowsIn_text (.inl rfl) c3.c2.valid c3.c2.wide]; rfl) (tg _ (by simp [toldL])).2 rfl fun v3 H8 s8 hv3 => ?_⟩
  have t8 := (t6.trans s7).trans s8
  refine ⟨four_size, fun p nP => ?_⟩
  have s9 := upd_same_of (o := .lst [v0, v1, v2, v3]) nP
  have b0 := dp_mono ((((((s3.trans s4).trans s5).trans s6).trans s7).trans s8).trans s9) hv0
  have b1 := dp_mono ((((s5.trans s6).trans s7).trans s8).trans s9) hv1
  have b2 := dp_mono ((s7.trans s8).trans s9) hv2
  have b3 := dp_mono s9 hv3
  exact ⟨q, rs, ns, vN, vC, vR, vS, pT, p, o1, o2, o4, o6, o8, o11, v0, v1, v2, v3, rfl, c3.same (t8.trans s9), (t8.trans s9) _ _ hT, neT, upd_same, b0, b1, b2, b3⟩
end

end K81
namespace K81
open PySem PySem.Spec PyProof.Rows L2 JL M81 SX
open TL (tl)
local macro_rules | `(tactic| walk_at "ev") => `(tactic| simp only [e_lit, e_var, e_glob, e_bin, e_neg, e_cmp, e_chain, e_and, e_or, e_not, e_ife, e_own, e_bi, e_isi, e_split, e_join, e_idx, e_slc, e_tup, e_lst, e_fstr, a_nil, a_cons, s_set, s_par, s_if, s_ret, s_drop, b_nil, b_cons, l_and, l_or, l_not, l_neg, l_if, l_ifO, l_lt, l_le, l_gt, l_ge, l_eqI, l_neI, l_chainI, l_inC, l_ninC, l_is, l_isn, l_lenL, l_lenT, l_abs, l_tupL, l_tupT, l_add, l_sub,
  l_isi_s, l_isi_t, isiD, l_seq_nx, l_seq_rt, l_itL, l_itT, l_itS, l_it0, l_it1, l_il0, l_il1, isNoneD, Tg.bind, Tg.wipe,
  Option.bind_some, Option.bind_none, Option.map_some, Option.map_none, List.getElem?_cons_zero, List.getElem?_cons_succ, List.getElem?_nil, Option.join_some, List.set_cons_zero, List.set_cons_succ, Bool.not_true, Bool.not_false, Bool.false_eq_true, if_true, if_false])

open LamX
theorem shw_five {ds : List PyData} (h : ∀ d ∈ ds, Shw 20000 10 d) (hl : ds.length ≤ 5) : Shw 16000000 20 (.list ds) := by
  have := Shw.lst (l := ds) (f := id) (g := fun _ => 20000) (k := 10) fun d hd => h d hd
  rw [List.map_id, sum_const] at this
  exact this.mono (by omega) (by decide)
theorem shw_rowS {r : List Q} (h : RowS r) : Shw 20000 10 (rowD r) := (shw_row fun q hq => (h.2 q hq).small).mono (by have := h.1; omega) (by decide)
theorem shw_rowsS {rs : List (List Q)} (h : RowsS rs) : Shw 20000 10 (rowsD rs) := by
  refine (shw_rows fun r hr q hq => ((h.row r hr).2 q hq).small).mono ?_ (by decide)
  have := sum_le (l := rs) (f := fun r : List Q => r.length * 1111 + 5) (k := 3338) fun r hr => by
    have := (h.row r hr).1
    show r.length * 1111 + 5 ≤ 3338
    omega
  have := h.len
  have : rs.length * 3338 ≤ 3 * 3338 := Nat.mul_le_mul_right _ h.len
  omega
section
variable {G : Gb} {C fI : Addr} {f : Addr} {cdv : Value} {A : Around} {outer : List Env} {s : Shared} {H0 : Hp} {E : XK} {T : List (Addr × Str)} {a : Addr} {k : Nat} {D : Ends}
theorem ws11 (L : LT G C fI) (hgd : A.guards = some []) (hr : Room 50 (A.deeper (envOfC "_law_right" (defScope s_law_right) s.heap.objs.size f cdv))) {σ : L2.St} {H : Hp} (h : Mid10 G T a H0 k σ H) :
    WS (XR G f cdv A outer s H0 E) (rS 11) { D with nx := Mid11 G T a H0 k } σ H := by
  have c := ctxR (G := G) (outer := outer) (H0 := H0) (E := E) hr
  have hft : FtOk G 40 (ftOf T40) := ok40 L.txt
  obtain ⟨fG, mG, PG_⟩ := L.pG
  obtain ⟨fdG, FG, kG, bG⟩ := PG_.ex
  have hr2 := hr.mono (j := 42) (by decide)
  have gRepr : G.mg "repr" = none := L.txt.bn "repr" (by decide +kernel)
  refine ws_of (ps_if (pt_cmpR op_ne
      (pe_callB (call_repr_D hgd (units_of hr)) rfl gRepr PyProof.Rows.Boot.repr (pa_cons (pe_op op_cat (pv 12) (pe_lst (pa_cons (pe_call (dvs := []) FG hr2 rfl mG kG bG .nil passF (pa_cons (pe_ev (ce := .idx (.var 10) (.lit (.int 4))) c hft L.txt.gv L.txt.bn (by kernel_rfl)) pa_nil)) pa_nil))) pa_nil))
      (pe_callB (call_repr_D hgd (units_of hr)) rfl gRepr PyProof.Rows.Boot.repr (pa_cons (pe_lst (pa_cons (pv 7) (pa_cons (pv 5) (pa_cons (pv 9) (pa_cons (pv 3) (pa_cons (pv 3) pa_nil)))))) pa_nil)) (nomark _)) (pss_one (ps_ret pe_bl)) pss_nil) ?_
  obtain ⟨q, rs, ns, vN, vC, vR, vS, pT, pB, o1, o2, o4, o6, o8, o11, v0, v1, v2, v3, rfl, c3, hT, neT, hB, b0, b1, b2, b3⟩ := h
  have tg := told_good c3
  have rS_ := c3.c2.rowsS
  have hh : RowS (rs.headD []) := head_of rowS_nil rS_.row
  have e4 : evE (ftOf T40) gv (.idx (.var 10) (.lit (.int 4))) (rho4 q rs ns) = some (strD (rowsText rs nothingL)) := by
    walk_at "ev"
    exact l_itemL (i := 4) rfl
  refine ⟨_, rfl, _, _, c3.env4 hT o1 o2 o4 o6 o8 o11 (some (.ref pB)) none, e4, fun u1 H1 s1 hu1 => ?_⟩
  have hu1 := dp_str_inv hu1
  subst hu1
  refine ⟨_, rfl, (tg _ (by simp [toldL])).1.good, lineOut_of (d := rowsD rs) (by show optRs (rowsIn (rowsText rs nothingL) nothingL) = _; rw [rowsIn_text (.inr rfl) c3.c2.valid c3.c2.wide]; rfl) (tg _ (by simp [toldL])).2 rfl fun v4 H2 s2 hv4 => ?_⟩
  have t2 := s1.trans s2
  refine ⟨one_sz, fun p nP => ?_⟩
  have s3 := upd_same_of (o := .lst [v4]) nP
  have hB3 := s3 _ _ (t2 _ _ hB)
  refine ⟨pB, p, _, _, rfl, rfl, hB3, upd_same, five_size, fun p2 nP2 => ?_⟩
  have s4 := upd_same_of (o := .lst [v0, v1, v2, v3, v4]) nP2
  have t4 := (t2.trans s3).trans s4
  let ds : List PyData := [numD q, rowD (rs.headD []), spellD ns, rowsD rs, rowsD rs]
  have sh : Shw 16000000 20 (.list [numD q, rowD (rs.headD []), spellD ns, rowsD rs, rowsD rs]) := shw_five (fun d hd => by
    simp only [List.mem_cons, List.not_mem_nil, or_false] at hd
    rcases hd with rfl | rfl | rfl | rfl | rfl
    · exact (shw_num c3.c2.hq.small).mono (by decide) (by decide)
    · exact shw_rowS hh
    · exact (shw_spell c3.hn).mono (by have := c3.hl; omega) (by decide)
    · exact shw_rowsS rS_
    · exact shw_rowsS rS_) (by show 5 ≤ 5; decide)
  refine ⟨.ref p2, .list [numD q, rowD (rs.headD []), spellD ns, rowsD rs, rowsD rs], _, rfl, .lst (.inl (.inl upd_same)) (.cons (dp_mono t4 b0) (.cons (dp_mono t4 b1) (.cons (dp_mono t4 b2) (.cons (dp_mono t4 b3) (.cons (dp_mono (s3.trans s4) hv4) .nil))))), .inr rfl, sh, ?_⟩
  have c5 := c3.same t4
  refine ⟨_, rfl, _, rfl, _, rfl, _, rfl, _, rfl, five_size, fun p3 nP3 => ?_⟩
  have s5 := upd_same_of (o := .lst [vN, vR, vS, vC, vC]) nP3
  have c6 := c5.same s5
  refine ⟨.ref p3, .list [numD q, rowD (rs.headD []), spellD ns, rowsD rs, rowsD rs], _, rfl, .lst (.inl (.inl upd_same)) (.cons c6.c2.dN (.cons c6.dR (.cons c6.dS (.cons c6.c2.dC (.cons c6.c2.dC .nil))))), .inr rfl, sh, ?_⟩
  refine ⟨rfl, false, by simp, ?_⟩
  · exact ⟨toldL q rs ns, pT, o1, o2, some vC, o4, some vR, o6, some vN, o8, some vS, o11, some (.ref pB), rfl, c6.c2.st, (t4.trans s5) _ _ hT, neT, rfl, fun l hl => (tg l hl).1⟩
end

end K81
namespace K81
open PySem PySem.Spec PyProof.Rows L2 JL M81 SX
open TL (tl)
local macro_rules | `(tactic| walk_at "ev") => `(tactic| simp only [e_lit, e_var, e_glob, e_bin, e_neg, e_cmp, e_chain, e_and, e_or, e_not, e_ife, e_own, e_bi, e_isi, e_split, e_join, e_idx, e_slc, e_tup, e_lst, e_fstr, a_nil, a_cons, s_set, s_par, s_if, s_ret, s_drop, b_nil, b_cons, l_and, l_or, l_not, l_neg, l_if, l_ifO, l_lt, l_le, l_gt, l_ge, l_eqI, l_neI, l_chainI, l_inC, l_ninC, l_is, l_isn, l_lenL, l_lenT, l_abs, l_tupL, l_tupT, l_add, l_sub,
  l_isi_s, l_isi_t, isiD, l_seq_nx, l_seq_rt, l_itL, l_itT, l_itS, l_it0, l_it1, l_il0, l_il1, isNoneD, Tg.bind, Tg.wipe,
  Option.bind_some, Option.bind_none, Option.map_some, Option.map_none, List.getElem?_cons_zero, List.getElem?_cons_succ, List.getElem?_nil, Option.join_some, List.set_cons_zero, List.set_cons_succ, Bool.not_true, Bool.not_false, Bool.false_eq_true, if_true, if_false])

open LamX
def CallOk (G : Gb) (C : Addr) (H : Hp) (v : V) : Prop := ∃ (p f g : Addr) (l : List Nat) (m : List Nat → PyData), v = .ref p ∧ H p = some (.tup [.ref f, .ref g, .str (S l)]) ∧ Pr G C f m ∧ Rd G 40 g m ∧ ShwM m ∧ Good0 l
theorem CallOk.nl {G : Gb} {C : Addr} {H H1 : Hp} {v : V} (h : CallOk G C H v) (s : NL H H1) : CallOk G C H1 v := by
  obtain ⟨p, f, g, l, m, h1, h2, h3⟩ := h
  exact ⟨p, f, g, l, m, h1, s _ _ (fun _ z => by cases z) (fun _ z => by cases z) h2, h3⟩
abbrev NewSt (a pT : Addr) (o1 o2 o3 o4 o5 o6 o7 o8 o9 o11 o12 o13 : Option V) : L2.St := [some (.ref a), o1, o2, o3, o4, o5, o6, o7, o8, o9, some (.ref pT), o11, o12, o13] ++ List.replicate 4 none
def Mid12 (G : Gb) (C : Addr) (T : List (Addr × Str)) (a : Addr) (H0 : Hp) (n : Nat) (k : Nat) : L2.St → Hp → Prop := fun σ H => ∃ (L : List (List Nat)) (pT pL : Addr) (vs : List V) (o1 o2 o3 o4 o5 o6 o7 o8 o9 o11 o12 : Option V), σ = NewSt a pT o1 o2 o3 o4 o5 o6 o7 o8 o9 o11 o12 (some (.ref pL)) ∧ RS T a H0 H k ∧ H pT = some (.lst (L.map fun s => V.str (S s))) ∧ pT ≠ a ∧ L.length = 5 ∧ (∀ l ∈ L, Good0 l) ∧
  H pL = some (.lst vs) ∧ vs.length = n ∧ (∀ v ∈ vs, CallOk G C H v) ∧ New H0 pL ∧ pL ≠ a ∧ pL ≠ pT
abbrev rhoT (L : List (List Nat)) : Rho := none :: none :: none :: none :: none :: none :: none :: none :: none :: none :: some (.list (L.map strD)) :: List.replicate 7 none
theorem envT {K : PySem.W.Frag} {H : Hp} {a pT : Addr} {L : List (List Nat)} (hT : H pT = some (.lst (L.map fun s => V.str (S s)))) (o1 o2 o3 o4 o5 o6 o7 o8 o9 o11 o12 o13 : Option V) : EnvD K H (NewSt a pT o1 o2 o3 o4 o5 o6 o7 o8 o9 o11 o12 o13) (rhoT L) :=
  .conN (.conN (.conN (.conN (.conN (.conN (.conN (.conN (.conN (.conN (.conS (dp_strL hT) (envN rfl)))))))))))
theorem evT {L : List (List Nat)} {i : Nat} {l : List Nat} (h : L[i]? = some l) : evE (ftOf T40) gv (.idx (.var 10) (.lit (.int (i : Int)))) (rhoT L) = some (strD l) := by
  walk_at "ev"
  exact l_itemL (by rw [List.getElem?_map, h]; rfl)
section
variable {G : Gb} {C fI : Addr} {f : Addr} {cdv : Value} {A : Around} {outer : List Env} {s : Shared} {H0 : Hp} {E : XK} {T : List (Addr × Str)} {a : Addr} {k : Nat} {D : Ends}
theorem ws12 (L : LT G C fI) (hr : Room 50 (A.deeper (envOfC "_law_right" (defScope s_law_right) s.heap.objs.size f cdv))) {σ : L2.St} {H : Hp} (h : Mid11 G T a H0 k σ H) :
    WS (XR G f cdv A outer s H0 E) (rS 12) { D with nx := Mid12 G C T a H0 2 k } σ H := by
  have c := ctxR (G := G) (outer := outer) (H0 := H0) (E := E) hr
  have hft : FtOk G 40 (ftOf T40) := ok40 L.txt
  obtain ⟨fN, mN, PN⟩ := L.pN
  obtain ⟨fR, mR, PR⟩ := L.pR
  obtain ⟨gN, nN, RN⟩ := L.rN
  obtain ⟨gR, nR, RR⟩ := L.rR
  refine ws_of (ps_set (i := 13) sc_law_right.nd rfl (Or.inl rfl) (pe_lst
    (pa_cons (pe_tup (pa_cons (pe_glob (v := .ref fN) rfl mN rfl) (pa_cons (pe_glob (v := .ref gN) rfl nN rfl) (pa_cons (pe_ev (ce := .idx (.var 10) (.lit (.int 0))) c hft L.txt.gv L.txt.bn (by kernel_rfl)) pa_nil))))
    (pa_cons (pe_tup (pa_cons (pe_glob (v := .ref fR) rfl mR rfl) (pa_cons (pe_glob (v := .ref gR) rfl nR rfl) (pa_cons (pe_ev (ce := .idx (.var 10) (.lit (.int 1))) c hft L.txt.gv L.txt.bn (by kernel_rfl)) pa_nil)))) pa_nil)))) ?_
  obtain ⟨Ls, pT, o1, o2, o3, o4, o5, o6, o7, o8, o9, o11, o12, rfl, st, hT, neT, hl, hg⟩ := h
  match Ls, hl with
  | [l0, l1, l2, l3, l4], _ =>
  refine ⟨_, _, envT hT o1 o2 o3 o4 o5 o6 o7 o8 o9 o11 o12 none, evT (i := 0) rfl, fun u0 H1 s1 hu0 => ?_⟩
  have hu0 := dp_str_inv hu0
  subst hu0
  refine ⟨three_size, fun p0 n0 => ?_⟩
  have s2 := upd_same_of (o := .tup [.ref fN, .ref gN, .str (S l0)]) n0
  have t2 := s1.trans s2
  refine ⟨_, _, envT (t2 _ _ hT) o1 o2 o3 o4 o5 o6 o7 o8 o9 o11 o12 none, evT (i := 1) rfl, fun u1 H3 s3 hu1 => ?_⟩
  have hu1 := dp_str_inv hu1
  subst hu1
  have a0 := s3 _ _ (upd_same : (upd H1 p0 (.tup [.ref fN, .ref gN, .str (S l0)])) p0 = _)
  refine ⟨three_size, fun p1 n1 => ?_⟩
  have s4 := upd_same_of (o := .tup [.ref fR, .ref gR, .str (S l1)]) n1
  have t4 := (t2.trans s3).trans s4
  refine ⟨two_size, fun pL nL => ?_⟩
  have s5 := upd_same_of (o := .lst [.ref p0, .ref p1]) nL
  have t5 := t4.trans s5
  have st4 := st.same t4
  refine ⟨_, pT, pL, [.ref p0, .ref p1], o1, o2, o3, o4, o5, o6, o7, o8, o9, o11, o12, rfl, st.same t5, t5 _ _ hT, neT, rfl, hg, upd_same, rfl, fun v hv => ?_, st4.new nL, st4.ne nL, fun z => by rw [z, t4 _ _ hT] at nL; cases nL⟩
  simp only [List.mem_cons, List.not_mem_nil, or_false] at hv
  rcases hv with rfl | rfl
  · exact ⟨p0, fN, gN, l0, _, rfl, s5 _ _ (s4 _ _ a0), PN, RN, shw_numM, hg _ (by simp)⟩
  · exact ⟨p1, fR, gR, l1, _, rfl, s5 _ _ upd_same, PR, RR, shw_rowM, hg _ (by simp)⟩
theorem ws13 (L : LT G C fI) (hr : Room 50 (A.deeper (envOfC "_law_right" (defScope s_law_right) s.heap.objs.size f cdv))) {σ : L2.St} {H : Hp} (h : Mid12 G C T a H0 2 k σ H) :
    WS (XR G f cdv A outer s H0 E) (rS 13) { D with nx := Mid12 G C T a H0 4 k } σ H := by
  have c := ctxR (G := G) (outer := outer) (H0 := H0) (E := E) hr
  have hft : FtOk G 40 (ftOf T40) := ok40 L.txt
  obtain ⟨fN, mN, PN⟩ := L.pS
  obtain ⟨fR, mR, PR⟩ := L.pC
  obtain ⟨gN, nN, RN⟩ := L.rS
  obtain ⟨gR, nR, RR⟩ := L.rC
  refine ws_of (ps_set (i := 13) sc_law_right.nd rfl (Or.inl rfl) (pe_op op_cat (pv 13) (pe_lst
    (pa_cons (pe_tup (pa_cons (pe_glob (v := .ref fN) rfl mN rfl) (pa_cons (pe_glob (v := .ref gN) rfl nN rfl) (pa_cons (pe_ev (ce := .idx (.var 10) (.lit (.int 2))) c hft L.txt.gv L.txt.bn (by kernel_rfl)) pa_nil))))
    (pa_cons (pe_tup (pa_cons (pe_glob (v := .ref fR) rfl mR rfl) (pa_cons (pe_glob (v := .ref gR) rfl nR rfl) (pa_cons (pe_ev (ce := .idx (.var 10) (.lit (.int 3))) c hft L.txt.gv L.txt.bn (by kernel_rfl)) pa_nil)))) pa_nil))))) ?_
  obtain ⟨Ls, pT, pK, vs, o1, o2, o3, o4, o5, o6, o7, o8, o9, o11, o12, rfl, st, hT, neT, hl, hg, hK, hvl, hv, newK, neK, neKT⟩ := h
  match Ls, hl with
  | [l0, l1, l2, l3, l4], _ =>
  refine ⟨_, rfl, _, _, envT hT o1 o2 o3 o4 o5 o6 o7 o8 o9 o11 o12 (some (.ref pK)), evT (i := 2) rfl, fun u0 H1 s1 hu0 => ?_⟩
  have hu0 := dp_str_inv hu0
  subst hu0
  refine ⟨three_size, fun p0 n0 => ?_⟩
  have s2 := upd_same_of (o := .tup [.ref fN, .ref gN, .str (S l2)]) n0
  have t2 := s1.trans s2
  refine ⟨_, _, envT (t2 _ _ hT) o1 o2 o3 o4 o5 o6 o7 o8 o9 o11 o12 (some (.ref pK)), evT (i := 3) rfl, fun u1 H3 s3 hu1 => ?_⟩
  have hu1 := dp_str_inv hu1
  subst hu1
  have a0 := s3 _ _ (upd_same : (upd H1 p0 (.tup [.ref fN, .ref gN, .str (S l2)])) p0 = _)
  refine ⟨three_size, fun p1 n1 => ?_⟩
  have s4 := upd_same_of (o := .tup [.ref fR, .ref gR, .str (S l3)]) n1
  have t4 := (t2.trans s3).trans s4
  refine ⟨two_size, fun pQ nQ => ?_⟩
  have s5 := upd_same_of (o := .lst [.ref p0, .ref p1]) nQ
  have t5 := t4.trans s5
  refine ⟨pK, pQ, vs, [.ref p0, .ref p1], rfl, rfl, t5 _ _ hK, upd_same, by rw [hvl]; exact four_size, fun pL nL => ?_⟩
  have s6 := upd_same_of (o := .lst (vs ++ [.ref p0, .ref p1])) nL
  have t6 := t5.trans s6
  have st5 := st.same t5
  refine ⟨_, pT, pL, vs ++ [.ref p0, .ref p1], o1, o2, o3, o4, o5, o6, o7, o8, o9, o11, o12, rfl, st.same t6, t6 _ _ hT, neT, rfl, hg, upd_same, by rw [List.length_append, hvl]; rfl, fun v hv' => ?_, st5.new nL, st5.ne nL, fun z => by rw [z, t5 _ _ hT] at nL; cases nL⟩
  rcases List.mem_append.mp hv' with h | h
  · exact (hv v h).nl (.same t6)
  · simp only [List.mem_cons, List.not_mem_nil, or_false] at h
    rcases h with rfl | rfl
    · exact ⟨p0, fN, gN, l2, _, rfl, s6 _ _ (s5 _ _ (s4 _ _ a0)), PN, RN, shw_spellM, hg _ (by simp)⟩
    · exact ⟨p1, fR, gR, l3, _, rfl, s6 _ _ (s5 _ _ upd_same), PR, RR, shw_rowsM _, hg _ (by simp)⟩
theorem ws14 (L : LT G C fI) (hr : Room 50 (A.deeper (envOfC "_law_right" (defScope s_law_right) s.heap.objs.size f cdv))) {σ : L2.St} {H : Hp} (h : Mid12 G C T a H0 4 k σ H) :
    WS (XR G f cdv A outer s H0 E) (rS 14) { D with nx := Mid12 G C T a H0 5 k } σ H := by
  have c := ctxR (G := G) (outer := outer) (H0 := H0) (E := E) hr
  have hft : FtOk G 40 (ftOf T40) := ok40 L.txt
  obtain ⟨fN, mN, PN⟩ := L.pG
  obtain ⟨gN, nN, RN⟩ := L.rG
  refine ws_of (ps_expr (pe_bm PySem.F.plainAttrs_list PySem.F.slot_list_append PySem.F.type_list_append mt_append (pv 13)
    (pa_cons (pe_tup (pa_cons (pe_glob (v := .ref fN) rfl mN rfl) (pa_cons (pe_glob (v := .ref gN) rfl nN rfl) (pa_cons (pe_ev (ce := .idx (.var 10) (.lit (.int 4))) c hft L.txt.gv L.txt.bn (by kernel_rfl)) pa_nil)))) pa_nil))) ?_
  obtain ⟨Ls, pT, pK, vs, o1, o2, o3, o4, o5, o6, o7, o8, o9, o11, o12, rfl, st, hT, neT, hl, hg, hK, hvl, hv, newK, neK, neKT⟩ := h
  match Ls, hl with
  | [l0, l1, l2, l3, l4], _ =>
  refine ⟨_, rfl, .inl ⟨rfl, _, SqL.of hK⟩, _, _, envT hT o1 o2 o3 o4 o5 o6 o7 o8 o9 o11 o12 (some (.ref pK)), evT (i := 4) rfl, fun u0 H1 s1 hu0 => ?_⟩
  have hu0 := dp_str_inv hu0
  subst hu0
  refine ⟨three_size, fun p0 n0 => ?_⟩
  have s2 := upd_same_of (o := .tup [.ref fN, .ref gN, .str (S l4)]) n0
  have t2 := s1.trans s2
  have hK2 := t2 _ _ hK
  refine ⟨pK, vs, .ref p0, rfl, rfl, hK2, by rw [hvl, sizeLine_eq]; decide, ?_⟩
  refine ⟨_, pT, pK, vs ++ [.ref p0], o1, o2, o3, o4, o5, o6, o7, o8, o9, o11, o12, rfl, (st.same t2).put hK2 newK neK, by rw [upd_ne (Ne.symm neKT)]; exact t2 _ _ hT, neT, rfl, hg, upd_same, by rw [List.length_append, hvl]; rfl, fun v hv' => ?_, newK, neK, neKT⟩
  rcases List.mem_append.mp hv' with h | h
  · exact ((hv v h).nl (.same t2)).nl (.put hK2)
  · simp only [List.mem_cons, List.not_mem_nil, or_false] at h
    subst h
    exact CallOk.nl ⟨p0, fN, gN, l4, _, rfl, upd_same, PN, RN, shw_rowsM _, hg _ (by simp)⟩ (.put hK2)
end

end K81
namespace K81
open PySem PySem.Spec PyProof.Rows L2 JL M81 SX
open TL (tl)
local macro_rules | `(tactic| walk_at "ev") => `(tactic| simp only [e_lit, e_var, e_glob, e_bin, e_neg, e_cmp, e_chain, e_and, e_or, e_not, e_ife, e_own, e_bi, e_isi, e_split, e_join, e_idx, e_slc, e_tup, e_lst, e_fstr, a_nil, a_cons, s_set, s_par, s_if, s_ret, s_drop, b_nil, b_cons, l_and, l_or, l_not, l_neg, l_if, l_ifO, l_lt, l_le, l_gt, l_ge, l_eqI, l_neI, l_chainI, l_inC, l_ninC, l_is, l_isn, l_lenL, l_lenT, l_abs, l_tupL, l_tupT, l_add, l_sub,
  l_isi_s, l_isi_t, isiD, l_seq_nx, l_seq_rt, l_itL, l_itT, l_itS, l_it0, l_it1, l_il0, l_il1, isNoneD, Tg.bind, Tg.wipe,
  Option.bind_some, Option.bind_none, Option.map_some, Option.map_none, List.getElem?_cons_zero, List.getElem?_cons_succ, List.getElem?_nil, Option.join_some, List.set_cons_zero, List.set_cons_succ, Bool.not_true, Bool.not_false, Bool.false_eq_true, if_true, if_false])

open LamX
structure SpotTxt (G : Gb) : Prop where
  ex : ∃ (g : Addr) (oc : Value) (od : Option Addr) (dV kV doc pm cdv ct : Value) (an : Option Addr) (osl : Array (Option Value)), G.mg "_law_spot" = some (.ref g) ∧ PySem.W.keepIn G.K (.ref g) = true ∧
    G.K.lookup g = some ⟨oc, od, .func (PySem.W.fnOf "_law_spot" "_law_spot" (defArgs s_law_spot) (defBody s_law_spot) (defScope s_law_spot) dV kV doc pm an cdv ct), osl⟩ ∧ PySem.W.codeIn G.K cdv "_law_spot" = true ∧ Binds G.K (PySem.W.fnOf "_law_spot" "_law_spot" (defArgs s_law_spot) (defBody s_law_spot) (defScope s_law_spot) dV kV doc pm an cdv ct) ["call"] []
theorem spotTxt_of {G : Gb} (D : DefX G "_law_spot" s_law_spot) : SpotTxt G := by
  obtain ⟨f, fd, F, hm⟩ := D.ex
  have b := F.binds (ps := ["call"]) fun _ _ _ _ _ _ us hl => match us, hl with | [_], _ => rfl
  obtain ⟨oc, od, kV, doc, pm, an, cdv, ct, osl, rfl, lk, hcd⟩ := F.ex
  exact ⟨f, oc, od, _, kV, doc, pm, cdv, ct, an, osl, hm, F.kp, lk, hcd, b⟩
theorem RS.lam {T : List (Addr × Str)} {a : Addr} {H0 H H1 : Hp} {k : Nat} (r : RS T a H0 H k) (e : ExtN H H1) (t : Tabs T H1) : RS T a H0 H1 k := by
  obtain ⟨d0, d1, d2, q, r1, r2⟩ := r.dice
  exact ⟨⟨d0, d1, d2, e _ _ q (fun _ z => by cases z), r1, r2⟩, t, fun b o h1 h2 h => e _ _ (r.ext b o h1 h2 h) h2⟩
/-- _law_spot(lambda: call(text)): call in the slot i, text in the slot j -/
def tSpot (G : Gb) (C : Addr) (T : List (Addr × Str)) (i j : Nat) : TE := fun σ H Q => ∃ (f : Addr) (m : List Nat → PyData) (l : List Nat), σ[i]? = some (some (.ref f)) ∧ Pr G C f m ∧ σ[j]? = some (some (.str (S l))) ∧ Good l ∧ Tabs T H ∧ ∀ H1 v H2, ExtN H H1 → Tabs T H1 → Same H1 H2 → Dp G.K H2 v (dueD m l) → Q v H2
theorem spot_out {G : Gb} {C : Addr} {m : List Nat → PyData} {l : List Nat} {H : Hp} {Q : VK} (q : ∀ v H2, Same H H2 → Dp G.K H2 v (dueD m l) → Q v H2) : lineOut G.K C m l H (fun v H' => 2 ≤ sizeLine ∧ ∀ p, H' p = none → Q (.ref p) (upd H' p (.tup [.str "read", v]))) (spotX G.K C Q) := by
  unfold lineOut
  unfold dueD at q
  by_cases h1 : isNoneD (m (fst l)) = true
  · rw [if_pos h1] at q ⊢
    exact fun d H2 s2 nd => ⟨rfl, d, 0, rfl, upd_same, fun v H3 s3 hv => q v H3 ((s2.trans (upd_same_of nd)).trans s3) hv⟩
  · rw [if_neg h1] at q ⊢
    by_cases h2 : many l = true
    · rw [if_pos h2] at q ⊢
      exact fun d H2 s2 nd => ⟨rfl, d, 1, rfl, upd_same, fun v H3 s3 hv => q v H3 ((s2.trans (upd_same_of nd)).trans s3) hv⟩
    · rw [if_neg h2] at q ⊢
      rw [one_fst (Bool.eq_false_iff.mpr h2)]
      exact fun v H2 s2 hv => ⟨two_size, fun p np => q _ _ (s2.trans (upd_same_of np)) (.tup (.inl (.inl upd_same)) (.cons (.str _) (.cons (dp_mono (upd_same_of np) hv) .nil)))⟩
section
variable {G : Gb} {C fI : Addr} {f : Addr} {A : Around} {outer : List Env} {s : Shared} {H0 : Hp} {E : XK} {T : List (Addr × Str)} {a : Addr} {k : Nat} {D : Ends}
theorem pe_spotR {cR pR : Addr} (Sp : SpotTxt G) (L : LT G C fI) (TB : TabB G.base G.mg cR pR) (hmT : (pR, (("_law_right" : Str) ++ ".<locals>.") ++ "<lambda>") ∈ T) (hu : ∀ p ∈ T, p.1 = pR → p.2 = (("_law_right" : Str) ++ ".<locals>.") ++ "<lambda>") (hr : Room 50 (A.deeper (envOfC "_law_right" (defScope s_law_right) s.heap.objs.size f (.ref cR))))
    {params : Arguments} {scope : Scope} {p p1 p2 p3 lpos pos : Pos} (LS : LamS (defScope s_law_right) scope) (hdef : ∀ env, defaultsOf params env = ([], []))
    (hbind : ∀ (q : Str) (cl : List (Str × Addr)) (pm cv ctv : Value), bindArgs (PySem.W.kla_fn "<lambda>" q params (.Call (.Name "call" p1) [.Name "bent" p2] [] p3) scope cl pm cv ctv) ⟨[], []⟩ = pure [])
    (hv1 : scope.names.lookup ("call" : Str) = some .free) (hv2 : scope.names.lookup ("bent" : Str) = some .free) :
    PE (XR G f (.ref cR) A outer s H0 E) (.Call (.Name "_law_spot" p) [.Lambda params (.Call (.Name "call" p1) [.Name "bent" p2] [] p3) scope lpos] [] pos) (tSpot G C T 14 17) := by
  refine ⟨fun pins s' σ H Q I h => ?_⟩
  obtain ⟨fp, m, l, h1, P, h2, g, hT, q⟩ := h
  obtain ⟨fdp, FP, kp, bp⟩ := P.ex
  obtain ⟨gs, oc, od, dV, kV, doc, pm, cdv, ct, an, osl, hm, hk, lk, hcd, hb⟩ := Sp.ex
  refine (pe_lamcall (X := XR G f (.ref cR) A outer s H0 E) (x := "_law_spot") (a := "call") (p := p) (lpos := lpos) (pos := pos) (k := 42) (T := T) (TT := TTspot G.K C) (t := fun E => tCallL 14 fp (spParse G C m) [] E (tCons (tVar 17) tNil)) rfl hm hk lk hcd hb sc_law_spot rfl (Or.inl rfl) (spot_gives (X := XR G f (.ref cR) A outer s H0 E) L.par) TB rfl hmT hu (hr.mono (by decide)) LS (hdef _) hbind
    (fun A' outer' s'' H' E' f' c' hr' => pe_callL (i := 14) FP hr' rfl (Or.inr (Or.inr hv1)) kp bp .nil (passes_call (takes_of rfl rfl rfl rfl) fun _ _ _ _ h => h) (pa_cons (pe_var (i := 17) rfl (Or.inr (Or.inr hv2))) pa_nil))).run pins s' σ H Q I ⟨hT, fun H1 e t1 => ?_⟩
  exact ⟨h1, _, h2, l, rfl, g, spot_out fun v H2 s2 hv => q H1 v H2 e t1 s2 hv⟩
end

end K81
namespace K81
open PySem PySem.Spec PyProof.Rows L2 JL M81 SX
open TL (tl)
local macro_rules | `(tactic| walk_at "ev") => `(tactic| simp only [e_lit, e_var, e_glob, e_bin, e_neg, e_cmp, e_chain, e_and, e_or, e_not, e_ife, e_own, e_bi, e_isi, e_split, e_join, e_idx, e_slc, e_tup, e_lst, e_fstr, a_nil, a_cons, s_set, s_par, s_if, s_ret, s_drop, b_nil, b_cons, l_and, l_or, l_not, l_neg, l_if, l_ifO, l_lt, l_le, l_gt, l_ge, l_eqI, l_neI, l_chainI, l_inC, l_ninC, l_is, l_isn, l_lenL, l_lenT, l_abs, l_tupL, l_tupT, l_add, l_sub,
  l_isi_s, l_isi_t, isiD, l_seq_nx, l_seq_rt, l_itL, l_itT, l_itS, l_it0, l_it1, l_il0, l_il1, isNoneD, Tg.bind, Tg.wipe,
  Option.bind_some, Option.bind_none, Option.map_some, Option.map_none, List.getElem?_cons_zero, List.getElem?_cons_succ, List.getElem?_nil, Option.join_some, List.set_cons_zero, List.set_cons_succ, Bool.not_true, Bool.not_false, Bool.false_eq_true, if_true, if_false])

open LamX
abbrev EndSt (a pL : Addr) (o1 o2 o3 o4 o5 o6 o7 o8 o9 o10 o11 o12 o14 o15 o16 o17 : Option V) : L2.St := [some (.ref a), o1, o2, o3, o4, o5, o6, o7, o8, o9, o10, o11, o12, some (.ref pL), o14, o15, o16, o17]
structure CS5 (G : Gb) (C : Addr) (T : List (Addr × Str)) (a : Addr) (H0 : Hp) (pL : Addr) (vs : List V) (H : Hp) (k : Nat) : Prop where
  st : RS T a H0 H k
  hL : H pL = some (.lst vs)
  hv : ∀ v ∈ vs, CallOk G C H v
  ne : pL ≠ a
section
variable {G : Gb} {C : Addr} {T : List (Addr × Str)} {a pL : Addr} {H0 H H1 : Hp} {vs : List V} {k j : Nat}
theorem CS5.same (c : CS5 G C T a H0 pL vs H k) (s : Same H H1) : CS5 G C T a H0 pL vs H1 k := ⟨c.st.same s, s _ _ c.hL, fun v hv => (c.hv v hv).nl (.same s), c.ne⟩
theorem CS5.mono (c : CS5 G C T a H0 pL vs H k) (h : j ≤ k) : CS5 G C T a H0 pL vs H j := ⟨c.st.mono h, c.hL, c.hv, c.ne⟩
theorem CS5.roll (c : CS5 G C T a H0 pL vs H k) (x : ExtB a H H1) (d : DiceOk j a H1) : CS5 G C T a H0 pL vs H1 j := ⟨c.st.roll x d, x _ _ c.ne c.hL, fun v hv => (c.hv v hv).nl (c.st.nlRoll x), c.ne⟩
theorem CS5.lam (c : CS5 G C T a H0 pL vs H k) (e : ExtN H H1) (t : Tabs T H1) : CS5 G C T a H0 pL vs H1 k := ⟨c.st.lam e t, e _ _ c.hL (fun _ z => by cases z), fun v hv => (c.hv v hv).nl (.extN e), c.ne⟩
end
def Mid15 (T : List (Addr × Str)) (a : Addr) (H0 : Hp) (k : Nat) : L2.St → Hp → Prop := fun _ H => RS T a H0 H k
section
variable {G : Gb} {C fI : Addr} {f : Addr} {A : Around} {outer : List Env} {s : Shared} {H0 : Hp} {E : XK} {T : List (Addr × Str)} {a : Addr} {k : Nat} {D : Ends}
theorem ws15 {cR pR : Addr} (Sp : SpotTxt G) (L : LT G C fI) (hgd : A.guards = some []) (TB : TabB G.base G.mg cR pR) (hmT : (pR, (("_law_right" : Str) ++ ".<locals>.") ++ "<lambda>") ∈ T) (hu : ∀ p ∈ T, p.1 = pR → p.2 = (("_law_right" : Str) ++ ".<locals>.") ++ "<lambda>") (hr : Room 50 (A.deeper (envOfC "_law_right" (defScope s_law_right) s.heap.objs.size f (.ref cR))))
    {σ : L2.St} {H : Hp} (h : Mid12 G C T a H0 5 (k + 150) σ H) : WS (XR G f (.ref cR) A outer s H0 E) (rS 15) { D with nx := Mid15 T a H0 k } σ H := by
  have c := ctxR (G := G) (outer := outer) (H0 := H0) (E := E) hr
  have hft : FtOk G 40 (ftOf T40) := ok40 L.txt
  obtain ⟨fb, fdb, FB, mb, kb, bb⟩ := L.bent
  obtain ⟨fd_, fdd, FD, md, kd, bd⟩ := L.due
  have gRange : G.mg "range" = none := L.txt.bn "range" (by decide +kernel)
  have gRepr : G.mg "repr" = none := L.txt.bn "repr" (by decide +kernel)
  refine ws_of (ps_for PassesOwn.never rfl (pi_list (pv 13)) (pg_tup rfl (pgs_cons (pg_name (i := 14) sc_law_right.nd rfl (Or.inr rfl)) (pgs_cons (pg_name (i := 15) sc_law_right.nd rfl (Or.inl rfl)) (pgs_cons (pg_name (i := 16) sc_law_right.nd rfl (Or.inl rfl)) pgs_nil))))
    (pss_one (ps_for PassesOwn.never rfl (pi_range1 rfl gRange (pa_cons pe_int pa_nil)) (pg_name (i := 4) sc_law_right.nd rfl (Or.inl rfl))
      (pss_cons (ps_set (i := 17) sc_law_right.nd rfl (Or.inr rfl) (pe_call (dvs := []) (E := fun _ _ _ => False) FB (hr.mono (by decide)) rfl mb kb bb .nil passN (pa_cons (pv 0) (pa_cons (pv 16) pa_nil))))
      (pss_one (ps_if (pt_cmpR op_ne
        (pe_callB (call_repr_D hgd (units_of hr)) rfl gRepr PyProof.Rows.Boot.repr (pa_cons (pe_spotR Sp L TB hmT hu hr (lamS_by (by decide +kernel)) (fun _ => rfl) (fun _ _ _ _ _ => rfl) rfl rfl) pa_nil))
        (pe_callB (call_repr_D hgd (units_of hr)) rfl gRepr PyProof.Rows.Boot.repr (pa_cons (pe_call (dvs := []) (E := fun _ _ _ => False) FD (hr.mono (by decide)) rfl md kd bd .nil passN (pa_cons (pv 15) (pa_cons (pv 17) pa_nil))) pa_nil)) (nomark _))
        (pss_one (ps_ret pe_bl)) pss_nil)))))) ?_
  obtain ⟨Ls, pT, pL, vs, o1, o2, o3, o4, o5, o6, o7, o8, o9, o11, o12, rfl, st, hT, neT, hl, hg, hL, hvl, hv, newL, neL, neLT⟩ := h
  have c5 : CS5 G C T a H0 pL vs H (k + 150) := ⟨st, hL, hv, neL⟩
  refine ⟨_, rfl, pL, rfl, ⟨_, .inl (.inl hL)⟩, ?_⟩
  refine for_list (xs := vs) (fun i σ H => ∃ (o4 o10 o14 o15 o16 o17 : Option V), σ = EndSt a pL o1 o2 o3 o4 o5 o6 o7 o8 o9 o10 o11 o12 o14 o15 o16 o17 ∧ CS5 G C T a H0 pL vs H (k + 30 * (5 - i)))
    ⟨o4, some (.ref pT), none, none, none, none, rfl, c5.mono (by omega)⟩ (fun i σ H _ ⟨_, _, _, _, _, _, _, c⟩ => .inl (.inl c.hL)) ?_ (fun σ H ⟨_, _, _, _, _, _, _, c⟩ => c.st.mono (by omega))
  rintro i x σ H hi ⟨o4, o10, o14, o15, o16, o17, rfl, ci⟩
  have hi5 : i < 5 := by
    have := (List.getElem?_eq_some_iff.mp hi).1
    omega
  obtain ⟨p, fp, gr, l, m, rfl, hp, P, R, SM, g⟩ := ci.hv x (List.mem_of_getElem? hi)
  refine ⟨p, _, rfl, .inl (.inl hp), rfl, ?_⟩
  refine ⟨_, _, rfl, _, _, rfl, _, _, rfl, rfl, ?_⟩
  refine ⟨10, rfl, by decide, by decide, ?_⟩
  refine for_range (lo := 0) (n := (10 : Int).toNat) (fun j σ H => ∃ (o4 o17 : Option V), σ = EndSt a pL o1 o2 o3 o4 o5 o6 o7 o8 o9 o10 o11 o12 (some (.ref fp)) (some (.ref gr)) (some (.str (S l))) o17 ∧ CS5 G C T a H0 pL vs H (k + 30 * (4 - i) + 3 * (10 - j)))
    ⟨o4, o17, rfl, ci.mono (by omega)⟩ ?_ (fun σ H ⟨o4, o17, e, c⟩ => ⟨o4, o10, _, _, _, o17, e, c.mono (by omega)⟩)
  rintro j σ H hj ⟨o4, o17, rfl, cj⟩
  have hj10 : j < 10 := hj
  refine ⟨_, rfl, _, rfl, a, k + 30 * (4 - i) + 3 * (10 - j) - 3, l, rfl, g, cj.st.dice.mono (by omega), fun l' H1 bl x1 d1 => ?_⟩
  have g' := bl.good g
  have c1 := cj.roll x1 d1
  refine ⟨fp, m, l', rfl, P, rfl, g', c1.st.tabs, fun H2 v H3 e2 t2 s3 hv3 => ?_⟩
  have c3 := (c1.lam e2 t2).same s3
  have hsh := shw_due SM g'
  have htup : ∃ ds, dueD m l' = .tuple ds := by
    unfold dueD tagD
    split
    · exact ⟨_, rfl⟩
    · split
      · exact ⟨_, rfl⟩
      · exact ⟨_, rfl⟩
  obtain ⟨ds, hds⟩ := htup
  refine ⟨v, dueD m l', ds, rfl, hv3, .inl hds, hsh.mono (by decide) (by decide), ?_⟩
  refine ⟨_, rfl, _, rfl, l', gr, m, rfl, g', R, fun v2 H4 s4 hv4 => ?_⟩
  refine ⟨v2, dueD m l', ds, rfl, hv4, .inl hds, hsh.mono (by decide) (by decide), ?_⟩
  refine ⟨rfl, false, by simp, ?_⟩
  exact ⟨some (.int (0 + (j : Int))), some (.str (S l')), rfl, (c3.same s4).mono (by omega)⟩
theorem ws16 {cdv : Value} {σ : L2.St} {H : Hp} (h : D.rt (.bl true) H) : WS (XR G f cdv A outer s H0 E) (rS 16) D σ H := ws_of (ps_ret pe_bl) h
end

end K81
namespace K81
open PySem PySem.Spec PyProof.Rows L2 JL M81 SX
open TL (tl)
local macro_rules | `(tactic| walk_at "ev") => `(tactic| simp only [e_lit, e_var, e_glob, e_bin, e_neg, e_cmp, e_chain, e_and, e_or, e_not, e_ife, e_own, e_bi, e_isi, e_split, e_join, e_idx, e_slc, e_tup, e_lst, e_fstr, a_nil, a_cons, s_set, s_par, s_if, s_ret, s_drop, b_nil, b_cons, l_and, l_or, l_not, l_neg, l_if, l_ifO, l_lt, l_le, l_gt, l_ge, l_eqI, l_neI, l_chainI, l_inC, l_ninC, l_is, l_isn, l_lenL, l_lenT, l_abs, l_tupL, l_tupT, l_add, l_sub,
  l_isi_s, l_isi_t, isiD, l_seq_nx, l_seq_rt, l_itL, l_itT, l_itS, l_it0, l_it1, l_il0, l_il1, isNoneD, Tg.bind, Tg.wipe,
  Option.bind_some, Option.bind_none, Option.map_some, Option.map_none, List.getElem?_cons_zero, List.getElem?_cons_succ, List.getElem?_nil, Option.join_some, List.set_cons_zero, List.set_cons_succ, Bool.not_true, Bool.not_false, Bool.false_eq_true, if_true, if_false])

open LamX
/-- a def that wants to know of the guards (it calls repr) -/
structure FnG (G : Gb) (k : Nat) (f : Addr) (fd : FuncData) (ps : List Str) (sp : Sp) : Prop where
  len : ∀ vs H Q E, sp vs H Q E → vs.length = ps.length
  run : ∀ (A : Around) (outer : List Env) (s : Shared) (H : Hp) (args : Args) (us : List Value) (vs : List V) (Q : VK) (E : XK), A.guards = some [] → Room k A → Env0 G.P G.w G.K G.mg G.base A outer s H → BindsTo s fd args (ps.zip us) → Vals vs us → sp vs H Q E →
    codeAny (model G.P G.w) A (.call (.ref f) args) (CR CX0 outer G.P G.w H s Q E) s
/-- the def's object, its code object told -/
structure FunC (G : Gb) (x : Str) (st : Stmt) (f : Addr) (fd : FuncData) (c : Addr) : Prop where
  ex : ∃ (oc : Value) (od : Option Addr) (kV doc pm : Value) (an : Option Addr) (ct : Value) (osl : Array (Option Value)),
    fd = PySem.W.fnOf x x (defArgs st) (defBody st) (defScope st) .none kV doc pm an (.ref c) ct ∧ G.K.lookup f = some ⟨oc, od, .func fd, osl⟩ ∧ PySem.W.codeIn G.K (.ref c) x = true
theorem FunC.ok {G : Gb} {x : Str} {st : Stmt} {f c : Addr} {fd : FuncData} {N ps : List Str} {k : Nat} {sp : Sp} (F : FunC G x st f fd c) (S : FnScope N ps (defScope st)) (len : ∀ vs H Q E, sp vs H Q E → vs.length = ps.length)
    (hbody : ∀ (A : Around) (outer : List Env) (s : Shared) (H : Hp) (vs : List V) (Q : VK) (E : XK), A.guards = some [] → Room k (A.deeper (envOfC x (defScope st) s.heap.objs.size f (.ref c))) → sp vs H Q E →
      WB (cxOf CX0 G.P G.w G.K G.mg G.base N x (defScope st) f (.ref c) A outer s H E).nox (defBody st) { nx := fun _ H' => Q .non H', rt := Q } (start N vs) H) : FnG G (k + 1) f fd ps sp := by
  obtain ⟨oc, od, kV, doc, pm, an, ct, osl, rfl, lk, hcd⟩ := F.ex
  refine ⟨len, fun A outer s H args us vs Q E hg hr e0 hb hv hs => ?_⟩
  exact LamX.run_ofS lk hcd S hr e0 hb hv (len _ _ _ _ hs) fun hr' => ⟨WB _ (defBody st), PSs.nox pwb, hbody A outer s H vs Q E hg hr' hs⟩
section
variable {G : Gb} {X : Cx} {k : Nat} {f : Addr} {fd : FuncData} {ps : List Str} {sp : Sp} {x : Str} {p pos : Pos} {e : Expr} {es : List Expr} {t : TA}
theorem pe_callG (hP : X.prog = G.P) (hw : X.w = G.w) (hK : X.K = G.K) (hmg : X.mg = G.mg) (hbase : X.base = G.base) (F : FnG G k f fd ps sp) (hgd : X.A.guards = some []) (hr : Room k X.A) (hg : Gl X x) (hm : X.mg x = some (.ref f)) (hk : PySem.W.keepIn X.K (.ref f) = true) (hb : Binds X.K fd ps []) (ha : PA X (e :: es) t)
    (hdb : (x == ("__debug__" : Str)) = false := by decide) (he : starEach (e :: es) X.env = (false, eval e X.env) :: starEach es X.env := by rfl) (hpl : (backTo pos (starEach es X.env)).any (·.1) = false := by rfl) :
    PE X (.Call (.Name x p) (e :: es) [] pos) (fun σ H Q => t σ H fun vs H1 => sp vs H1 Q (fun _ _ _ => False)) := by
  refine ⟨fun pins s σ H Q I h => ?_⟩
  refine wpAny_Call_Name_kw (ld_glob I hg hm ?_ hdb)
  refine PySem.W.callWith_K (h₀ := X.base) I.ok.mod.kin hk (thn (ha.run pos pins s σ H _ I h) fun us s1 ⟨vs, H1, I1, r1, q1⟩ => ⟨I1.kIn, ?_⟩) he hpl
  show wpAny _ _ (call (.ref f) us) _ _ _
  have hl : us.length = ps.length := by
    rw [← Paired.length r1]
    exact F.len _ _ _ _ q1
  have hbt : BindsTo s1 fd ⟨us, []⟩ (ps.zip us) := by
    have := hb s1 us I1.kIn (by simpa using hl)
    simpa using this
  have e0 := I1.env0
  rw [hP, hw, hK, hmg, hbase] at e0
  have rc := F.run X.A X.stack s1 H1 ⟨us, []⟩ us vs Q (fun _ _ _ => False) hgd hr e0 hbt r1 q1
  rw [← hP, ← hw] at rc
  refine wpAny_call (codeAny_mono rc fun r s2 hq => ?_)
  cases r with
  | error e => exact (show False from hq).elim
  | ok fl =>
    cases fl with
    | ret u => exact I1.after hq
    | next => exact False.elim hq
    | brk => exact False.elim hq
    | cont => exact False.elim hq
end
def qR : Str := (("_law_right" : Str) ++ ".<locals>.") ++ "<lambda>"
def spRight (T : List (Addr × Str)) : Sp := fun vs H Q _ => ∃ (a : Addr) (k : Nat), vs = [.ref a] ∧ DiceOk (k + 200) a H ∧ Tabs T H ∧ ∀ H', RS T a H H' k → Q (.bl true) H'
set_option maxHeartbeats 0 in
theorem ok_right {G : Gb} {C fI cR pR : Addr} {T : List (Addr × Str)} (Sp : SpotTxt G) (L : LT G C fI) (TB : TabB G.base G.mg cR pR) (hmT : (pR, qR) ∈ T) (hu : ∀ p ∈ T, p.1 = pR → p.2 = qR) {f : Addr} {fd : FuncData} (F : FunC G "_law_right" s_law_right f fd cR) : FnG G 51 f fd ["dice"] (spRight T) := by
  refine F.ok (N := NR) sc_law_right (fun vs H Q E h => ?_) (fun A outer s H vs Q E hgd hr hs => ?_)
  · obtain ⟨a, k, rfl, _⟩ := h
    rfl
  obtain ⟨a, k, rfl, hd, ht, out⟩ := hs
  have r0 : RS T a H H (k + 200) := ⟨hd, ht, fun _ _ _ _ h => h⟩
  rw [body_right]
  refine wb_cut (Mid0 T a H (k + 177)) (ws0 L hr (r0.mono (by omega))) fun σ1 H1 h1 => ?_
  refine wb_cut (Mid1 G T a H (k + 158)) (ws1 L hr h1) fun σ2 H2 h2 => ?_
  refine wb_cut (Mid2 G T a H (k + 156)) (ws2 L hr h2) fun σ3 H3 h3 => ?_
  refine wb_cut (Mid3 G T a H (k + 156)) (ws3 L hr h3) fun σ4 H4 h4 => ?_
  refine wb_cut (Mid4 G T a H (k + 156)) (ws4 L hr h4) fun σ5 H5 h5 => ?_
  refine wb_cut (Mid5 G T a H false (k + 150)) (ws5 L hr h5) fun σ6 H6 h6 => ?_
  refine wb_cut (Mid5 G T a H true (k + 150)) (ws6 L hr h6) fun σ7 H7 h7 => ?_
  refine wb_cut (Mid7 G T a H (k + 150)) (ws7 L hr h7) fun σ8 H8 h8 => ?_
  refine wb_cut (Mid8 G T a H (k + 150)) (ws8 L hr h8) fun σ9 H9 h9 => ?_
  refine wb_cut (Mid9 G T a H (k + 150)) (ws9 L hr h9) fun σ10 H10 h10 => ?_
  refine wb_cut (Mid10 G T a H (k + 150)) (ws10 L hr h10) fun σ11 H11 h11 => ?_
  refine wb_cut (Mid11 G T a H (k + 150)) (ws11 L hgd hr h11) fun σ12 H12 h12 => ?_
  refine wb_cut (Mid12 G C T a H 2 (k + 150)) (ws12 L hr h12) fun σ13 H13 h13 => ?_
  refine wb_cut (Mid12 G C T a H 4 (k + 150)) (ws13 L hr h13) fun σ14 H14 h14 => ?_
  refine wb_cut (Mid12 G C T a H 5 (k + 150)) (ws14 L hr h14) fun σ15 H15 h15 => ?_
  refine wb_cut (Mid15 T a H k) (ws15 Sp L hgd TB hmT hu hr h15) fun σ16 H16 h16 => ?_
  exact wb_cut (fun _ _ => False) (ws16 (out H16 h16)) fun _ _ z => z.elim

end K81
namespace K81
open PySem PySem.Spec PyProof.Rows L2 JL M81 SX
open TL (tl)
local macro_rules | `(tactic| walk_at "ev") => `(tactic| simp only [e_lit, e_var, e_glob, e_bin, e_neg, e_cmp, e_chain, e_and, e_or, e_not, e_ife, e_own, e_bi, e_isi, e_split, e_join, e_idx, e_slc, e_tup, e_lst, e_fstr, a_nil, a_cons, s_set, s_par, s_if, s_ret, s_drop, b_nil, b_cons, l_and, l_or, l_not, l_neg, l_if, l_ifO, l_lt, l_le, l_gt, l_ge, l_eqI, l_neI, l_chainI, l_inC, l_ninC, l_is, l_isn, l_lenL, l_lenT, l_abs, l_tupL, l_tupT, l_add, l_sub,
  l_isi_s, l_isi_t, isiD, l_seq_nx, l_seq_rt, l_itL, l_itT, l_itS, l_it0, l_it1, l_il0, l_il1, isNoneD, Tg.bind, Tg.wipe,
  Option.bind_some, Option.bind_none, Option.map_some, Option.map_none, List.getElem?_cons_zero, List.getElem?_cons_succ, List.getElem?_nil, Option.join_some, List.set_cons_zero, List.set_cons_succ, Bool.not_true, Bool.not_false, Bool.false_eq_true, if_true, if_false])

open LamX
set_option maxHeartbeats 2000000
/-- the same words, closed -/
structure PWS (X : Cx) (st : Stmt) (D : Ends) (σ : L2.St) (H : Hp) : Prop where
  run : WS X st D σ H
structure PWB (X : Cx) (sts : List Stmt) (D : Ends) (σ : L2.St) (H : Hp) : Prop where
  run : WB X sts D σ H
theorem pws_of {X : Cx} {st : Stmt} {t : TS} {D : Ends} {σ : L2.St} {H : Hp} (h : PS X st t) (q : t D σ H) : PWS X st D σ H := ⟨ws_of h q⟩
theorem pw_cut {X : Cx} {st : Stmt} {rest : List Stmt} {D : Ends} {σ : L2.St} {H : Hp} (Mid : L2.St → Hp → Prop) (h1 : PWS X st { D with nx := Mid } σ H) (h2 : ∀ σ' H', Mid σ' H' → PWB X rest D σ' H') : PWB X (st :: rest) D σ H := ⟨wb_cut Mid h1.run fun σ' H' h => (h2 σ' H' h).run⟩
def strV (l : List (List Nat)) : List V := l.map fun s => V.str (S s)
theorem strV_app (l m : List (List Nat)) : strV l ++ strV m = strV (l ++ m) := by unfold strV; rw [List.map_append]
def tStrs : List Str → TA
  | [] => tNil
  | x :: r => tCons (tC (.str x)) (tStrs r)
theorem tStrs_q {σ : L2.St} : ∀ {l : List Str} {H : Hp} {Q : List V → Hp → Prop}, Q (l.map V.str) H → tStrs l σ H Q
  | [], _, _, h => h
  | x :: r, H, Q, h => by
    show tStrs r σ H fun xs H2 => Q (.str x :: xs) H2
    exact tStrs_q h
theorem pa_str {X : Cx} {x : Str} {j : Nat} {pos : Pos} {es : List Expr} {l : List Str} (h : PA X es (tStrs l)) : PA X (.Constant (.str x) j pos :: es) (tStrs (x :: l)) := pa_cons pe_str h rfl
theorem pa_strN {X : Cx} : PA X [] (tStrs []) := pa_nil
def isStrs : List Expr → List Str → Bool
  | [], [] => true
  | .Constant (.str y) _ _ :: es, x :: l => (y == x) && isStrs es l
  | _, _ => false
theorem pa_strs {X : Cx} : ∀ {es : List Expr} {l : List Str}, isStrs es l = true → PA X es (tStrs l)
  | [], [], _ => pa_nil
  | [], _ :: _, h => by simp [isStrs] at h
  | e :: es, [], h => by cases e <;> first | (simp [isStrs] at h; done) | (rename_i c _ _; cases c <;> simp [isStrs] at h)
  | e :: es, x :: l, h => by
    cases e <;> first | (simp [isStrs] at h; done) | skip
    rename_i c j pos
    cases c <;> first | (simp [isStrs] at h; done) | skip
    rename_i y
    simp only [isStrs, Bool.and_eq_true, beq_iff_eq] at h
    obtain ⟨h1, h2⟩ := h
    subst h1
    exact pa_str (pa_strs h2)
def tx0 : List (List Nat) := [[], [48], [45, 48], [48, 48], [49, 47, 49], [50, 47, 52], [49, 47, 50], [45, 49, 47, 50], [49, 47, 45, 50], [49, 47, 48], [48, 47, 49], [43, 49], [49, 32], [32, 49], [110, 111, 110, 101], [49, 32, 32, 50]]
def tx0s : List Str := ["", "0", "-0", "00", "1/1", "2/4", "1/2", "-1/2", "1/-2", "1/0", "0/1", "+1", "1 ", " 1", "none", "1  2"]
theorem tx0_is : (tx0s.map V.str) = strV tx0 := by kernel_rfl
theorem tx0_ok : ∀ s ∈ tx0, s.length ≤ 100 ∧ ∀ c ∈ s, c < 128 := by decide
def tx1 : List (List Nat) := [[49, 32, 50], [49, 44, 50], [49, 44, 32, 50], [49, 47, 50, 32, 45, 51, 44, 32, 110, 111, 110, 101], [110, 111, 110, 101, 44, 32, 110, 111, 110, 101], [110, 111, 110, 101, 32, 110, 111, 110, 101], [49, 44, 32], [44, 32, 49], [49, 10, 50], [49, 10]]
def tx1s : List Str := ["1 2", "1,2", "1, 2", "1/2 -3, none", "none, none", "none none", "1, ", ", 1", "1\n2", "1\n"]
theorem tx1_is : (tx1s.map V.str) = strV tx1 := by kernel_rfl
theorem tx1_ok : ∀ s ∈ tx1, s.length ≤ 100 ∧ ∀ c ∈ s, c < 128 := by decide
def tx2 : List (List Nat) := [[49, 47, 50, 47, 51], [48, 48, 55], [45], [47], [47, 50], [51, 47], [110, 111, 110, 101, 44, 49], [48, 44, 32, 48, 44, 32, 48], [49, 32, 110, 111, 110, 101], [114, 101, 115, 116], [114, 101, 115, 116, 44, 32, 49], [97, 32, 98], [65]]
def tx2s : List Str := ["1/2/3", "007", "-", "/", "/2", "3/", "none,1", "0, 0, 0", "1 none", "rest", "rest, 1", "a b", "A"]
theorem tx2_is : (tx2s.map V.str) = strV tx2 := by kernel_rfl
theorem tx2_ok : ∀ s ∈ tx2, s.length ≤ 100 ∧ ∀ c ∈ s, c < 128 := by decide
def tx3 : List (List Nat) := [[97, 32, 32, 98], [49, 32, 50, 44, 32, 51], [49, 32, 50, 44, 32, 51, 32, 52], [110, 111, 110, 101, 44, 32, 49], [97, 32, 110, 111, 110, 101], [50, 97], [97, 46], [45, 45, 49], [114, 101, 115, 116, 32, 114, 101, 115, 116], [97, 98, 99, 100, 101, 102, 103, 104, 105, 106, 107, 108, 109]]
def tx3s : List Str := ["a  b", "1 2, 3", "1 2, 3 4", "none, 1", "a none", "2a", "a.", "--1", "rest rest", "abcdefghijklm"]
theorem tx3_is : (tx3s.map V.str) = strV tx3 := by kernel_rfl
theorem tx3_ok : ∀ s ∈ tx3, s.length ≤ 100 ∧ ∀ c ∈ s, c < 128 := by decide
def tx4 : List (List Nat) := [[110, 111, 116, 104, 105, 110, 103], [110, 111, 116, 104, 105, 110, 103, 44, 32, 49], [49, 44, 32, 110, 111, 116, 104, 105, 110, 103], [110, 111, 116, 104, 105, 110, 103, 10, 114, 101, 115, 116]]
def tx4s : List Str := ["nothing", "nothing, 1", "1, nothing", "nothing\nrest"]
theorem tx4_is : (tx4s.map V.str) = strV tx4 := by kernel_rfl
theorem tx4_ok : ∀ s ∈ tx4, s.length ≤ 100 ∧ ∀ c ∈ s, c < 128 := by decide

abbrev NL_ : List Str := ["script", "texts", "calls", "call", "read", "text", "spot", "dice", "turn"]
abbrev XLw (G : Gb) (f : Addr) (cdv : Value) (A : Around) (outer : List Env) (s : Shared) (H : Hp) (E : XK) : Cx := (cxOf CX0 G.P G.w G.K G.mg G.base NL_ "law" (defScope s_law) f cdv A outer s H E).nox
def lS (i : Nat) : Stmt := (defBody s_law).getD i (.Pass ⟨0, 0, 0, 0⟩)
theorem body_law : defBody s_law = [lS 0, lS 1, lS 2, lS 3, lS 4, lS 5, lS 6, lS 7, lS 8] := by kernel_rfl
/-- the law's state: the script, the tables -/
structure WS0 (G : Gb) (T : List (Addr × Str)) (aS : Addr) (ns : List Int) (H : Hp) : Prop where
  tabs : Tabs T H
  scr : SqL G.K H aS (ns.map V.int)
theorem WS0.same {G : Gb} {T : List (Addr × Str)} {aS : Addr} {ns : List Int} {H H1 : Hp} (w : WS0 G T aS ns H) (s : Same H H1) : WS0 G T aS ns H1 := ⟨w.tabs.ext s, s.seq w.scr⟩
def LM (G : Gb) (T : List (Addr × Str)) (aS : Addr) (ns : List Int) (l : List (List Nat)) : L2.St → Hp → Prop := fun σ H => ∃ p : Addr, σ = [some (.ref aS), some (.ref p)] ++ List.replicate 7 none ∧ WS0 G T aS ns H ∧ H p = some (.lst (strV l))
section
variable {G : Gb} {C fI : Addr} {f : Addr} {cdv : Value} {A : Around} {outer : List Env} {s : Shared} {H0 : Hp} {E : XK} {T : List (Addr × Str)} {aS : Addr} {ns : List Int} {D : Ends}
theorem lS0_is : ∃ px es p1 p2, lS 0 = .Assign [.Name "texts" px] (.List es p1) p2 ∧ isStrs es tx0s = true := ⟨_, _, _, _, rfl, by decide +kernel⟩
theorem ls0 {H : Hp} (w : WS0 G T aS ns H) : PWS (XLw G f cdv A outer s H0 E) (lS 0) { D with nx := LM G T aS ns tx0 } (L2.start NL_ [.ref aS]) H := by
  obtain ⟨px, es, p1, p2, e, he⟩ := lS0_is
  rw [e]
  refine pws_of (ps_set (i := 1) sc_law.nd rfl (Or.inl rfl) (pe_lst (pa_strs he)) (JL.swaps_no rfl _ _ _)) ?_
  refine tStrs_q ?_
  rw [tx0_is]
  refine ⟨by unfold strV; rw [List.length_map, sizeLine_eq]; decide, fun p nP => ?_⟩
  exact ⟨p, rfl, w.same (upd_same_of nP), upd_same⟩
theorem lS1_is : ∃ px es p1 p2 p3 p4, lS 1 = .Assign [.Name "texts" px] (.BinOp (.Name "texts" p3) .Add (.List es p1) p4) p2 ∧ isStrs es tx1s = true := ⟨_, _, _, _, _, _, rfl, by decide +kernel⟩
theorem ls1 {σ : L2.St} {H : Hp} (h : LM G T aS ns tx0 σ H) : PWS (XLw G f cdv A outer s H0 E) (lS 1) { D with nx := LM G T aS ns (tx0 ++ tx1) } σ H := by
  obtain ⟨px, es, p1, p2, p3, p4, e, he⟩ := lS1_is
  rw [e]
  refine pws_of (ps_set (i := 1) sc_law.nd rfl (Or.inl rfl) (pe_op op_cat (pv 1) (pe_lst (pa_strs he))) (JL.swaps_no rfl _ _ _)) ?_
  obtain ⟨p, rfl, w, hp⟩ := h
  refine ⟨_, rfl, tStrs_q ?_⟩
  rw [tx1_is]
  refine ⟨by unfold strV; rw [List.length_map, sizeLine_eq]; decide, fun p1 n1 => ?_⟩
  have s1 := upd_same_of (o := .lst (strV tx1)) n1
  refine ⟨p, p1, strV tx0, strV tx1, rfl, rfl, s1 _ _ hp, upd_same, by unfold strV; rw [List.length_map, List.length_map, sizeLine_eq]; decide, fun p2 n2 => ?_⟩
  rw [strV_app]
  exact ⟨p2, rfl, (w.same s1).same (upd_same_of n2), upd_same⟩
theorem lS2_is : ∃ px es p1 p2 p3 p4, lS 2 = .Assign [.Name "texts" px] (.BinOp (.Name "texts" p3) .Add (.List es p1) p4) p2 ∧ isStrs es tx2s = true := ⟨_, _, _, _, _, _, rfl, by decide +kernel⟩
theorem ls2 {σ : L2.St} {H : Hp} (h : LM G T aS ns (tx0 ++ tx1) σ H) : PWS (XLw G f cdv A outer s H0 E) (lS 2) { D with nx := LM G T aS ns (tx0 ++ tx1 ++ tx2) } σ H := by
  obtain ⟨px, es, p1, p2, p3, p4, e, he⟩ := lS2_is
  rw [e]
  refine pws_of (ps_set (i := 1) sc_law.nd rfl (Or.inl rfl) (pe_op op_cat (pv 1) (pe_lst (pa_strs he))) (JL.swaps_no rfl _ _ _)) ?_
  obtain ⟨p, rfl, w, hp⟩ := h
  refine ⟨_, rfl, tStrs_q ?_⟩
  rw [tx2_is]
  refine ⟨by unfold strV; rw [List.length_map, sizeLine_eq]; decide, fun p1 n1 => ?_⟩
  have s1 := upd_same_of (o := .lst (strV tx2)) n1
  refine ⟨p, p1, strV (tx0 ++ tx1), strV tx2, rfl, rfl, s1 _ _ hp, upd_same, by unfold strV; rw [List.length_map, List.length_map, sizeLine_eq]; decide, fun p2 n2 => ?_⟩
  rw [strV_app]
  exact ⟨p2, rfl, (w.same s1).same (upd_same_of n2), upd_same⟩
theorem lS3_is : ∃ px es p1 p2 p3 p4, lS 3 = .Assign [.Name "texts" px] (.BinOp (.Name "texts" p3) .Add (.List es p1) p4) p2 ∧ isStrs es tx3s = true := ⟨_, _, _, _, _, _, rfl, by decide +kernel⟩
theorem ls3 {σ : L2.St} {H : Hp} (h : LM G T aS ns (tx0 ++ tx1 ++ tx2) σ H) : PWS (XLw G f cdv A outer s H0 E) (lS 3) { D with nx := LM G T aS ns (tx0 ++ tx1 ++ tx2 ++ tx3) } σ H := by
  obtain ⟨px, es, p1, p2, p3, p4, e, he⟩ := lS3_is
  rw [e]
  refine pws_of (ps_set (i := 1) sc_law.nd rfl (Or.inl rfl) (pe_op op_cat (pv 1) (pe_lst (pa_strs he))) (JL.swaps_no rfl _ _ _)) ?_
  obtain ⟨p, rfl, w, hp⟩ := h
  refine ⟨_, rfl, tStrs_q ?_⟩
  rw [tx3_is]
  refine ⟨by unfold strV; rw [List.length_map, sizeLine_eq]; decide, fun p1 n1 => ?_⟩
  have s1 := upd_same_of (o := .lst (strV tx3)) n1
  refine ⟨p, p1, strV (tx0 ++ tx1 ++ tx2), strV tx3, rfl, rfl, s1 _ _ hp, upd_same, by unfold strV; rw [List.length_map, List.length_map, sizeLine_eq]; decide, fun p2 n2 => ?_⟩
  rw [strV_app]
  exact ⟨p2, rfl, (w.same s1).same (upd_same_of n2), upd_same⟩
theorem lS4_is : ∃ px es p1 p2 p3 p4, lS 4 = .Assign [.Name "texts" px] (.BinOp (.Name "texts" p3) .Add (.List es p1) p4) p2 ∧ isStrs es tx4s = true := ⟨_, _, _, _, _, _, rfl, by decide +kernel⟩
theorem ls4 {σ : L2.St} {H : Hp} (h : LM G T aS ns (tx0 ++ tx1 ++ tx2 ++ tx3) σ H) : PWS (XLw G f cdv A outer s H0 E) (lS 4) { D with nx := LM G T aS ns (tx0 ++ tx1 ++ tx2 ++ tx3 ++ tx4) } σ H := by
  obtain ⟨px, es, p1, p2, p3, p4, e, he⟩ := lS4_is
  rw [e]
  refine pws_of (ps_set (i := 1) sc_law.nd rfl (Or.inl rfl) (pe_op op_cat (pv 1) (pe_lst (pa_strs he))) (JL.swaps_no rfl _ _ _)) ?_
  obtain ⟨p, rfl, w, hp⟩ := h
  refine ⟨_, rfl, tStrs_q ?_⟩
  rw [tx4_is]
  refine ⟨by unfold strV; rw [List.length_map, sizeLine_eq]; decide, fun p1 n1 => ?_⟩
  have s1 := upd_same_of (o := .lst (strV tx4)) n1
  refine ⟨p, p1, strV (tx0 ++ tx1 ++ tx2 ++ tx3), strV tx4, rfl, rfl, s1 _ _ hp, upd_same, by unfold strV; rw [List.length_map, List.length_map, sizeLine_eq]; decide, fun p2 n2 => ?_⟩
  rw [strV_app]
  exact ⟨p2, rfl, (w.same s1).same (upd_same_of n2), upd_same⟩

/-- a pair of a parser and its reader -/
def PairOk (G : Gb) (C : Addr) (H : Hp) (v : V) : Prop := ∃ (p f g : Addr) (m : List Nat → PyData), v = .ref p ∧ H p = some (.tup [.ref f, .ref g]) ∧ Pr G C f m ∧ Rd G 40 g m ∧ ShwM m
theorem PairOk.ext {G : Gb} {C : Addr} {H H1 : Hp} {v : V} (h : PairOk G C H v) (e : ExtN H H1) : PairOk G C H1 v := by
  obtain ⟨p, f, g, m, h1, h2, h3⟩ := h
  exact ⟨p, f, g, m, h1, e _ _ h2 (fun _ z => by cases z), h3⟩
theorem WS0.lam {H H1 : Hp} (w : WS0 G T aS ns H) (e : ExtN H H1) (t : Tabs T H1) : WS0 G T aS ns H1 := ⟨t, by
  rcases w.scr with (h | ⟨o, h⟩) | h
  · exact .inl (.inl (e _ _ h (fun _ z => by cases z)))
  · exact .inl (.inr ⟨o, e _ _ h (fun _ z => by cases z)⟩)
  · exact .inr h⟩
def txAll : List (List Nat) := tx0 ++ tx1 ++ tx2 ++ tx3 ++ tx4
theorem txAll_ok : ∀ s ∈ txAll, Good s := fun s hs => by
  have h : s.length ≤ 100 ∧ ∀ c ∈ s, c < 128 := by
    unfold txAll at hs
    simp only [List.mem_append] at hs
    rcases hs with (((h | h) | h) | h) | h
    · exact tx0_ok s h
    · exact tx1_ok s h
    · exact tx2_ok s h
    · exact tx3_ok s h
    · exact tx4_ok s h
  exact ⟨h.2, by omega, DB.of_len (by omega)⟩
def LM5 (G : Gb) (C : Addr) (T : List (Addr × Str)) (aS : Addr) (ns : List Int) : L2.St → Hp → Prop := fun σ H => ∃ (pT pC : Addr) (vs : List V), σ = [some (.ref aS), some (.ref pT), some (.ref pC)] ++ List.replicate 6 none ∧ WS0 G T aS ns H ∧ H pT = some (.lst (strV txAll)) ∧ H pC = some (.lst vs) ∧ vs.length = 3 ∧ ∀ v ∈ vs, PairOk G C H v
theorem ls5 (L : LT G C fI) {σ : L2.St} {H : Hp} (h : LM G T aS ns txAll σ H) : PWS (XLw G f cdv A outer s H0 E) (lS 5) { D with nx := LM5 G C T aS ns } σ H := by
  obtain ⟨fN, mN, PN⟩ := L.pN
  obtain ⟨fR, mR, PR⟩ := L.pR
  obtain ⟨fS, mS, PS_⟩ := L.pS
  obtain ⟨gN, nN, RN⟩ := L.rN
  obtain ⟨gR, nR, RR⟩ := L.rR
  obtain ⟨gS, nS, RS_⟩ := L.rS
  refine pws_of (ps_set (i := 2) sc_law.nd rfl (Or.inl rfl) (pe_lst
    (pa_cons (pe_tup (pa_cons (pe_glob (v := .ref fN) rfl mN rfl) (pa_cons (pe_glob (v := .ref gN) rfl nN rfl) pa_nil)))
    (pa_cons (pe_tup (pa_cons (pe_glob (v := .ref fR) rfl mR rfl) (pa_cons (pe_glob (v := .ref gR) rfl nR rfl) pa_nil)))
    (pa_cons (pe_tup (pa_cons (pe_glob (v := .ref fS) rfl mS rfl) (pa_cons (pe_glob (v := .ref gS) rfl nS rfl) pa_nil))) pa_nil))))) ?_
  obtain ⟨pT, rfl, w, hT⟩ := h
  refine ⟨two_size, fun p0 n0 => ?_⟩
  have s0 := upd_same_of (o := .tup [.ref fN, .ref gN]) n0
  refine ⟨two_size, fun p1 n1 => ?_⟩
  have s1 := upd_same_of (o := .tup [.ref fR, .ref gR]) n1
  refine ⟨two_size, fun p2 n2 => ?_⟩
  have s2 := upd_same_of (o := .tup [.ref fS, .ref gS]) n2
  refine ⟨three_size, fun pL nL => ?_⟩
  have s3 := upd_same_of (o := .lst [.ref p0, .ref p1, .ref p2]) nL
  have t := ((s0.trans s1).trans s2).trans s3
  refine ⟨pT, pL, [.ref p0, .ref p1, .ref p2], rfl, w.same t, t _ _ hT, upd_same, rfl, fun v hv => ?_⟩
  simp only [List.mem_cons, List.not_mem_nil, or_false] at hv
  rcases hv with rfl | rfl | rfl
  · exact ⟨p0, fN, gN, _, rfl, s3 _ _ (s2 _ _ (s1 _ _ upd_same)), PN, RN, shw_numM⟩
  · exact ⟨p1, fR, gR, _, rfl, s3 _ _ (s2 _ _ upd_same), PR, RR, shw_rowM⟩
  · exact ⟨p2, fS, gS, _, rfl, s3 _ _ upd_same, PS_, RS_, shw_spellM⟩
end
abbrev qL : Str := (("law" : Str) ++ ".<locals>.") ++ "<lambda>"
section
variable {G : Gb} {C fI : Addr} {f : Addr} {A : Around} {outer : List Env} {s : Shared} {H0 : Hp} {E : XK} {T : List (Addr × Str)} {aS : Addr} {ns : List Int} {D : Ends}
theorem pe_spotL {cR pR : Addr} (Sp : SpotTxt G) (L : LT G C fI) (TB : TabB G.base G.mg cR pR) (hmT : (pR, qL) ∈ T) (hu : ∀ p ∈ T, p.1 = pR → p.2 = qL) (hr : Room 51 (A.deeper (envOfC "law" (defScope s_law) s.heap.objs.size f (.ref cR))))
    {params : Arguments} {scope : Scope} {p p1 p2 p3 lpos pos : Pos} (LS : LamS (defScope s_law) scope) (hdef : ∀ env, defaultsOf params env = ([], []))
    (hbind : ∀ (q : Str) (cl : List (Str × Addr)) (pm cv ctv : Value), bindArgs (PySem.W.kla_fn "<lambda>" q params (.Call (.Name "call" p1) [.Name "text" p2] [] p3) scope cl pm cv ctv) ⟨[], []⟩ = pure [])
    (hv1 : scope.names.lookup ("call" : Str) = some .free) (hv2 : scope.names.lookup ("text" : Str) = some .free) :
    PE (XLw G f (.ref cR) A outer s H0 E) (.Call (.Name "_law_spot" p) [.Lambda params (.Call (.Name "call" p1) [.Name "text" p2] [] p3) scope lpos] [] pos) (tSpot G C T 3 5) := by
  refine ⟨fun pins s' σ H Q I h => ?_⟩
  obtain ⟨fp, m, l, h1, P, h2, g, hT, q⟩ := h
  obtain ⟨fdp, FP, kp, bp⟩ := P.ex
  obtain ⟨gs, oc, od, dV, kV, doc, pm, cdv, ct, an, osl, hm, hk, lk, hcd, hb⟩ := Sp.ex
  refine (pe_lamcall (X := XLw G f (.ref cR) A outer s H0 E) (x := "_law_spot") (a := "call") (p := p) (lpos := lpos) (pos := pos) (k := 42) (T := T) (TT := TTspot G.K C) (t := fun E => tCallL 3 fp (spParse G C m) [] E (tCons (tVar 5) tNil)) rfl hm hk lk hcd hb sc_law_spot rfl (Or.inl rfl) (spot_gives (X := XLw G f (.ref cR) A outer s H0 E) L.par) TB rfl hmT hu (hr.mono (by decide)) LS (hdef _) hbind
    (fun A' outer' s'' H' E' f' c' hr' => pe_callL (i := 3) FP hr' rfl (Or.inr (Or.inr hv1)) kp bp .nil (passes_call (takes_of rfl rfl rfl rfl) fun _ _ _ _ h => h) (pa_cons (pe_var (i := 5) rfl (Or.inr (Or.inr hv2))) pa_nil))).run pins s' σ H Q I ⟨hT, fun H1 e t1 => ?_⟩
  exact ⟨h1, _, h2, l, rfl, g, spot_out fun v H2 s2 hv => q H1 v H2 e t1 s2 hv⟩
/-- the state of the loops -/
structure LS6 (G : Gb) (C : Addr) (T : List (Addr × Str)) (aS : Addr) (ns : List Int) (pT pX : Addr) (vs : List V) (H : Hp) : Prop where
  w : WS0 G T aS ns H
  hT : H pT = some (.lst (strV txAll))
  hX : H pX = some (.lst vs)
  hv : ∀ v ∈ vs, PairOk G C H v
theorem LS6.same {pT pX : Addr} {vs : List V} {H H1 : Hp} (c : LS6 G C T aS ns pT pX vs H) (s : Same H H1) : LS6 G C T aS ns pT pX vs H1 := ⟨c.w.same s, s _ _ c.hT, s _ _ c.hX, fun v h => (c.hv v h).ext (.of s)⟩
theorem LS6.lam {pT pX : Addr} {vs : List V} {H H1 : Hp} (c : LS6 G C T aS ns pT pX vs H) (e : ExtN H H1) (t : Tabs T H1) : LS6 G C T aS ns pT pX vs H1 := ⟨c.w.lam e t, e _ _ c.hT (fun _ z => by cases z), e _ _ c.hX (fun _ z => by cases z), fun v h => (c.hv v h).ext e⟩
def LM6 (G : Gb) (T : List (Addr × Str)) (aS : Addr) (ns : List Int) : L2.St → Hp → Prop := fun σ H => (∃ o1 o2 o3 o4 o5 : Option V, σ = [some (.ref aS), o1, o2, o3, o4, o5, none, none, none]) ∧ WS0 G T aS ns H
set_option maxHeartbeats 8000000 in
theorem ls6 {cR pR : Addr} (Sp : SpotTxt G) (L : LT G C fI) (hgd : A.guards = some []) (TB : TabB G.base G.mg cR pR) (hmT : (pR, qL) ∈ T) (hu : ∀ p ∈ T, p.1 = pR → p.2 = qL) (hr : Room 51 (A.deeper (envOfC "law" (defScope s_law) s.heap.objs.size f (.ref cR))))
    {σ : L2.St} {H : Hp} (h : LM5 G C T aS ns σ H) : PWS (XLw G f (.ref cR) A outer s H0 E) (lS 6) { D with nx := LM6 G T aS ns } σ H := by
  obtain ⟨fC, mC, PC⟩ := L.pC
  obtain ⟨fG, mG, PG_⟩ := L.pG
  obtain ⟨gC, nC, RC⟩ := L.rC
  obtain ⟨gG, nG, RG⟩ := L.rG
  obtain ⟨fd_, fdd, FD, md, kd, bd⟩ := L.due
  have gRepr : G.mg "repr" = none := L.txt.bn "repr" (by decide +kernel)
  refine pws_of (ps_for PassesOwn.never rfl (pi_list (pe_op op_cat (pv 2) (pe_lst
      (pa_cons (pe_tup (pa_cons (pe_glob (v := .ref fC) rfl mC rfl) (pa_cons (pe_glob (v := .ref gC) rfl nC rfl) pa_nil)))
      (pa_cons (pe_tup (pa_cons (pe_glob (v := .ref fG) rfl mG rfl) (pa_cons (pe_glob (v := .ref gG) rfl nG rfl) pa_nil))) pa_nil)))))
    (pg_tup rfl (pgs_cons (pg_name (i := 3) sc_law.nd rfl (Or.inr rfl)) (pgs_cons (pg_name (i := 4) sc_law.nd rfl (Or.inl rfl)) pgs_nil)))
    (pss_one (ps_for PassesOwn.never rfl (pi_list (pv 1)) (pg_name (i := 5) sc_law.nd rfl (Or.inr rfl))
      (pss_one (ps_if (pt_cmpR op_ne
        (pe_callB (call_repr_D hgd (units_of hr)) rfl gRepr PyProof.Rows.Boot.repr (pa_cons (pe_spotL Sp L TB hmT hu hr (lamS_by (by decide +kernel)) (fun _ => rfl) (fun _ _ _ _ _ => rfl) rfl rfl) pa_nil))
        (pe_callB (call_repr_D hgd (units_of hr)) rfl gRepr PyProof.Rows.Boot.repr (pa_cons (pe_call (dvs := []) (E := fun _ _ _ => False) FD (hr.mono (by decide)) rfl md kd bd .nil passN (pa_cons (pv 4) (pa_cons (pv 5) pa_nil))) pa_nil)) (nomark _))
        (pss_one (ps_ret pe_bl)) pss_nil))))) ?_
  obtain ⟨pT, pC, vs, rfl, w, hT, hC, hl, hv⟩ := h
  refine ⟨_, rfl, two_size, fun p0 n0 => ?_⟩
  have s0 := upd_same_of (o := .tup [.ref fC, .ref gC]) n0
  refine ⟨two_size, fun p1 n1 => ?_⟩
  have s1 := upd_same_of (o := .tup [.ref fG, .ref gG]) n1
  refine ⟨two_size, fun p2 n2 => ?_⟩
  have s2 := upd_same_of (o := .lst [.ref p0, .ref p1]) n2
  have t2 := (s0.trans s1).trans s2
  refine ⟨pC, p2, vs, [.ref p0, .ref p1], rfl, rfl, t2 _ _ hC, upd_same, by rw [hl]; show 3 + 2 ≤ _; rw [sizeLine_eq]; decide, fun pX nX => ?_⟩
  have s3 := upd_same_of (o := .lst (vs ++ [.ref p0, .ref p1])) nX
  have t3 := t2.trans s3
  have c6 : LS6 G C T aS ns pT pX (vs ++ [.ref p0, .ref p1]) (upd (upd (upd (upd H p0 (.tup [.ref fC, .ref gC])) p1 (.tup [.ref fG, .ref gG])) p2 (.lst [.ref p0, .ref p1])) pX (.lst (vs ++ [.ref p0, .ref p1]))) := by
    refine ⟨w.same t3, t3 _ _ hT, upd_same, fun v hv' => ?_⟩
    rcases List.mem_append.mp hv' with h | h
    · exact (hv v h).ext (.of t3)
    · simp only [List.mem_cons, List.not_mem_nil, or_false] at h
      rcases h with rfl | rfl
      · exact ⟨p0, fC, gC, _, rfl, s3 _ _ (s2 _ _ (s1 _ _ upd_same)), PC, RC, shw_rowsM _⟩
      · exact ⟨p1, fG, gG, _, rfl, s3 _ _ (s2 _ _ upd_same), PG_, RG, shw_rowsM _⟩
  refine ⟨pX, rfl, ⟨_, .inl (.inl c6.hX)⟩, ?_⟩
  refine for_list (xs := vs ++ [.ref p0, .ref p1]) (fun _ σ H => ∃ o3 o4 o5 : Option V, σ = [some (.ref aS), some (.ref pT), some (.ref pC), o3, o4, o5, none, none, none] ∧ LS6 G C T aS ns pT pX (vs ++ [.ref p0, .ref p1]) H)
    ⟨none, none, none, rfl, c6⟩ (fun i σ H _ ⟨_, _, _, _, c⟩ => .inl (.inl c.hX)) ?_ (fun σ H ⟨o3, o4, o5, e, c⟩ => ⟨⟨_, _, _, _, _, e⟩, c.w⟩)
  rintro i x σ H hi ⟨o3, o4, o5, rfl, ci⟩
  obtain ⟨p, fp, gr, m, rfl, hp, P, R, SM⟩ := ci.hv x (List.mem_of_getElem? hi)
  refine ⟨p, _, rfl, .inl (.inl hp), rfl, ?_⟩
  refine ⟨_, _, rfl, _, _, rfl, rfl, ?_⟩
  refine ⟨_, rfl, pT, rfl, ⟨_, .inl (.inl ci.hT)⟩, ?_⟩
  refine for_list (xs := strV txAll) (fun _ σ H => ∃ o5 : Option V, σ = [some (.ref aS), some (.ref pT), some (.ref pC), some (.ref fp), some (.ref gr), o5, none, none, none] ∧ LS6 G C T aS ns pT pX (vs ++ [.ref p0, .ref p1]) H)
    ⟨o5, rfl, ci⟩ (fun i σ H _ ⟨_, _, c⟩ => .inl (.inl c.hT)) ?_ (fun σ H ⟨o5, e, c⟩ => ⟨_, _, o5, e, c⟩)
  rintro j x σ H hj ⟨o5, rfl, cj⟩
  obtain ⟨l, hl', rfl⟩ := List.mem_map.mp (List.mem_of_getElem? hj)
  have g' := txAll_ok l hl'
  refine ⟨fp, m, l, rfl, P, rfl, g', cj.w.tabs, fun H2 v H3 e2 t2' s3' hv3 => ?_⟩
  have c3 := (cj.lam e2 t2').same s3'
  have hsh := shw_due SM g'
  have htup : ∃ ds, dueD m l = .tuple ds := by
    unfold dueD tagD
    split
    · exact ⟨_, rfl⟩
    · split
      · exact ⟨_, rfl⟩
      · exact ⟨_, rfl⟩
  obtain ⟨ds, hds⟩ := htup
  refine ⟨v, dueD m l, ds, rfl, hv3, .inl hds, hsh.mono (by decide) (by decide), ?_⟩
  refine ⟨_, rfl, _, rfl, l, gr, m, rfl, g', R, fun v2 H4 s4 hv4 => ?_⟩
  refine ⟨v2, dueD m l, ds, rfl, hv4, .inl hds, hsh.mono (by decide) (by decide), ?_⟩
  refine ⟨rfl, false, by simp, ?_⟩
  exact ⟨some (.str (S l)), rfl, c3.same s4⟩
end

end K81
namespace K81
open PySem PySem.Spec PyProof.Rows L2 JL M81 SX
open TL (tl)
local macro_rules | `(tactic| walk_at "ev") => `(tactic| simp only [e_lit, e_var, e_glob, e_bin, e_neg, e_cmp, e_chain, e_and, e_or, e_not, e_ife, e_own, e_bi, e_isi, e_split, e_join, e_idx, e_slc, e_tup, e_lst, e_fstr, a_nil, a_cons, s_set, s_par, s_if, s_ret, s_drop, b_nil, b_cons, l_and, l_or, l_not, l_neg, l_if, l_ifO, l_lt, l_le, l_gt, l_ge, l_eqI, l_neI, l_chainI, l_inC, l_ninC, l_is, l_isn, l_lenL, l_lenT, l_abs, l_tupL, l_tupT, l_add, l_sub,
  l_isi_s, l_isi_t, isiD, l_seq_nx, l_seq_rt, l_itL, l_itT, l_itS, l_it0, l_it1, l_il0, l_il1, isNoneD, Tg.bind, Tg.wipe,
  Option.bind_some, Option.bind_none, Option.map_some, Option.map_none, List.getElem?_cons_zero, List.getElem?_cons_succ, List.getElem?_nil, Option.join_some, List.set_cons_zero, List.set_cons_succ, Bool.not_true, Bool.not_false, Bool.false_eq_true, if_true, if_false])

open LamX
set_option maxHeartbeats 4000000
/-- the script stands, apart from the dice -/
def ScrN (G : Gb) (aS p : Addr) (ns : List Int) (H : Hp) : Prop := (L2.Rd H aS (.lst (ns.map V.int)) ∧ aS ≠ p) ∨ ∀ H' : Hp, SqL G.K H' aS (ns.map V.int)
theorem ScrN.of {G : Gb} {aS p : Addr} {ns : List Int} {H H1 : Hp} (h : SqL G.K H aS (ns.map V.int)) (np : H p = none) (s : Same H H1) : ScrN G aS p ns H1 := by
  rcases h with h | h
  · refine .inl ⟨?_, fun z => ?_⟩
    · rcases h with h | ⟨o, h⟩
      · exact .inl (s _ _ h)
      · exact .inr ⟨o, s _ _ h⟩
    · subst z
      rcases h with h | ⟨o, h⟩ <;> rw [np] at h <;> cases h
  · exact .inr fun _ => .inr h
theorem ScrN.seq {G : Gb} {aS p : Addr} {ns : List Int} {H : Hp} (h : ScrN G aS p ns H) : SqL G.K H aS (ns.map V.int) := by
  rcases h with h | h
  · exact .inl h.1
  · exact h H
theorem ScrN.xb {G : Gb} {aS p : Addr} {ns : List Int} {H H1 : Hp} (h : ScrN G aS p ns H) (x : XB [p] H H1) : ScrN G aS p ns H1 := by
  rcases h with ⟨h, ne⟩ | h
  · refine .inl ⟨?_, ne⟩
    have nm : aS ∉ [p] := fun z => ne (List.mem_singleton.mp z)
    rcases h with h | ⟨o, h⟩
    · exact .inl (x _ _ nm (fun _ z => by cases z) h)
    · exact .inr ⟨o, x _ _ nm (fun _ z => by cases z) h⟩
  · exact .inr h
/-- the two that the law's second loop calls -/
structure LW (G : Gb) (T : List (Addr × Str)) : Prop where
  dice : ∃ (f : Addr) (fd : FuncData), FnOk G.P G.w G.K G.mg G.base CX0 41 f fd ["script", "spot"] (spDice G.K) ∧ G.mg "_law_dice" = some (.ref f) ∧ PySem.W.keepIn G.K (.ref f) = true ∧ Binds G.K fd ["script", "spot"] []
  right : ∃ (f : Addr) (fd : FuncData), FnG G 51 f fd ["dice"] (spRight T) ∧ G.mg "_law_right" = some (.ref f) ∧ PySem.W.keepIn G.K (.ref f) = true ∧ Binds G.K fd ["dice"] []
section
variable {G : Gb} {C fI : Addr} {f : Addr} {cdv : Value} {A : Around} {outer : List Env} {s : Shared} {H0 : Hp} {E : XK} {T : List (Addr × Str)} {aS : Addr} {ns : List Int} {D : Ends}
theorem ls7 (L : LT G C fI) (W : LW G T) (hgd : A.guards = some []) (hr : Room 51 (A.deeper (envOfC "law" (defScope s_law) s.heap.objs.size f cdv))) (hn : ns.length ≤ 63)
    {σ : L2.St} {H : Hp} (h : LM6 G T aS ns σ H) : PWS (XLw G f cdv A outer s H0 E) (lS 7) { D with nx := fun _ _ => True } σ H := by
  obtain ⟨fD, fdD, FD, mD, kD, bD⟩ := W.dice
  obtain ⟨fR, fdR, FR, mR, kR, bR⟩ := W.right
  have bn := L.txt.bn
  refine pws_of (ps_for PassesOwn.never rfl (pi_range1 rfl (bn "range" (by decide +kernel)) (pa_cons (pe_callB (call_max2 rfl) rfl (bn "max" (by decide +kernel)) PyProof.Rows.Boot.max (pa_cons pe_int (pa_cons
        (pe_callB (call_min2 rfl) rfl (bn "min" (by decide +kernel)) (by decide +kernel) (pa_cons pe_int (pa_cons (pe_callB call_len rfl (bn "len" (by decide +kernel)) boot_len (pa_cons (pv 0) pa_nil)) pa_nil))) pa_nil))) pa_nil))
      (pg_name (i := 6) sc_law.nd rfl (Or.inl rfl))
      (pss_cons (ps_set (i := 7) sc_law.nd rfl (Or.inl rfl) (pe_call (dvs := []) (E := fun _ _ _ => False) FD (hr.mono (by decide)) rfl mD kD bD .nil passN (pa_cons (pv 0) (pa_cons (pv 6) pa_nil))))
      (pss_one (ps_for PassesOwn.never rfl (pi_range1 rfl (bn "range" (by decide +kernel)) (pa_cons pe_int pa_nil)) (pg_name (i := 8) sc_law.nd rfl (Or.inl rfl))
        (pss_one (ps_if (pt_not (pt_val (pe_callG (X := XLw G f cdv A outer s H0 E) rfl rfl rfl rfl rfl FR hgd hr rfl mR kR bR (pa_cons (pv 7) pa_nil)))) (pss_one (ps_ret pe_bl)) pss_nil)))))) ?_
  obtain ⟨⟨o1, o2, o3, o4, o5, rfl⟩, w⟩ := h
  refine ⟨_, rfl, .ref aS, ns.length, rfl, Or.inl ⟨_, w.scr, by rw [List.length_map]⟩, ?_⟩
  refine ⟨6, _, rfl, 1, _, rfl, ?_⟩
  have hb : ∀ v : Int, v = (if (if (ns.length : Int) < 6 then (ns.length : Int) else 6) > 1 then (if (ns.length : Int) < 6 then (ns.length : Int) else 6) else 1) → 1 ≤ v ∧ v ≤ 6 := fun v hv => by
    subst hv
    split <;> split <;> omega
  refine ⟨_, rfl, ?_⟩
  generalize hv : (if (if (ns.length : Int) < 6 then (ns.length : Int) else 6) > 1 then (if (ns.length : Int) < 6 then (ns.length : Int) else 6) else 1) = v
  obtain ⟨b1, b2⟩ := hb v hv.symm
  refine ⟨by omega, by omega, ?_⟩
  refine for_range (lo := 0) (n := v.toNat) (fun _ σ H => ∃ o1 o2 o3 o4 o5 o6 o7 o8 : Option V, σ = [some (.ref aS), o1, o2, o3, o4, o5, o6, o7, o8] ∧ WS0 G T aS ns H)
    ⟨o1, o2, o3, o4, o5, none, none, none, rfl, w⟩ ?_ (fun σ H _ => trivial)
  rintro i σ H hi ⟨o1, o2, o3, o4, o5, o6, o7, o8, rfl, w⟩
  have hi6 : i < 6 := by omega
  refine ⟨_, rfl, _, rfl, aS, i, ns, by rw [Int.zero_add]; rfl, w.scr, by omega, by omega, fun p H2 s2 np hd => ?_⟩
  refine ⟨2, rfl, by decide, by decide, ?_⟩
  refine for_range (lo := 0) (n := (2 : Int).toNat) (fun j σ H => ∃ o6 o8 : Option V, σ = [some (.ref aS), o1, o2, o3, o4, o5, o6, some (.ref p), o8] ∧ DiceOk (1000 - 200 * j) p H ∧ Tabs T H ∧ ScrN G aS p ns H)
    ⟨some (.int (0 + (i : Int))), o8, rfl, hd.mono (by decide), w.tabs.ext s2, ScrN.of w.scr np s2⟩ ?_ (fun σ H ⟨o6, o8, e, _, t, sn⟩ => ⟨o1, o2, o3, o4, o5, o6, some (.ref p), o8, e, t, sn.seq⟩)
  rintro j σ H hj ⟨o6, o8, rfl, dk, tb, sn⟩
  have hj2 : j < 2 := hj
  refine ⟨_, rfl, p, 1000 - 200 * (j + 1), rfl, dk.mono (by omega), tb, fun H' r => ?_⟩
  refine ⟨true, rfl, ?_⟩
  exact ⟨o6, some (.int (0 + (j : Int))), rfl, r.dice, r.tabs, sn.xb r.ext⟩
theorem ls8 {σ : L2.St} {H : Hp} (h : D.rt (.bl true) H) : PWS (XLw G f cdv A outer s H0 E) (lS 8) D σ H := pws_of (ps_ret pe_bl) h
end
def spLaw (K : PySem.W.Frag) (T : List (Addr × Str)) : Sp := fun vs H Q _ => ∃ (a : Addr) (ns : List Int), vs = [.ref a] ∧ SqL K H a (ns.map V.int) ∧ ns.length ≤ 63 ∧ Tabs T H ∧ ∀ H', Q (.bl true) H'
section
variable {G : Gb} {C fI : Addr} {f : Addr} {A : Around} {outer : List Env} {s : Shared} {H0 : Hp} {E : XK} {T : List (Addr × Str)} {a : Addr} {ns : List Int} {D : Ends}
theorem law_body {cL pL : Addr} (Sp : SpotTxt G) (L : LT G C fI) (W : LW G T) (hgd : A.guards = some []) (TB : TabB G.base G.mg cL pL) (hmT : (pL, qL) ∈ T) (hu : ∀ p ∈ T, p.1 = pL → p.2 = qL) (hr : Room 51 (A.deeper (envOfC "law" (defScope s_law) s.heap.objs.size f (.ref cL)))) (hn : ns.length ≤ 63)
    {H : Hp} (ht : Tabs T H) (hS : SqL G.K H a (ns.map V.int)) (out : ∀ H', D.rt (.bl true) H') : PWB (XLw G f (.ref cL) A outer s H0 E) [lS 0, lS 1, lS 2, lS 3, lS 4, lS 5, lS 6, lS 7, lS 8] D (L2.start NL_ [.ref a]) H := by
  refine pw_cut (LM G T a ns tx0) (ls0 ⟨ht, hS⟩) fun σ1 H1 h1 => ?_
  refine pw_cut (LM G T a ns (tx0 ++ tx1)) (ls1 h1) fun σ2 H2 h2 => ?_
  refine pw_cut (LM G T a ns (tx0 ++ tx1 ++ tx2)) (ls2 h2) fun σ3 H3 h3 => ?_
  refine pw_cut (LM G T a ns (tx0 ++ tx1 ++ tx2 ++ tx3)) (ls3 h3) fun σ4 H4 h4 => ?_
  refine pw_cut (LM G T a ns (tx0 ++ tx1 ++ tx2 ++ tx3 ++ tx4)) (ls4 h4) fun σ5 H5 h5 => ?_
  refine pw_cut (LM5 G C T a ns) (ls5 L h5) fun σ6 H6 h6 => ?_
  refine pw_cut (LM6 G T a ns) (ls6 Sp L hgd TB hmT hu hr h6) fun σ7 H7 h7 => ?_
  refine pw_cut (fun _ _ => True) (ls7 L W hgd hr hn h7) fun σ8 H8 _ => ?_
  exact pw_cut (fun _ _ => False) (ls8 (out H8)) fun _ _ z => z.elim
end
theorem FunC.okP {G : Gb} {x : Str} {st : Stmt} {f c : Addr} {fd : FuncData} {N ps : List Str} {k : Nat} {sp : Sp} (F : FunC G x st f fd c) (S : FnScope N ps (defScope st)) (len : ∀ vs H Q E, sp vs H Q E → vs.length = ps.length) {B : List Stmt} (hB : defBody st = B)
    (hbody : ∀ (A : Around) (outer : List Env) (s : Shared) (H : Hp) (vs : List V) (Q : VK) (E : XK), A.guards = some [] → Room k (A.deeper (envOfC x (defScope st) s.heap.objs.size f (.ref c))) → sp vs H Q E →
      PWB (cxOf CX0 G.P G.w G.K G.mg G.base N x (defScope st) f (.ref c) A outer s H E).nox B { nx := fun _ H' => Q .non H', rt := Q } (start N vs) H) : FnG G (k + 1) f fd ps sp :=
  F.ok S len fun A outer s H vs Q E hg hr hs => by rw [hB]; exact (hbody A outer s H vs Q E hg hr hs).run
theorem ok_law {G : Gb} {C fI cL pL : Addr} {T : List (Addr × Str)} (Sp : SpotTxt G) (L : LT G C fI) (W : LW G T) (TB : TabB G.base G.mg cL pL) (hmT : (pL, qL) ∈ T) (hu : ∀ p ∈ T, p.1 = pL → p.2 = qL) {f : Addr} {fd : FuncData} (F : FunC G "law" s_law f fd cL) : FnG G 52 f fd ["script"] (spLaw G.K T) := by
  refine F.okP (N := NL_) sc_law (fun vs H Q E h => ?_) body_law (fun A outer s H vs Q E hgd hr hs => ?_)
  · obtain ⟨a, ns, rfl, _⟩ := h
    rfl
  obtain ⟨a, ns, rfl, hS, hn, ht, out⟩ := hs
  exact law_body Sp L W hgd TB hmT hu hr hn ht hS out

end K81
namespace K81
open PySem PySem.Spec PyProof.Rows L2 JL M81 SX
open TL (tl)
local macro_rules | `(tactic| walk_at "ev") => `(tactic| simp only [e_lit, e_var, e_glob, e_bin, e_neg, e_cmp, e_chain, e_and, e_or, e_not, e_ife, e_own, e_bi, e_isi, e_split, e_join, e_idx, e_slc, e_tup, e_lst, e_fstr, a_nil, a_cons, s_set, s_par, s_if, s_ret, s_drop, b_nil, b_cons, l_and, l_or, l_not, l_neg, l_if, l_ifO, l_lt, l_le, l_gt, l_ge, l_eqI, l_neI, l_chainI, l_inC, l_ninC, l_is, l_isn, l_lenL, l_lenT, l_abs, l_tupL, l_tupT, l_add, l_sub,
  l_isi_s, l_isi_t, isiD, l_seq_nx, l_seq_rt, l_itL, l_itT, l_itS, l_it0, l_it1, l_il0, l_il1, isNoneD, Tg.bind, Tg.wipe,
  Option.bind_some, Option.bind_none, Option.map_some, Option.map_none, List.getElem?_cons_zero, List.getElem?_cons_succ, List.getElem?_nil, Option.join_some, List.set_cons_zero, List.set_cons_succ, Bool.not_true, Bool.not_false, Bool.false_eq_true, if_true, if_false])

open LamX
set_option maxHeartbeats 4000000
/-! ### an own end: the law knows the guards -/
/-- what is tracked at the law's entry: the tables, and the script where the written part does not hold it -/
def entryHp (K : PySem.W.Frag) (a : Addr) (o : Obj) (l : List V) (ts : List Addr) : Hp := fun b =>
  if b ∈ ts then some (.tbl #[]) else if b = a ∧ (K.lookup a).isNone = true then some (.frz o (.lst l)) else none
theorem entry_tab {K : PySem.W.Frag} {a b : Addr} {o : Obj} {l : List V} {ts : List Addr} (h : b ∈ ts) : entryHp K a o l ts b = some (.tbl #[]) := if_pos h
theorem entry_scr {K : PySem.W.Frag} {a : Addr} {o : Obj} {l : List V} {ts : List Addr} (h : a ∉ ts) (n : K.lookup a = none) : entryHp K a o l ts a = some (.frz o (.lst l)) :=
  (if_neg h).trans (if_pos ⟨rfl, by rw [n]; rfl⟩)
theorem entry_inv {K : PySem.W.Frag} {a b : Addr} {o : Obj} {l : List V} {ts : List Addr} {u : HO} (h : entryHp K a o l ts b = some u) : (b ∈ ts ∧ u = .tbl #[]) ∨ (b = a ∧ K.lookup a = none ∧ u = .frz o (.lst l)) := by
  unfold entryHp at h
  split at h
  · rename_i hb
    exact .inl ⟨hb, (Option.some.inj h).symm⟩
  · split at h
    · rename_i hb
      refine .inr ⟨hb.1, ?_, (Option.some.inj h).symm⟩
      have := hb.2
      cases q : K.lookup a with
      | none => rfl
      | some o => rw [q] at this; cases this
    · cases h
/-- what the head tells of the law -/
def LawG (l : PySem.W.OpenLaw) (w : World) (K : PySem.W.Frag) (k n : Nat) (x : Str) (mg : Str → Option Value) (fa : Addr) (h : Heap) : Prop :=
  ∃ (fd : FuncData) (cs : List (Addr × Addr)) (sp : Sp),
    (∀ p ∈ cs, h.get? p.2 = some { cls := .none, data := .fields #[] } ∧ K.lookup p.2 = none ∧ PySem.W.CodeHd h p.1 p.2) ∧
    (∀ (s : Shared) (u : Value), BindsTo s fd ⟨[u], []⟩ [(x, u)]) ∧
    (∀ (H : Hp) (a : Addr) (ns : List Int), ns.length ≤ n → (∀ p ∈ cs, H p.2 = some (.tbl #[])) → SqL K H a (ns.map V.int) → sp [.ref a] H (fun v _ => v = .bl true) fun _ _ _ => False) ∧
    ∀ base : Heap, K.In base → base.Ns mainGlobals mg → (∀ p ∈ cs, TabB base mg p.1 p.2) → FnG ⟨l.prog, w, K, mg, base⟩ k fa fd [x] sp
theorem end_walk {l : PySem.W.OpenLaw} {n k : Nat} {q : Program} {loose : List Str} {XP : (Str → Option Value) → Heap → Prop} {YP : World → Heap → Prop} {d : DefRec} {K : Params → PySem.W.Frag} {x : Str}
    (most : l.most = some n) (small : n ≤ sizeLine) (plain : d.params.defaults = []) (room : Room k callerA) (free : callerA.guards = some [])
    (inK : ∀ (w : World) (h : Heap), YP w h → (K w.params).In h)
    (facts : ∀ (w : World) (mg : Str → Option Value) (fa : Addr) (h : Heap), YP w h → (K w.params).In h → h.Ns mainGlobals mg → XP mg h → mg d.name = some (.ref fa) → LawG l w (K w.params) k n x mg fa h) :
    PySem.W.WalkO q loose XP YP l.row.toRowW d [] (fun f vs => PySem.call f vs) := by
  refine Att.attach_callB most plain fun w s0 s1 mg mb fa o pm cd doc a vs ns gr Y _ _ _ hmg hobj ivs len _ nogen => ?_
  have kin := inK w _ Y
  obtain ⟨fd, cs, sp, tabs, binds, asks, keeps⟩ := facts w mg fa _ Y kin gr.T.g gr.X hmg
  let ts := cs.map (·.2)
  let H : Hp := entryHp (K w.params) a { cls := .type "list", data := .seq vs.toArray } (ns.map V.int) ts
  have at_t : ∀ b ∈ ts, s1.heap.get? b = some { cls := .none, data := .fields #[] } := fun b hb => by
    obtain ⟨p, hp, rfl⟩ := List.mem_map.mp hb
    exact (tabs p hp).1
  have in_t : ∀ p ∈ cs, p.2 ∈ ts := fun p hp => List.mem_map_of_mem hp
  have a_t : a ∉ ts := fun z => by
    have := (at_t a z).symm.trans hobj
    cases this
  have rv := vals_ints ivs
  -- an object that is neither a list nor an empty table is not tracked
  have off : ∀ {b : Addr} {ob : Obj}, s1.heap.get? b = some ob → ((∃ u m, ob.data = .seq u m) ∨ ob.data = .fields #[] → False) → H b = none := fun {b ob} e no => by
    cases hq : H b with
    | none => rfl
    | some u =>
      rcases entry_inv hq with ⟨hb, _⟩ | ⟨hb, _, _⟩
      · have := e.symm.trans (at_t b hb)
        cases this
        exact (no (.inr rfl)).elim
      · subst hb
        have := e.symm.trans hobj
        cases this
        exact (no (.inl ⟨_, _, rfl⟩)).elim
  have up : ∀ {b : Addr} {ob : Obj}, s1.heap.get? b = some ob → ((∃ u m, ob.data = .seq u m) ∨ ob.data = .fields #[] → False) → (hidT s1.heap H).get? b = some ob := fun e no => hidT_get e (off e no)
  have upN : ∀ {b : Addr} {m : Str → Option Value}, s1.heap.Ns b m → (hidT s1.heap H).Ns b m := fun {b m} z => by
    obtain ⟨ob, es, ep, e, hd, r⟩ := z
    refine ⟨ob, es, ep, up e fun z => ?_, hd, r⟩
    rw [hd] at z
    rcases z with ⟨_, _, z⟩ | z <;> cases z
  have kinB : (K w.params).In (hidT s1.heap H) := fun b ob e => hidT_get (kin b ob e) (by
    cases hq : H b with
    | none => rfl
    | some u =>
      rcases entry_inv hq with ⟨hb, _⟩ | ⟨hb, hk, _⟩
      · obtain ⟨p, hp, rfl⟩ := List.mem_map.mp hb
        rw [(tabs p hp).2.1] at e
        cases e
      · subst hb
        rw [hk] at e
        cases e)
  have modB : L2.Mod (K w.params) mg (hidT s1.heap H) := by
    obtain ⟨mc, c1, c2⟩ := gr.T.nolimit
    exact ⟨kinB, upN gr.T.g, ⟨mb, upN gr.T.b, gr.T.builtins⟩, ⟨mc, upN c1, c2⟩⟩
  have tabB : ∀ p ∈ cs, TabB (hidT s1.heap H) mg p.1 p.2 := fun p hp => by
    obtain ⟨t1, t2, t3⟩ := tabs p hp
    refine ⟨?_, ?_, fun z => ?_⟩
    · obtain ⟨oc, us, fl, tf, g1, g2, g3, g4, g5, e1, e2, e3, r⟩ := t3
      refine ⟨oc, us, fl, tf, g1, g2, g3, g4, g5, up e1 fun z => ?_, e2, e3, r⟩
      rw [e3] at z
      rcases z with ⟨_, _, z⟩ | z
      · cases z
      · cases z
        have r1 := r.1
        simp at r1
    · obtain ⟨bm, ob, b1, b2, b3, b4, b5, b6⟩ := gr.T.bmain
      refine ⟨bm, ob, b1, b2, fun z => ?_, fun z => ?_, up b3 fun z => ?_, b4, b5, b6⟩
      · subst z
        obtain ⟨og, es, ep, e, hd, _⟩ := gr.T.g
        have := e.symm.trans b3
        cases this
        rw [b6] at hd
        cases hd
      · subst z
        have := t1.symm.trans b3
        cases this
        cases b6
      · rw [b6] at z
        rcases z with ⟨_, _, z⟩ | z <;> cases z
    · obtain ⟨og, es, ep, e, hd, _⟩ := gr.T.g
      rw [z] at e
      have := t1.symm.trans e
      cases this
      cases hd
  have hokH : HOk l.prog w H s1.heap := fun b u hu => by
    rcases entry_inv hu with ⟨hb, rfl⟩ | ⟨hb, _, rfl⟩
    · exact at_t b hb
    · subst hb
      exact ⟨hobj, by rw [List.length_map]; exact Nat.le_trans len small, vs, _, rv, hobj⟩
  have env0 : Env0 l.prog w (K w.params) mg (hidT s1.heap H) callerA [] s1 H :=
    { frames := rfl, mod := modB, bs := fun b ob e => of_hidT e, bsz := Nat.le_of_eq (hidT_size _ _), funs := trivial, frf := fun b hb => (nomatch hb), hok := hokH, bare := .of_eq nogen }
  have scrS : SqL (K w.params) H a (ns.map V.int) := by
    cases hk : (K w.params).lookup a with
    | none => exact .inl (.inr ⟨_, entry_scr a_t hk⟩)
    | some ok =>
      have := (kin a ok hk).symm.trans hobj
      cases this
      exact .inr ⟨_, vs.toArray, _, hk, rfl, rfl, rfl, by rw [List.size_toArray, ivs.length]; exact Nat.le_trans len small, by simpa using rv⟩
  have goes := (keeps _ kinB (upN gr.T.g) tabB).run callerA [] s1 H ⟨[.ref a], []⟩ [.ref a] [.ref a] (fun v _ => v = .bl true) (fun _ _ _ => False) free room env0 (binds s1 (.ref a)) (.cons rfl .nil) (asks H a ns len (fun p hp => entry_tab (in_t p hp)) scrS)
  refine codeAny_mono goes fun r s2 out => ?_
  match r, out with
  | .ok (.ret u), out =>
    obtain ⟨v, H2, sameOs, bare2, un, ok2, rel, isT⟩ := out
    have isT' : v = .bl true := isT
    subst isT'
    obtain rfl : u = Value.bool true := rel
    have more : ∀ b ∈ ts, ∃ ps : Array Value, s2.heap.get? b = some { cls := .none, data := .fields (#[] ++ ps) } := fun b hb => by
      obtain ⟨ps, z⟩ := un.tbls b #[] (entry_tab hb)
      exact ⟨ps, ok2 b _ z⟩
    have stays : ∀ b ob, b ∉ ts → s1.heap.get? b = some ob → s2.heap.get? b = some ob := fun b ob nb e => by
      cases hq : H b with
      | none => exact un.keep b ob e hq (fun z => nomatch z) (fun z => nomatch z)
      | some u =>
        rcases entry_inv hq with ⟨hb, _⟩ | ⟨hb, _, rfl⟩
        · exact (nb hb).elim
        · have z2 := ok2 b _ (un.frzs b _ _ hq)
          have z1 := hokH b _ hq
          have e' := z1.1.symm.trans e
          cases e'
          exact z2.1
    refine ⟨rfl, ⟨fun b ob e => ?_, fun b ob e => ?_⟩, sameOs, bare2⟩
    · by_cases hb : b ∈ ts
      · obtain ⟨ps, hm⟩ := more b hb
        obtain ⟨p, hp, rfl⟩ := List.mem_map.mp hb
        obtain ⟨t1, t2, t3⟩ := tabs p hp
        have e' := t1.symm.trans e
        cases e'
        exact .inr (.inl ⟨(t3.tab t1).isCodeTable, rfl, #[], ps, rfl, hm⟩)
      · exact .inl (stays b ob hb e)
    · by_cases hb : b ∈ ts
      · obtain ⟨ps, hm⟩ := more b hb
        exact ⟨_, hm⟩
      · exact ⟨ob, stays b ob hb e⟩

end K81
namespace K81
open PySem PySem.Spec PyProof.Rows L2 JL M81 SX
open TL (tl)
local macro_rules | `(tactic| walk_at "ev") => `(tactic| simp only [e_lit, e_var, e_glob, e_bin, e_neg, e_cmp, e_chain, e_and, e_or, e_not, e_ife, e_own, e_bi, e_isi, e_split, e_join, e_idx, e_slc, e_tup, e_lst, e_fstr, a_nil, a_cons, s_set, s_par, s_if, s_ret, s_drop, b_nil, b_cons, l_and, l_or, l_not, l_neg, l_if, l_ifO, l_lt, l_le, l_gt, l_ge, l_eqI, l_neI, l_chainI, l_inC, l_ninC, l_is, l_isn, l_lenL, l_lenT, l_abs, l_tupL, l_tupT, l_add, l_sub,
  l_isi_s, l_isi_t, isiD, l_seq_nx, l_seq_rt, l_itL, l_itT, l_itS, l_it0, l_it1, l_il0, l_il1, isNoneD, Tg.bind, Tg.wipe,
  Option.bind_some, Option.bind_none, Option.map_some, Option.map_none, List.getElem?_cons_zero, List.getElem?_cons_succ, List.getElem?_nil, Option.join_some, List.set_cons_zero, List.set_cons_succ, Bool.not_true, Bool.not_false, Bool.false_eq_true, if_true, if_false])

open LamX
set_option maxHeartbeats 8000000
/-! ### what the head tells -/
def mkD (p : Str × Stmt) : He.DefD := { at_ := (p.1, none), name := p.1, qual := p.1, params := defArgs p.2, body := defBody p.2, scope := defScope p.2 }
def dl : List (Str × Stmt) := [(("is_integer" : Str), s_is_integer), (("is_name" : Str), s_is_name), (("common_divisor" : Str), s_common_divisor), (("is_number" : Str), s_is_number), (("require_number" : Str), s_require_number), (("is_plain_row" : Str), s_is_plain_row), (("require_text" : Str), s_require_text), (("require_sizes" : Str), s_require_sizes), (("number_text" : Str), s_number_text), (("row_text" : Str), s_row_text), (("rows_text" : Str), s_rows_text), (("format_number" : Str), s_format_number), (("is_any_row" : Str), s_is_any_row), (("are_any_rows" : Str), s_are_any_rows), (("format_row" : Str), s_format_row), (("spell_text" : Str), s_spell_text), (("format_spell" : Str), s_format_spell), (("format_course" : Str), s_format_course), (("format_readings" : Str), s_format_readings), (("whole_in" : Str), s_whole_in), (("number_in" : Str), s_number_in), (("row_in" : Str), s_row_in), (("spell_in" : Str), s_spell_in), (("rows_in" : Str), s_rows_in), (("course_in" : Str), s_course_in), (("readings_in" : Str), s_readings_in), (("lines_of" : Str), s_lines_of), (("_law_fr" : Str), s_law_fr), (("_law_number_text" : Str), s_law_number_text), (("_law_row_text" : Str), s_law_row_text), (("_law_read_whole" : Str), s_law_read_whole), (("_law_read_number" : Str), s_law_read_number), (("_law_read_row" : Str), s_law_read_row), (("_law_is_name" : Str), s_law_is_name), (("_law_spell_text" : Str), s_law_spell_text), (("_law_read_spell" : Str), s_law_read_spell), (("_law_rows_text" : Str), s_law_rows_text), (("_law_read_rows" : Str), s_law_read_rows), (("_law_read_course" : Str), s_law_read_course), (("_law_read_readings" : Str), s_law_read_readings), (("one_line" : Str), s_one_line), (("parse_number" : Str), s_parse_number), (("parse_row" : Str), s_parse_row), (("parse_spell" : Str), s_parse_spell), (("parse_course" : Str), s_parse_course), (("parse_readings" : Str), s_parse_readings), (("_law_dice" : Str), s_law_dice), (("_law_roll" : Str), s_law_roll), (("_law_pick" : Str), s_law_pick), (("_law_bent" : Str), s_law_bent), (("_law_due" : Str), s_law_due), (("_law_spot" : Str), s_law_spot), (("_law_right" : Str), s_law_right), (("law" : Str), s_law)]
/-- each def stands as it is written -/
structure Stand (K : PySem.W.Frag) : Prop where
  val : (dl.map fun p => He.fnW K (p.1, none)) = dl.map fun p => (mkD p).val
  ok : (dl.all fun p => (mkD p).ok K && (He.Fa.glo p.1).ok K) = true
theorem defX_of {G : Gb} {h : Heap} (kin : G.K.In h) (g : h.Ns mainGlobals G.mg) (S : Stand G.K) {x : Str} {st : Stmt} (hp : (x, st) ∈ dl) : DefX G x st := by
  have e := List.map_inj_left.mp S.val (x, st) hp
  have c := List.all_eq_true.mp S.ok (x, st) hp
  rw [Bool.and_eq_true] at c
  obtain ⟨fd, D⟩ := He.DefD.funD (K := G.K) (d := mkD (x, st)) e c.1
  refine ⟨He.fAd G.K (x, none), fd, ⟨?_, D.kp⟩, He.glo_ok kin g c.2⟩
  obtain ⟨oc, od, dV, kV, doc, pm, an, cdv, ct, osl, h1, h2, h3, h4, _⟩ := D.ex
  rcases h4 with ⟨_, rfl⟩ | ⟨h4, _⟩
  · exact ⟨oc, od, kV, doc, pm, an, cdv, ct, osl, h1, h2, h3⟩
  · exact absurd rfl h4
def codeAt (K : PySem.W.Frag) (x : Str) (c : Addr) : Bool := match K.lookup (He.ga K x) with
  | some ⟨_, _, .func fd, _⟩ => (match fd.code with
    | .ref b => decide (b = c)
    | _ => false)
  | _ => false
theorem funC_of {G : Gb} {h : Heap} (kin : G.K.In h) (g : h.Ns mainGlobals G.mg) (S : Stand G.K) {x : Str} {st : Stmt} {c : Addr} (hp : (x, st) ∈ dl) (hc : codeAt G.K x c = true) {f : Addr} (hm : G.mg x = some (.ref f)) :
    ∃ fd, FunC G x st f fd c ∧ PySem.W.keepIn G.K (.ref f) = true ∧ Fun G.K x x st f fd := by
  have e := List.map_inj_left.mp S.val (x, st) hp
  have cc := List.all_eq_true.mp S.ok (x, st) hp
  rw [Bool.and_eq_true] at cc
  obtain ⟨fd, D⟩ := He.DefD.funD (K := G.K) (d := mkD (x, st)) e cc.1
  have hm2 : G.mg x = some (.ref (He.ga G.K x)) := He.glo_ok kin g cc.2
  have ef : f = He.ga G.K x := by
    have := hm.symm.trans hm2
    cases this
    rfl
  subst ef
  obtain ⟨oc, od, dV, kV, doc, pm, an, cdv, ct, osl, rfl, h2, h3, h4, _⟩ := D.ex
  have h2' : G.K.lookup (He.ga G.K x) = _ := h2
  have e4 : dV = .none := by
    rcases h4 with ⟨_, z⟩ | ⟨h4, _⟩
    · exact z
    · exact absurd rfl h4
  subst e4
  have ec : cdv = .ref c := by
    unfold codeAt at hc
    rw [h2'] at hc
    cases cdv <;> first | (exact Bool.noConfusion hc) | skip
    have hc2 := of_decide_eq_true hc
    rw [hc2]
  subst ec
  exact ⟨_, ⟨oc, od, kV, doc, pm, an, ct, osl, rfl, h2, h3⟩, D.kp, ⟨⟨oc, od, kV, doc, pm, an, _, ct, osl, rfl, h2, h3⟩, D.kp⟩⟩
def gInts : List (Str × Int) := [("MAX_LETTERS", 12), ("MAX_TEXT", 9000), ("MAX_DIGITS", 4000)]
def gStrs : List (Str × Str) := [("LETTERS", "abcdefghijklmnopqrstuvwxyz"), ("DIGITS", "0123456789"), ("LINE_END", "\n"), ("NONE", "none"), ("REST", "rest"), ("NOTHING", "nothing"), ("COMMA", ", ")]
def gFree : List Str := bltNames ++ [("list" : Str), ("super" : Str)]
structure Vals0 (K : PySem.W.Frag) : Prop where
  vi : (gInts.all fun p => (He.Fa.int p.1 p.2).ok K) = true
  vz : (gStrs.all fun p => (He.Fa.str p.1 p.2).ok K) = true
  vf : (gFree.all fun x => (He.Fa.free x).ok K) = true
theorem gv_of {G : Gb} {h : Heap} (kin : G.K.In h) (g : h.Ns mainGlobals G.mg) (V : Vals0 G.K) (s1 : ∃ t, G.mg "SIGNS" = some (.str "abcdefghijklmnopqrstuvwxyz0123456789." t)) (s2 : ∃ t, G.mg "MOST_WRITTEN" = some (.int (10 ^ 4000) t)) : GvOk G gv := by
  have I : ∀ {x i}, (x, i) ∈ gInts → ∃ t, G.mg x = some (.int i t) := fun {x i} hp => He.int_ok kin g (List.all_eq_true.mp V.vi _ hp)
  have Z : ∀ {x z}, (x, z) ∈ gStrs → ∃ t, G.mg x = some (.str z t) := fun {x z} hp => He.str_ok kin g (List.all_eq_true.mp V.vz _ hp)
  have i1 : ∀ {x : Str} {i : Int}, (∃ t, G.mg x = some (.int i t)) → ∃ u v, G.mg x = some u ∧ RelV v u ∧ ∀ H, Dp G.K H v (.int i) := fun ⟨t, e⟩ => ⟨_, .int _, e, ⟨t, rfl⟩, fun _ => .int _⟩
  have z1 : ∀ {x : Str} {z : Str}, (∃ t, G.mg x = some (.str z t)) → ∃ u v, G.mg x = some u ∧ RelV v u ∧ ∀ H, Dp G.K H v (.str z) := fun ⟨t, e⟩ => ⟨_, .str _, e, ⟨t, rfl⟩, fun _ => .str _⟩
  intro x d hd
  have step : ∀ {y : Str} {e : PyData} {r : List (Str × PyData)}, gvOf ((y, e) :: r) x = some d → (y = x ∧ e = d) ∨ gvOf r x = some d := fun {y e r} h => by
    unfold gvOf at h
    split at h
    · rename_i hy
      exact .inl ⟨hy, Option.some.inj h⟩
    · exact .inr h
  unfold gv at hd
  rcases step hd with ⟨rfl, rfl⟩ | hd
  · exact i1 (I (List.mem_of_getElem? (i := 0) rfl))
  rcases step hd with ⟨rfl, rfl⟩ | hd
  · exact z1 (Z (List.mem_of_getElem? (i := 0) rfl))
  rcases step hd with ⟨rfl, rfl⟩ | hd
  · exact z1 s1
  rcases step hd with ⟨rfl, rfl⟩ | hd
  · exact i1 (I (List.mem_of_getElem? (i := 1) rfl))
  rcases step hd with ⟨rfl, rfl⟩ | hd
  · exact i1 (I (List.mem_of_getElem? (i := 2) rfl))
  rcases step hd with ⟨rfl, rfl⟩ | hd
  · exact i1 s2
  rcases step hd with ⟨rfl, rfl⟩ | hd
  · exact z1 (Z (List.mem_of_getElem? (i := 1) rfl))
  rcases step hd with ⟨rfl, rfl⟩ | hd
  · exact z1 (Z (List.mem_of_getElem? (i := 2) rfl))
  rcases step hd with ⟨rfl, rfl⟩ | hd
  · exact z1 (Z (List.mem_of_getElem? (i := 3) rfl))
  rcases step hd with ⟨rfl, rfl⟩ | hd
  · exact z1 (Z (List.mem_of_getElem? (i := 4) rfl))
  rcases step hd with ⟨rfl, rfl⟩ | hd
  · exact z1 (Z (List.mem_of_getElem? (i := 5) rfl))
  rcases step hd with ⟨rfl, rfl⟩ | hd
  · exact z1 (Z (List.mem_of_getElem? (i := 6) rfl))
  cases hd
theorem free_of {G : Gb} {h : Heap} (kin : G.K.In h) (g : h.Ns mainGlobals G.mg) (V : Vals0 G.K) {x : Str} (hx : x ∈ gFree) : G.mg x = none := He.free_ok kin g (List.all_eq_true.mp V.vf _ hx)
theorem txt_of {G : Gb} {h : Heap} (kin : G.K.In h) (g : h.Ns mainGlobals G.mg) (S : Stand G.K) (V : Vals0 G.K) (hgv : GvOk G gv) : Txt G where
  gv := hgv
  bn := fun x hx => free_of kin g V (List.mem_append_left _ hx)
  d_is_integer := defX_of kin g S (List.mem_of_getElem? (i := 0) rfl)
  d_is_name := defX_of kin g S (List.mem_of_getElem? (i := 1) rfl)
  d_common_divisor := defX_of kin g S (List.mem_of_getElem? (i := 2) rfl)
  d_is_number := defX_of kin g S (List.mem_of_getElem? (i := 3) rfl)
  d_require_number := defX_of kin g S (List.mem_of_getElem? (i := 4) rfl)
  d_is_plain_row := defX_of kin g S (List.mem_of_getElem? (i := 5) rfl)
  d_require_text := defX_of kin g S (List.mem_of_getElem? (i := 6) rfl)
  d_require_sizes := defX_of kin g S (List.mem_of_getElem? (i := 7) rfl)
  d_number_text := defX_of kin g S (List.mem_of_getElem? (i := 8) rfl)
  d_row_text := defX_of kin g S (List.mem_of_getElem? (i := 9) rfl)
  d_rows_text := defX_of kin g S (List.mem_of_getElem? (i := 10) rfl)
  d_format_number := defX_of kin g S (List.mem_of_getElem? (i := 11) rfl)
  d_is_any_row := defX_of kin g S (List.mem_of_getElem? (i := 12) rfl)
  d_are_any_rows := defX_of kin g S (List.mem_of_getElem? (i := 13) rfl)
  d_format_row := defX_of kin g S (List.mem_of_getElem? (i := 14) rfl)
  d_spell_text := defX_of kin g S (List.mem_of_getElem? (i := 15) rfl)
  d_format_spell := defX_of kin g S (List.mem_of_getElem? (i := 16) rfl)
  d_format_course := defX_of kin g S (List.mem_of_getElem? (i := 17) rfl)
  d_format_readings := defX_of kin g S (List.mem_of_getElem? (i := 18) rfl)
  d_whole_in := defX_of kin g S (List.mem_of_getElem? (i := 19) rfl)
  d_number_in := defX_of kin g S (List.mem_of_getElem? (i := 20) rfl)
  d_row_in := defX_of kin g S (List.mem_of_getElem? (i := 21) rfl)
  d_spell_in := defX_of kin g S (List.mem_of_getElem? (i := 22) rfl)
  d_rows_in := defX_of kin g S (List.mem_of_getElem? (i := 23) rfl)
  d_course_in := defX_of kin g S (List.mem_of_getElem? (i := 24) rfl)
  d_readings_in := defX_of kin g S (List.mem_of_getElem? (i := 25) rfl)
  d_lines_of := defX_of kin g S (List.mem_of_getElem? (i := 26) rfl)
  d_law_fr := defX_of kin g S (List.mem_of_getElem? (i := 27) rfl)
  d_law_number_text := defX_of kin g S (List.mem_of_getElem? (i := 28) rfl)
  d_law_row_text := defX_of kin g S (List.mem_of_getElem? (i := 29) rfl)
  d_law_read_whole := defX_of kin g S (List.mem_of_getElem? (i := 30) rfl)
  d_law_read_number := defX_of kin g S (List.mem_of_getElem? (i := 31) rfl)
  d_law_read_row := defX_of kin g S (List.mem_of_getElem? (i := 32) rfl)
  d_law_is_name := defX_of kin g S (List.mem_of_getElem? (i := 33) rfl)
  d_law_spell_text := defX_of kin g S (List.mem_of_getElem? (i := 34) rfl)
  d_law_read_spell := defX_of kin g S (List.mem_of_getElem? (i := 35) rfl)
  d_law_rows_text := defX_of kin g S (List.mem_of_getElem? (i := 36) rfl)
  d_law_read_rows := defX_of kin g S (List.mem_of_getElem? (i := 37) rfl)
  d_law_read_course := defX_of kin g S (List.mem_of_getElem? (i := 38) rfl)
  d_law_read_readings := defX_of kin g S (List.mem_of_getElem? (i := 39) rfl)
theorem lt_of {G : Gb} {h : Heap} {C fI : Addr} (kin : G.K.In h) (g : h.Ns mainGlobals G.mg) (S : Stand G.K) (V : Vals0 G.K) (hgv : GvOk G gv) (P : PySem.PEX.ParTxt G.K G.mg G.P C fI) : LT G C fI := by
  have t := txt_of kin g S V hgv
  have hl : G.mg "list" = none := free_of kin g V (List.mem_of_getElem? (i := 13) rfl)
  have d_one_line : DefX G "one_line" s_one_line := defX_of kin g S (List.mem_of_getElem? (i := 40) rfl)
  have d_parse_number : DefX G "parse_number" s_parse_number := defX_of kin g S (List.mem_of_getElem? (i := 41) rfl)
  have d_parse_row : DefX G "parse_row" s_parse_row := defX_of kin g S (List.mem_of_getElem? (i := 42) rfl)
  have d_parse_spell : DefX G "parse_spell" s_parse_spell := defX_of kin g S (List.mem_of_getElem? (i := 43) rfl)
  have d_parse_course : DefX G "parse_course" s_parse_course := defX_of kin g S (List.mem_of_getElem? (i := 44) rfl)
  have d_parse_readings : DefX G "parse_readings" s_parse_readings := defX_of kin g S (List.mem_of_getElem? (i := 45) rfl)
  have d_law_dice : DefX G "_law_dice" s_law_dice := defX_of kin g S (List.mem_of_getElem? (i := 46) rfl)
  have d_law_roll : DefX G "_law_roll" s_law_roll := defX_of kin g S (List.mem_of_getElem? (i := 47) rfl)
  have d_law_pick : DefX G "_law_pick" s_law_pick := defX_of kin g S (List.mem_of_getElem? (i := 48) rfl)
  have d_law_bent : DefX G "_law_bent" s_law_bent := defX_of kin g S (List.mem_of_getElem? (i := 49) rfl)
  have d_law_due : DefX G "_law_due" s_law_due := defX_of kin g S (List.mem_of_getElem? (i := 50) rfl)
  have d_law_spot : DefX G "_law_spot" s_law_spot := defX_of kin g S (List.mem_of_getElem? (i := 51) rfl)
  have d_law_right : DefX G "_law_right" s_law_right := defX_of kin g S (List.mem_of_getElem? (i := 52) rfl)
  have d_law : DefX G "law" s_law := defX_of kin g S (List.mem_of_getElem? (i := 53) rfl)
  have dice := dice_of t d_law_roll d_law_pick
  obtain ⟨f1, fd1, F1, m1⟩ := t.d_law_fr.ex
  obtain ⟨f2, fd2, F2, m2⟩ := d_law_bent.ex
  obtain ⟨f3, fd3, F3, m3⟩ := d_law_due.ex
  have b1 := F1.binds (ps := ["top", "bottom"]) fun _ _ _ _ _ _ us hl => match us, hl with | [_, _], _ => rfl
  have b2 := F2.binds (ps := ["dice", "text"]) fun _ _ _ _ _ _ us hl => match us, hl with | [_, _], _ => rfl
  have b3 := F3.binds (ps := ["read", "text"]) fun _ _ _ _ _ _ us hl => match us, hl with | [_, _], _ => rfl
  refine ⟨t, P, dice, hl, ⟨f1, fd1, ?_, m1, F1.kp, b1⟩, ⟨f2, fd2, ok_bent t dice hl F2, m2, F2.kp, b2⟩, ⟨f3, fd3, ok_law_due t F3, m3, F3.kp, b3⟩, ok_parse_number t P d_one_line d_parse_number, ok_parse_row t P d_one_line d_parse_row, ok_parse_spell t P d_one_line d_parse_spell, ok_parse_course t P d_one_line d_parse_course, ok_parse_readings t P d_one_line d_parse_readings, ?_, ?_, ?_, ?_, ?_⟩
  · refine (fn_pure2 (W := 5000) F1 sc_law_fr cc_law_fr (ok27 t) t.gv t.bn fun ds d hd => ?_).mono (by decide)
    obtain ⟨a, b, h1, h2, h3, rfl, rfl⟩ := hd
    exact ⟨rfl, _, ev_law_fr _ a b h1 h2 h3, rfl⟩
  · have := Rd.of (j := 40) (m := fun l => optQ (numIn l)) (ok31 t) t.gv t.bn t.d_law_read_number sc_law_read_number cc_law_read_number rfl (fun _ _ _ _ _ _ us hl => match us, hl with | [_], _ => rfl) (fun l gl => by rw [numIn_law]; exact a_law_read_number l gl) (by decide)
    exact this
  · have := Rd.of (j := 40) (m := fun l => optR (rowIn l)) (ok32 t) t.gv t.bn t.d_law_read_row sc_law_read_row cc_law_read_row rfl (fun _ _ _ _ _ _ us hl => match us, hl with | [_], _ => rfl) (fun l gl => by rw [rowIn_law]; exact a_law_read_row l gl) (by decide)
    exact this
  · exact Rd.of (j := 40) (ok35 t) t.gv t.bn t.d_law_read_spell sc_law_read_spell cc_law_read_spell rfl (fun _ _ _ _ _ _ us hl => match us, hl with | [_], _ => rfl) a_law_read_spell (by decide)
  · exact Rd.of (j := 40) (ok38 t) t.gv t.bn t.d_law_read_course sc_law_read_course cc_law_read_course rfl (fun _ _ _ _ _ _ us hl => match us, hl with | [_], _ => rfl) a_law_read_course (by decide)
  · exact Rd.of (j := 40) (ok39 t) t.gv t.bn t.d_law_read_readings sc_law_read_readings cc_law_read_readings rfl (fun _ _ _ _ _ _ us hl => match us, hl with | [_], _ => rfl) a_law_read_readings (by decide)
def pRow : PySem.W.OpenLaw := PySem.Challenge.rw_whichran_k81_whole_texts_of_numbers_rows
/-- the law's row of the end -/
theorem law_at {w : World} {K : PySem.W.Frag} {mg : Str → Option Value} {h : Heap} {C fI cR pR cL pL fa : Addr} {lv : List (Str × PySem.W.WData)} {q : Program} (kin : K.In h) (g : h.Ns mainGlobals mg) (S : Stand K) (V : Vals0 K) (xp : PySem.W.XL q lv mg h) (P : PySem.PEX.ParTxt K mg pRow.prog C fI)
    (l1 : (("SIGNS" : Str), PySem.W.WData.str "abcdefghijklmnopqrstuvwxyz0123456789.") ∈ lv) (l2 : (("MOST_WRITTEN" : Str), PySem.W.WData.int (10 ^ 4000)) ∈ lv) (hfa : mg "law" = some (.ref fa)) (c1 : codeAt K "_law_right" cR = true) (c2 : codeAt K "law" cL = true)
    (t1 : h.get? pR = some { cls := .none, data := .fields #[] }) (t2 : h.get? pL = some { cls := .none, data := .fields #[] }) (n1 : K.lookup pR = none) (n2 : K.lookup pL = none) (h1 : PySem.W.codeHdIn K cR pR = true) (h2 : PySem.W.codeHdIn K cL pL = true) (hne : pR ≠ pL) : LawG pRow w K 52 63 "script" mg fa h := by
  have hs1 : ∃ t, mg "SIGNS" = some (.str "abcdefghijklmnopqrstuvwxyz0123456789." t) := by
    obtain ⟨v, e, r⟩ := xp.2.val _ l1
    cases r
    exact ⟨_, e⟩
  have hs2 : ∃ t, mg "MOST_WRITTEN" = some (.int (10 ^ 4000) t) := by
    obtain ⟨v, e, r⟩ := xp.2.val _ l2
    cases r
    exact ⟨_, e⟩
  let G0 : Gb := ⟨pRow.prog, w, K, mg, h⟩
  obtain ⟨fdl, FL, _, FL2⟩ := funC_of (G := G0) kin g S (x := "law") (st := s_law) (c := cL) (List.mem_of_getElem? (i := 53) rfl) c2 hfa
  have bL := FL2.binds (ps := ["script"]) fun _ _ _ _ _ _ us hl => match us, hl with | [_], _ => rfl
  have FLe := FL.ex
  let T : List (Addr × Str) := [(pR, qR), (pL, qL)]
  refine ⟨fdl, [(cR, pR), (cL, pL)], spLaw K T, ?_, fun s u => ?_, fun H a ns hn ht hS => ⟨a, ns, rfl, hS, hn, ?_, fun _ => rfl⟩, fun base kb gb tb => ?_⟩
  · intro p hp
    simp only [List.mem_cons, List.not_mem_nil, or_false] at hp
    rcases hp with rfl | rfl
    · exact ⟨t1, n1, PySem.W.codeHd_of_K kin h1⟩
    · exact ⟨t2, n2, PySem.W.codeHd_of_K kin h2⟩
  · obtain ⟨oc, od, kV, doc, pm, an, ct, osl, rfl, _, _⟩ := FLe
    exact .of_eq rfl
  · intro p hp
    simp only [T, List.mem_cons, List.not_mem_nil, or_false] at hp
    rcases hp with rfl | rfl
    · exact TabS.nil (ht (cR, pR) (by simp))
    · exact TabS.nil (ht (cL, pL) (by simp))
  · let G : Gb := ⟨pRow.prog, w, K, mg, base⟩
    have L : LT G C fI := lt_of (G := G) kb gb S V (gv_of (G := G) kb gb V hs1 hs2) P
    have dsp : DefX G "_law_spot" s_law_spot := defX_of (G := G) kb gb S (List.mem_of_getElem? (i := 51) rfl)
    have ddi : DefX G "_law_dice" s_law_dice := defX_of (G := G) kb gb S (List.mem_of_getElem? (i := 46) rfl)
    have dri : DefX G "_law_right" s_law_right := defX_of (G := G) kb gb S (List.mem_of_getElem? (i := 52) rfl)
    have Sp := spotTxt_of dsp
    obtain ⟨f1, fd1, F1, m1⟩ := ddi.ex
    obtain ⟨f2, fd2, F2, m2⟩ := dri.ex
    obtain ⟨fdr, FR, kR, FR2⟩ := funC_of (G := G) kb gb S (x := "_law_right") (st := s_law_right) (c := cR) (List.mem_of_getElem? (i := 52) rfl) c1 m2
    obtain ⟨fdl2, FL', _, FL3⟩ := funC_of (G := G) kb gb S (x := "law") (st := s_law) (c := cL) (List.mem_of_getElem? (i := 53) rfl) c2 hfa
    have b1 := F1.binds (ps := ["script", "spot"]) fun _ _ _ _ _ _ us hl => match us, hl with | [_, _], _ => rfl
    have b2 := FR2.binds (ps := ["dice"]) fun _ _ _ _ _ _ us hl => match us, hl with | [_], _ => rfl
    have u1 : ∀ p ∈ T, p.1 = pR → p.2 = qR := fun p hp e => by
      simp only [T, List.mem_cons, List.not_mem_nil, or_false] at hp
      rcases hp with rfl | rfl
      · rfl
      · exact absurd e.symm hne
    have u2 : ∀ p ∈ T, p.1 = pL → p.2 = qL := fun p hp e => by
      simp only [T, List.mem_cons, List.not_mem_nil, or_false] at hp
      rcases hp with rfl | rfl
      · exact absurd e hne
      · rfl
    have W : LW G T := ⟨⟨f1, fd1, ok_dice L.txt F1, m1, F1.kp, b1⟩, ⟨f2, fdr, ok_right Sp L (tb (cR, pR) (by simp)) (by simp [T]) u1 FR, m2, kR, b2⟩⟩
    exact ok_law Sp L W (tb (cL, pL) (by simp)) (by simp [T]) u2 ⟨FLe⟩

end K81
namespace K81
open PySem PySem.Spec PyProof.Rows L2 JL M81 SX
open TL (tl)
local macro_rules | `(tactic| walk_at "ev") => `(tactic| simp only [e_lit, e_var, e_glob, e_bin, e_neg, e_cmp, e_chain, e_and, e_or, e_not, e_ife, e_own, e_bi, e_isi, e_split, e_join, e_idx, e_slc, e_tup, e_lst, e_fstr, a_nil, a_cons, s_set, s_par, s_if, s_ret, s_drop, b_nil, b_cons, l_and, l_or, l_not, l_neg, l_if, l_ifO, l_lt, l_le, l_gt, l_ge, l_eqI, l_neI, l_chainI, l_inC, l_ninC, l_is, l_isn, l_lenL, l_lenT, l_abs, l_tupL, l_tupT, l_add, l_sub,
  l_isi_s, l_isi_t, isiD, l_seq_nx, l_seq_rt, l_itL, l_itT, l_itS, l_it0, l_it1, l_il0, l_il1, isNoneD, Tg.bind, Tg.wipe,
  Option.bind_some, Option.bind_none, Option.map_some, Option.map_none, List.getElem?_cons_zero, List.getElem?_cons_succ, List.getElem?_nil, Option.join_some, List.set_cons_zero, List.set_cons_succ, Bool.not_true, Bool.not_false, Bool.false_eq_true, if_true, if_false])

open LamX
theorem par_of {K : PySem.W.Frag} {mg : Str → Option Value} {h : Heap} {P : Program} {C fI : Addr} (kin : K.In h) (g : h.Ns mainGlobals mg)
    (aC : PySem.W.nsIn K mainGlobals "ParseError" = some (some (.ref C))) (aS : PySem.W.nsIn K mainGlobals "super" = some none)
    {nm q : Str} {N : Addr} {bs bm : List Value} {sn : List Str} {sub : List Value} {ab : Bool} {col : Option Bool} {dd : Option Addr} {k0 k1 k2 k3 k5 : Option Value}
    (xC : K.lookup C = some (excClassObj nm q C N bs bm true sn sub ab col dd k0 k1 k2 k3 k5 "ValueError.__new__")) (bmV : PySem.HandSPX.refsVE bm = true) (bmI : PySem.W.alongIn K "__init__" bm = some (some (.builtin "ValueError.__init__")))
    (sa : PySem.W.findIn K (.ref C) "__setattr__" = some (some (.builtin "object.__setattr__"))) (ga : PySem.W.findIn K (.ref C) "__getattribute__" = some (some (.builtin "BaseException.__getattribute__"))) (gg : PySem.W.findIn K (.ref C) "__getattr__" = some none) (noN : PySem.W.findIn K (.ref C) "line" = some none)
    (iC : PySem.W.findIn K (.ref C) "__init__" = some (some (.ref fI))) (tC : PySem.W.typeIn K (.ref fI) = some (.type "function")) (kC : PySem.W.keepIn K (.ref C) = true) (exC : PySem.W.subIn K (.ref C) (.type "BaseException") = some true) (veC : PySem.W.subIn K (.ref C) (.type "ValueError") = some true)
    (slf : PySem.W.mroIn K C (.ref C) = some true) (tyC : PySem.W.typeIn K (.ref C) = some (.type "type")) (hdC : PySem.W.hasDictIn K C = true) (opq : PySem.W.nsIn K PySem.cStatics "thirdparty.any" = some none) (te : PySem.W.exmOne K (.ref C) (.ref C) = some true)
    (top : (P.main.scope.names.lookup ("super" : Str)).isSome = false)
    {oc ct ccl cl doc pm : Value} {od an cdd cld : Option Addr} {osl ccs csl : Array (Option Value)} {cda cc : Addr} {vs : Array Value} {file : Str} {tf : Tok} {p0 p1 p3 p4 p5 p6 p8 p9 p10 p11 p12 : Pos}
    (lF : K.lookup fI = some ⟨oc, od, .func (PySem.W.ksFn "__init__" "ParseError.__init__" PySem.PEX.iA (PySem.PEX.mkB p0 p1 p3 p4 p5 p6 p8 p9 p10 p11 p12) PySem.PEX.iS .none .none doc pm an (.ref cda) ct cc), osl⟩) (cF : PySem.W.codeIn K (.ref cda) "ParseError.__init__" = true)
    (lD : K.lookup cda = some ⟨ccl, cdd, .fields vs, ccs⟩) (fl : vs[2]? = some (.str file tf)) (fe : ((P.main.file : Str) == file) = true) (lc : K.lookup cc = some ⟨cl, cld, .cell (some (.ref C)), csl⟩) : PySem.PEX.ParTxt K mg P C fI where
  gC := PySem.W.mg_of kin g aC
  gS := PySem.W.mg_none_of kin g aS
  cls := ⟨nm, q, N, bs, bm, sn, sub, ab, col, dd, k0, k1, k2, k3, k5, xC, bmV, bmI⟩
  sa := sa
  ga := ga
  gg := gg
  noN := noN
  iC := iC
  tC := tC
  kC := kC
  exC := exC
  veC := veC
  slf := slf
  tyC := tyC
  hdC := hdC
  opq := opq
  te := te
  top := top
  fn := ⟨oc, od, doc, pm, an, ct, osl, cda, cc, ccl, cdd, vs, ccs, file, tf, cl, cld, csl, p0, p1, p3, p4, p5, p6, p8, p9, p10, p11, p12, lF, cF, lD, fl, fe, lc⟩

end K81
open PySem PySem.W PyProof.Rows
set_option maxHeartbeats 0
namespace K81
open_top ktop for PySem.Challenge.rw_whichran_k81_whole_texts_of_numbers_rows
end K81
set_option maxHeartbeats 0
open PySem PySem.W PyProof.Rows
theorem PySem.Challenge.cw_whichran_k81_whole_texts_of_numbers_rows_holds : PySem.Challenge.rw_whichran_k81_whole_texts_of_numbers_rows.Holds := by
  refine K81.ktop ?_
  k_fill
  refine K81.end_walk (l := PySem.Challenge.rw_whichran_k81_whole_texts_of_numbers_rows) (n := 63) (k := 52) (x := "script") rfl (by decide) (by kernel_rfl) ⟨rfl, by decide, by decide⟩ rfl (fun w h Y => km_in_of Y) fun w mg fa h Y KX G xp hmg => ?_
  have tabs := km_tabs_of Y
  refine K81.law_at (C := 106) (fI := 103) (cR := 458) (pR := 456) (cL := 465) (pL := 461) KX G ?s ?v xp ?p ?l1 ?l2 hmg ?c1 ?c2 (tabs 456 (by k_mem)) (tabs 461 (by k_mem)) ?n1 ?n2 ?h1 ?h2 (by decide)
  case s => exact ⟨by kernel_rfl, by kernel_rfl⟩
  case v => exact ⟨by kernel_rfl, by kernel_rfl, by kernel_rfl⟩
  case l1 => exact List.mem_of_getElem? (i := 0) rfl
  case l2 => exact List.mem_of_getElem? (i := 1) (by kernel_rfl)
  case c1 => kernel_rfl
  case c2 => kernel_rfl
  case n1 => kernel_rfl
  case n2 => kernel_rfl
  case h1 => kernel_rfl
  case h2 => kernel_rfl
  case p =>
    refine' K81.par_of KX G ?aC ?aS ?xC ?bmV ?bmI ?sa ?ga ?gg ?noN ?iC ?tC ?kC ?exC ?veC ?slf ?tyC ?hdC ?opq ?te ?top ?lF ?cF ?lD ?fl ?fe ?lc
    (case xC => k_is)
    (case lF => k_is)
    (case lD => k_is)
    (case lc => k_is)
    (case aC => kernel_rfl)
    (case aS => kernel_rfl)
    (case bmV => kernel_rfl)
    (case bmI => kernel_rfl)
    (case sa => kernel_rfl)
    (case ga => kernel_rfl)
    (case gg => kernel_rfl)
    (case noN => kernel_rfl)
    (case iC => kernel_rfl)
    (case tC => kernel_rfl)
    (case kC => kernel_rfl)
    (case exC => kernel_rfl)
    (case veC => kernel_rfl)
    (case slf => kernel_rfl)
    (case tyC => kernel_rfl)
    (case hdC => kernel_rfl)
    (case opq => kernel_rfl)
    (case te => kernel_rfl)
    (case top => kernel_rfl)
    (case cF => kernel_rfl)
    (case fl => exact rfl)
    (case fe => kernel_rfl)
