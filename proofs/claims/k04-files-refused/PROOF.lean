import PyProof.Rows.All
import Wide.All
import OpenK.AllK
import Wide.FinOn
import HandS.ForMost
import HandS.ForExc
import HandS.Defaults
import HandS.HeadHook1
import HandS.HeadHook2
import HandS.IsInst
import HandS.Steps
import HandS.MakeKw
import HandS.MakeKwOnly
import HandS.ExcIs
import HandS.SetFor
import KE.KStateDown
import Lean
import HandS.More
import HandS.Head0
import HandS.Head1
import HandS.Head2
import HandS.HeadEnd
import PySem.Challenge.RW_pipehouse_k04_files_refused
set_option Elab.async false
set_option linter.all false
set_option maxRecDepth 100000
set_option maxHeartbeats 4000000
namespace Ph
open PySem PySem.Spec PyProof.Rows L2
/-! ### heaps that grow and change -/
/-- what F does not touch is kept; what is there stays there -/
structure Kp (F : Addr → Prop) (H H2 : Hp) : Prop where
  keep : ∀ b o, H b = some o → ¬ F b → H2 b = some o
  free : ∀ b, H2 b = none → H b = none
def No : Addr → Prop := fun _ => False
def One (a : Addr) : Addr → Prop := fun b => b = a
def Two (a c : Addr) : Addr → Prop := fun b => b = a ∨ b = c
theorem Kp.refl {F : Addr → Prop} {H : Hp} : Kp F H H := ⟨fun _ _ h _ => h, fun _ h => h⟩
theorem Kp.trans {F : Addr → Prop} {H H1 H2 : Hp} (a : Kp F H H1) (b : Kp F H1 H2) : Kp F H H2 :=
  ⟨fun x o h n => b.keep x o (a.keep x o h n) n, fun x h => a.free x (b.free x h)⟩
theorem Kp.mono {F G : Addr → Prop} {H H1 : Hp} (a : Kp F H H1) (h : ∀ b, F b → G b) : Kp G H H1 :=
  ⟨fun x o e n => a.keep x o e fun z => n (h x z), a.free⟩
theorem Kp.no {F : Addr → Prop} {H H1 : Hp} (a : Kp No H H1) : Kp F H H1 := a.mono fun _ z => z.elim
theorem Kp.new {F : Addr → Prop} {H : Hp} {p : Addr} {o : HO} (h : H p = none) : Kp F H (upd H p o) :=
  ⟨fun x u e _ => by rw [upd_ne (ne_of_none e h)]; exact e, fun x e => by
    by_cases z : x = p
    · rw [z]; exact h
    · rw [upd_ne z] at e; exact e⟩
theorem Kp.put {F : Addr → Prop} {H : Hp} {p : Addr} {o u : HO} (h : H p = some u) (hf : F p) : Kp F H (upd H p o) :=
  ⟨fun x w e n => by rw [upd_ne (fun z => n (by rw [z]; exact hf))]; exact e, fun x e => by
    by_cases z : x = p
    · rw [z, upd_same] at e; cases e
    · rw [upd_ne z] at e; exact e⟩
theorem Kp.put1 {H : Hp} {p : Addr} {o u : HO} (h : H p = some u) : Kp (One p) H (upd H p o) := Kp.put h rfl
/-- changes of what is new since H are none of H -/
theorem Kp.fresh {F G : Addr → Prop} {H H1 H2 : Hp} (a : Kp F H H1) (b : Kp G H1 H2) (h : ∀ x, G x → F x ∨ H x = none) : Kp F H H2 :=
  ⟨fun x o e n => b.keep x o (a.keep x o e n) fun z => (h x z).elim n fun q => (by rw [q] at e; cases e), fun x e => a.free x (b.free x e)⟩
theorem Kp.some {F : Addr → Prop} {H H1 : Hp} (a : Kp F H H1) {x : Addr} {o : HO} (h : H x = Option.some o) : ∃ u, H1 x = Option.some u := by
  cases e : H1 x with
  | none => rw [a.free x e] at h; cases h
  | some u => exact ⟨u, rfl⟩
theorem Kp.sq {K : PySem.W.Frag} {F : Addr → Prop} {H H1 : Hp} (k : Kp F H H1) {a : Addr} {xs : List V} (n : ¬ F a) (h : SqL K H a xs) : SqL K H1 a xs := by
  rcases h with (h | ⟨o, h⟩) | h
  · exact .inl (.inl (k.keep _ _ h n))
  · exact .inl (.inr ⟨o, k.keep _ _ h n⟩)
  · exact .inr h
theorem Kp.sqt {K : PySem.W.Frag} {F : Addr → Prop} {H H1 : Hp} (k : Kp F H H1) {a : Addr} {xs : List V} (n : ¬ F a) (h : SqT K H a xs) : SqT K H1 a xs := by
  rcases h with (h | ⟨o, h⟩) | h
  · exact .inl (.inl (k.keep _ _ h n))
  · exact .inl (.inr ⟨o, k.keep _ _ h n⟩)
  · exact .inr h
/-- a step at a goal over a new object: the heap by what is known of it -/
theorem new_at {H : Hp} {p : Addr} {o : HO} {G : Hp → Prop} (h : H p = none) (k : ∀ H2, Kp No H H2 → H2 p = some o → G H2) : G (upd H p o) := k _ (Kp.new h) upd_same
theorem put_at {H : Hp} {p : Addr} {o u : HO} {G : Hp → Prop} (h : H p = some u) (k : ∀ H2, Kp (One p) H H2 → H2 p = some o → G H2) : G (upd H p o) := k _ (Kp.put1 h) upd_same
theorem lt_line {n : Nat} (h : n ≤ 100000) : n ≤ sizeLine := Nat.le_trans h (by decide)
theorem lt_line1 {n : Nat} (h : n < 100000) : n < sizeLine := Nat.lt_of_lt_of_le h (by decide)

/-! ### readings, a step each -/
section
variable {D : Ends} {σ : L2.St} {H : Hp} {Q : VK} {ta tb te tc tv : TE} {t u : TS} {c c' : TT} {g : TG} {i : Nat} {v : V} {K : PySem.W.Frag} {r : R2} {E : XK} {sp : Sp}
theorem r_seq (h : t { D with nx := u D } σ H) : tSeq t u D σ H := h
theorem r_next (h : D.nx σ H) : tNext D σ H := h
theorem r_set (h : te σ H fun x H1 => D.nx (σ.set i (some x)) H1) : tAsg te (gName i) D σ H := h
theorem r_asg (h : te σ H fun x H1 => g x σ H1 D.nx) : tAsg te g D σ H := h
theorem r_drop (h : te σ H fun _ H1 => D.nx σ H1) : tDrop te D σ H := h
theorem r_ret (h : te σ H D.rt) : tRet te D σ H := h
theorem r_if (h : c σ H fun b H1 => if b = true then t D σ H1 else u D σ H1) : tIfS c t u D σ H := h
theorem r_var (h : σ[i]? = some (some v)) (q : Q v H) : tVar i σ H Q := ⟨v, h, q⟩
theorem r_c (q : Q v H) : tC v σ H Q := q
theorem r_op (h : ta σ H fun x H1 => tb σ H1 fun y H2 => r x y H2 Q) : tOp r ta tb σ H Q := h
theorem r_un {r : V → Hp → VK → Prop} (h : ta σ H fun x H1 => r x H1 Q) : tUn r ta σ H Q := h
theorem r_I0 {g : Int → Int → V} {i j : Int} (q : Q (g i j) H) : rI0 g (.int i) (.int j) H Q := ⟨i, j, rfl, rfl, q⟩
theorem r_I {C : Int → Int → Prop} {g : Int → Int → V} {i j : Int} (hc : C i j) (q : Q (g i j) H) : rI C g (.int i) (.int j) H Q := ⟨i, j, rfl, rfl, hc, q⟩
theorem r_eq {x y : V} (h : scal x y = true) (q : Q (.bl (decide (x = y))) H) : rEq x y H Q := ⟨h, q⟩
theorem r_ne {x y : V} (h : scal x y = true) (q : Q (.bl (!decide (x = y))) H) : rNe x y H Q := ⟨h, q⟩
theorem r_nil {Q : List V → Hp → Prop} (q : Q [] H) : tNil σ H Q := q
theorem r_cons {tr : TA} {Q : List V → Hp → Prop} (h : ta σ H fun x H1 => tr σ H1 fun xs H2 => Q (x :: xs) H2) : tCons ta tr σ H Q := h
theorem r_cb {r : List V → Hp → VK → Prop} {t : TA} (h : t σ H fun vs H1 => r vs H1 Q) : tCB r t σ H Q := h
theorem r_call {dvs : List V} {t : TA} (h : t σ H fun vs H1 => sp (vs ++ dvs) H1 Q E) : tCall sp dvs E t σ H Q := h
theorem r_B {Q : Bool → Hp → Prop} (h : te σ H fun x H1 => ∃ c, x = .bl c ∧ Q c H1) : tB te σ H Q := h
theorem r_test {Q : Bool → Hp → Prop} (h : te σ H fun x H1 => ∃ c, x = .bl c ∧ Q c H1) : tTest te σ H Q := h
theorem r_and {Q : Bool → Hp → Prop} (h : c σ H fun b H1 => if b = true then c' σ H1 Q else Q false H1) : tAnd c c' σ H Q := h
theorem r_or {Q : Bool → Hp → Prop} (h : c σ H fun b H1 => if b = true then Q true H1 else c' σ H1 Q) : tOr c c' σ H Q := h
theorem r_not {Q : Bool → Hp → Prop} (h : c σ H fun b H1 => Q (!b) H1) : tNot c σ H Q := h
theorem r_andV (h : ta σ H fun x H1 => ∃ c, x = .bl c ∧ if c = true then tb σ H1 Q else Q (.bl false) H1) : tAndV ta tb σ H Q := h
theorem r_orV (h : ta σ H fun x H1 => ∃ c, x = .bl c ∧ if c = true then Q (.bl true) H1 else tb σ H1 Q) : tOrV ta tb σ H Q := h
theorem r_notV (h : ta σ H fun x H1 => ∃ c, x = .bl c ∧ Q (.bl (!c)) H1) : tNotV ta σ H Q := h
theorem r_ifE (h : c σ H fun b H1 => if b = true then ta σ H1 Q else tb σ H1 Q) : tIf c ta tb σ H Q := h
/-- o.f of the value x -/
def fldQ (K : PySem.W.Frag) (f : Str) (Q : VK) (x : V) (H1 : Hp) : Prop := ∃ a C dx fs v, x = .ref a ∧ H1 a = some (.ins C dx fs) ∧ Cls K C ∧ NoAttr K C f ∧ fs.lookup f = some v ∧ Q v H1
theorem r_fld {f : Str} (h : ta σ H fun x H1 => fldQ K f Q x H1) : tFld K ta f σ H Q := h
theorem f_get {f : Str} {a C dx : Addr} {fs : List (Str × V)} (h : H a = some (.ins C dx fs)) (hc : Cls K C) (hn : NoAttr K C f) (hl : fs.lookup f = some v) (q : Q v H) : fldQ K f Q (.ref a) H := ⟨a, C, dx, fs, v, rfl, h, hc, hn, hl, q⟩
/-- o.f = y of the value x -/
def sfQ (K : PySem.W.Frag) (f : Str) (y : V) (N : Hp → Prop) (x : V) (H2 : Hp) : Prop := ∃ a C dx fs, x = .ref a ∧ H2 a = some (.ins C dx fs) ∧ Cls K C ∧ NoAttr K C f ∧ fs.length < 1000 ∧ N (upd H2 a (.ins C dx (putF f y fs)))
theorem r_sfld {f : Str} (h : tv σ H fun y H1 => ta σ H1 fun x H2 => sfQ K f y (D.nx σ) x H2) : sFld K ta tv f D σ H := h
theorem f_put {f : Str} {a C dx : Addr} {fs fs' : List (Str × V)} {N : Hp → Prop} (h : H a = some (.ins C dx fs)) (hc : Cls K C) (hn : NoAttr K C f) (hl : fs.length < 1000) (e : putF f v fs = fs') (q : ∀ H2, Kp (One a) H H2 → H2 a = some (.ins C dx fs') → N H2) : sfQ K f v N (.ref a) H :=
  ⟨a, C, dx, fs, rfl, h, hc, hn, hl, by rw [e]; exact q _ (Kp.put1 h) upd_same⟩
/-- a new list, a new tuple -/
def lstQ (Q : VK) (xs : List V) (H1 : Hp) : Prop := xs.length ≤ sizeLine ∧ ∀ p, H1 p = none → Q (.ref p) (upd H1 p (.lst xs))
def tupQ (Q : VK) (xs : List V) (H1 : Hp) : Prop := xs.length ≤ sizeLine ∧ ∀ p, H1 p = none → Q (.ref p) (upd H1 p (.tup xs))
theorem r_lst {t : TA} (h : t σ H fun xs H1 => lstQ Q xs H1) : tLst t σ H Q := h
theorem r_tup {t : TA} (h : t σ H fun xs H1 => tupQ Q xs H1) : tTup t σ H Q := h
theorem n_lst {xs : List V} (hz : xs.length ≤ 100000) (q : ∀ p H2, H p = none → Kp No H H2 → H2 p = some (.lst xs) → Q (.ref p) H2) : lstQ Q xs H := ⟨lt_line hz, fun p hp => q p _ hp (Kp.new hp) upd_same⟩
theorem n_tup {xs : List V} (hz : xs.length ≤ 100000) (q : ∀ p H2, H p = none → Kp No H H2 → H2 p = some (.tup xs) → Q (.ref p) H2) : tupQ Q xs H := ⟨lt_line hz, fun p hp => q p _ hp (Kp.new hp) upd_same⟩
theorem r_ixL {p : Addr} {xs : List V} {i : Int} (h : SqL K H p xs) (ha : atI xs i = some v) (q : Q v H) : rIxL K (.ref p) (.int i) H Q := ⟨p, xs, i, v, rfl, rfl, h, ha, q⟩
theorem r_ixT {p : Addr} {xs : List V} {i : Int} (h : SqT K H p xs) (ha : atI xs i = some v) (q : Q v H) : rIxT K (.ref p) (.int i) H Q := ⟨p, xs, i, v, rfl, rfl, h, ha, q⟩
/-- len of a list or a tuple -/
def rLenS (K : PySem.W.Frag) : List V → Hp → VK → Prop := fun xs H Q => ∃ p ys, xs = [.ref p] ∧ (SqL K H p ys ∨ SqT K H p ys) ∧ Q (.int ys.length) H
theorem c_len {X : Cx} : CallR X (.builtin "len") (rLenS X.K) := call_len_seq
theorem r_len {p : Addr} {xs : List V} (h : SqL K H p xs) (q : Q (.int xs.length) H) : rLenS K [.ref p] H Q := ⟨p, xs, rfl, .inl h, q⟩
theorem r_lenT {p : Addr} {xs : List V} (h : SqT K H p xs) (q : Q (.int xs.length) H) : rLenS K [.ref p] H Q := ⟨p, xs, rfl, .inr h, q⟩
abbrev qAdd : R2 := rI0 fun i j => .int (i + j)
abbrev qSub : R2 := rI0 fun i j => .int (i - j)
abbrev qMul : R2 := rI CMul fun i j => .int (i * j)
abbrev qDiv : R2 := rI CDiv fun i j => .int (i / j)
abbrev qMod : R2 := rI (fun _ j => 0 < j) fun i j => .int (i % j)
abbrev qPow : R2 := rI CPow fun i j => .int (i ^ j.toNat)
abbrev qLt : R2 := rI0 fun i j => .bl (decide (i < j))
abbrev qLe : R2 := rI0 fun i j => .bl (decide (i ≤ j))
abbrev qGt : R2 := rI0 fun i j => .bl (decide (j < i))
abbrev qGe : R2 := rI0 fun i j => .bl (decide (j ≤ i))
theorem r_setL {p : Addr} {xs : List V} {j k : Nat} {o i : TE} (h : o σ H fun x H1 => i σ H1 fun y H2 => rSetL x y v H2 fun H3 => D.nx σ H3) : gSub o i rSetL v σ H D.nx := h
theorem r_setIx {p : Addr} {xs : List V} {k : Int} {j : Nat} {Qh : Hp → Prop} (h : H p = some (.lst xs)) (hj : ixN xs.length k = some j) (q : ∀ H2, Kp (One p) H H2 → H2 p = some (.lst (xs.set j v)) → Qh H2) : rSetL (.ref p) (.int k) v H Qh :=
  ⟨p, xs, k, j, rfl, rfl, h, hj, q _ (Kp.put1 h) upd_same⟩
end
theorem lk_hit {f : Str} {v : V} {r : List (Str × V)} : List.lookup f ((f, v) :: r) = some v := by
  have h : (f == f) = true := beq_self_eq_true f
  simp only [List.lookup, h]
theorem lk_miss {f g : Str} {v : V} {r : List (Str × V)} (h : (f == g) = false) : List.lookup f ((g, v) :: r) = List.lookup f r := by
  simp only [List.lookup, h]
theorem pf_nil {f : Str} {v : V} : putF f v [] = [(f, v)] := rfl
theorem pf_hit {f : Str} {v x : V} {r : List (Str × V)} : putF f v ((f, x) :: r) = (f, v) :: r := by
  show (if f = f then _ else _) = _
  rw [if_pos rfl]
theorem pf_miss {f g : Str} {v x : V} {r : List (Str × V)} (h : ¬ g = f) : putF f v ((g, x) :: r) = (g, x) :: putF f v r := by
  show (if g = f then _ else _) = _
  rw [if_neg h]
theorem atI_of {α : Type} {xs : List α} {i : Int} {v : α} (h0 : 0 ≤ i) (h : xs[i.toNat]? = some v) : atI xs i = some v := by
  have e : i = (i.toNat : Int) := (Int.toNat_of_nonneg h0).symm
  rw [e]
  exact atI_nat h
theorem ixN_of {n : Nat} {i : Int} (h0 : 0 ≤ i) (h : i < (n : Int)) : ixN n i = some i.toNat := by
  unfold ixN
  rw [if_pos h0, if_pos h]
end Ph
namespace Ph
open PySem PySem.Spec PyProof.Rows L2
/-! ### defs by their promises -/
abbrev DFun (K : PySem.W.Frag) (d : He.DefD) (fd : FuncData) : Prop := FunD K d.name d.qual d.params d.body d.scope (d.dvs K) (d.kws K) (He.fAd K d.at_) fd
structure Ok (P : Program) (w : World) (K : PySem.W.Frag) (mg : Str → Option Value) (base : Heap) (d : He.DefD) (k : Nat) (ps : List Str) (sp : Sp) : Prop where
  ex : ∃ fd, DFun K d fd ∧ FnOk P w K mg base (L2.CX P w) k (He.fAd K d.at_) fd ps sp
def Bd (K : PySem.W.Frag) (d : He.DefD) (ps : List Str) (dvs : List V) : Prop := ∀ fd, DFun K d fd → ∃ ds, Vals dvs ds ∧ Binds K fd ps ds
theorem Ok.of {P : Program} {w : World} {K : PySem.W.Frag} {mg : Str → Option Value} {base : Heap} {d : He.DefD} {N ps : List Str} {k : Nat} {sp : Sp} (F : ∃ fd, DFun K d fd) (S : FnScope N ps d.scope) (len : ∀ vs H Q E, sp vs H Q E → vs.length = ps.length)
    (hbody : ∀ (cdv : Value) (A : Around) (outer : List Env) (s : Shared) (H : Hp) (vs : List V) (Q : VK) (E : XK), Room k (A.deeper (envOfC d.qual d.scope s.heap.objs.size (He.fAd K d.at_) cdv)) → sp vs H Q E →
      ∃ t, PSs (cxOf (L2.CX P w) P w K mg base N d.qual d.scope (He.fAd K d.at_) cdv A outer s H E) d.body t ∧ t { nx := fun _ H' => Q .non H', rt := Q } (start N vs) H) : Ok P w K mg base d (k + 1) ps sp := by
  obtain ⟨fd, F⟩ := F
  exact ⟨fd, F, F.ok S len hbody⟩
section
variable {P : Program} {w : World} {K : PySem.W.Frag} {mg : Str → Option Value} {base : Heap} {N : List Str} {qual : Str} {sc : Scope} {f : Addr} {cdv : Value} {A : Around} {outer : List Env} {s : Shared} {H : Hp} {E : XK}
theorem tD : Takes (cxOf (L2.CX P w) P w K mg base N qual sc f cdv A outer s H E) (fun cls d _ H => E cls d H) := takes_of rfl rfl rfl rfl
theorem pD : Passes (L2.CX P w) (cxOf (L2.CX P w) P w K mg base N qual sc f cdv A outer s H E) E := passes_call tD fun _ _ _ _ h => h
theorem pO : PassesOwn (model P w) (cxOf (L2.CX P w) P w K mg base N qual sc f cdv A outer s H E).A (cxOf (L2.CX P w) P w K mg base N qual sc f cdv A outer s H E).env (cxOf (L2.CX P w) P w K mg base N qual sc f cdv A outer s H E).xe := passes_of rfl
end
section
variable {X : Cx} {d : He.DefD} {k j : Nat} {C : Addr} {ps : List Str} {sp : Sp} {dvs : List V} {E : XK} {x m : Str} {p pos apos : Pos} {e o : Expr} {es : List Expr} {ta : TE} {t : TA}
theorem q_con {x : Str} {v : V} {pos : Pos} (hm : ∃ u, X.mg x = some u ∧ RelV v u) (hg : Gl X x) (hd : (x == ("__debug__" : Str)) = false := by decide) : PE X (.Name x pos) (tC v) := by
  obtain ⟨u, h1, h2⟩ := hm
  exact pe_glob hg h1 h2 hd
theorem q_glo {x : Str} {a : Addr} {pos : Pos} (hm : X.mg x = some (.ref a)) (hg : Gl X x) (hd : (x == ("__debug__" : Str)) = false := by decide) : PE X (.Name x pos) (tC (.ref a)) := pe_glob hg hm rfl hd
theorem q_ty {x : Str} {n : String} {pos : Pos} (hm : X.mg x = none) (hg : Gl X x) (hv : bootBuiltins x = some (.type n)) (hn : x ≠ "__name__" := by decide) (hd : (x == ("__debug__" : Str)) = false := by decide) : PE X (.Name x pos) (tC (.ty n)) := pe_bltn hg hm hv rfl hn hd
theorem q_call (c : Ok X.prog X.w X.K X.mg X.base d k ps sp) (b : Bd X.K d ps dvs) (hm : X.mg x = some (.ref (He.fAd X.K d.at_))) (hr : Room j X.A) (hk : k ≤ j) (hg : Gl X x) (hx : Passes (L2.CX X.prog X.w) X E) (ha : PA X (e :: es) t)
    (hdb : (x == ("__debug__" : Str)) = false := by decide) (he : starEach (e :: es) X.env = (false, eval e X.env) :: starEach es X.env := by rfl) (hpl : (backTo pos (starEach es X.env)).any (·.1) = false := by rfl) :
    PE X (.Call (.Name x p) (e :: es) [] pos) (tCall sp dvs E t) := by
  obtain ⟨fd, F, G⟩ := c.ex
  obtain ⟨ds, r, b⟩ := b fd F
  exact pe_call G (hr.mono hk) hg hm F.kp b r hx ha hdb he hpl
theorem q_call0 (c : Ok X.prog X.w X.K X.mg X.base d k ps sp) (b : Bd X.K d ps dvs) (hm : X.mg x = some (.ref (He.fAd X.K d.at_))) (hr : Room j X.A) (hk : k ≤ j) (hg : Gl X x) (hx : Passes (L2.CX X.prog X.w) X E)
    (hdb : (x == ("__debug__" : Str)) = false := by decide) : PE X (.Call (.Name x p) [] [] pos) (tCall sp dvs E tNil) := by
  obtain ⟨fd, F, G⟩ := c.ex
  obtain ⟨ds, r, b⟩ := b fd F
  exact pe_call0 G (hr.mono hk) hg hm F.kp b r hx hdb
theorem q_meth {pl : Sem Bool} (c : Ok X.prog X.w X.K X.mg X.base d k ps sp) (he : PE X o ta) (cl : Cls X.K C) (hm : Meth X.K C m (He.fAd X.K d.at_)) (b : Bd X.K d ps dvs) (hr : Room j X.A) (hk : k ≤ j) (hx : Passes (L2.CX X.prog X.w) X E) (ha : PA X (e :: es) t)
    (hst : starEach (e :: es) X.env = (false, eval e X.env) :: starEach es X.env := by rfl) (hpl : (backTo pos (starEach es X.env)).any (·.1) = false := by rfl)
    (ht : eval (.Call (.Attribute o m apos) (e :: es) [] pos) X.env = (do
      let ov ← eval o X.env
      standAt apos.atName
      let (f, first) ← holding [ov] (getMethod ov m pl)
      callWith pos f first (backTo pos (starEach (e :: es) X.env)) (backToKw pos (keywordEach [] X.env))) := by rfl) :
    PE X (.Call (.Attribute o m apos) (e :: es) [] pos) (tMeth C m sp dvs E ta t) := by
  obtain ⟨fd, F, G⟩ := c.ex
  obtain ⟨ds, r, b⟩ := b fd F
  exact pe_meth he cl hm G (hr.mono hk) b r hx ha hst hpl ht
theorem q_meth0 {pl : Sem Bool} (c : Ok X.prog X.w X.K X.mg X.base d k ps sp) (he : PE X o ta) (cl : Cls X.K C) (hm : Meth X.K C m (He.fAd X.K d.at_)) (b : Bd X.K d ps dvs) (hr : Room j X.A) (hk : k ≤ j) (hx : Passes (L2.CX X.prog X.w) X E)
    (ht : eval (.Call (.Attribute o m apos) [] [] pos) X.env = (do
      let ov ← eval o X.env
      standAt apos.atName
      let (f, first) ← holding [ov] (getMethod ov m pl)
      callWith pos f first (backTo pos (starEach [] X.env)) (backToKw pos (keywordEach [] X.env))) := by rfl) :
    PE X (.Call (.Attribute o m apos) [] [] pos) (tMeth C m sp dvs E ta tNil) := by
  obtain ⟨fd, F, G⟩ := c.ex
  obtain ⟨ds, r, b⟩ := b fd F
  exact pe_meth0 he cl hm G (hr.mono hk) b r hx ht
theorem q_make (c : Ok X.prog X.w X.K X.mg X.base d k ps sp) (M : Mk X.K C (He.fAd X.K d.at_)) (b : Bd X.K d ps dvs) (hm : X.mg x = some (.ref C)) (hr : Room j X.A) (hk : k + 1 ≤ j) (hg : Gl X x) (hx : Passes (L2.CX X.prog X.w) X E) (ha : PA X (e :: es) t)
    (hdb : (x == ("__debug__" : Str)) = false := by decide) (he : starEach (e :: es) X.env = (false, eval e X.env) :: starEach es X.env := by rfl) (hpl : (backTo pos (starEach es X.env)).any (·.1) = false := by rfl) :
    PE X (.Call (.Name x p) (e :: es) [] pos) (tMake C sp dvs E t) := by
  obtain ⟨fd, F, G⟩ := c.ex
  obtain ⟨ds, r, b⟩ := b fd F
  exact pe_make M G (hr.mono hk) hg hm b r hx ha hdb he hpl
theorem q_make0 (c : Ok X.prog X.w X.K X.mg X.base d k ps sp) (M : Mk X.K C (He.fAd X.K d.at_)) (b : Bd X.K d ps dvs) (hm : X.mg x = some (.ref C)) (hr : Room j X.A) (hk : k + 1 ≤ j) (hg : Gl X x) (hx : Passes (L2.CX X.prog X.w) X E)
    (hdb : (x == ("__debug__" : Str)) = false := by decide) : PE X (.Call (.Name x p) [] [] pos) (tMake C sp dvs E tNil) := by
  obtain ⟨fd, F, G⟩ := c.ex
  obtain ⟨ds, r, b⟩ := b fd F
  exact pe_make0 M G (hr.mono hk) hg hm b r hx hdb
def Bk (K : PySem.W.Frag) (d : He.DefD) (ps : List Str) (n : Nat) (ks : List Str) (gV : List V → List V → List V) : Prop := ∀ fd, DFun K d fd → ∃ g, KBn K fd ps n ks g gV
theorem q_makeK0 {n : Nat} {ks : List Str} {gV : List V → List V → List V} {kws : List Keyword} {tk : TA} (c : Ok X.prog X.w X.K X.mg X.base d k ps sp) (M : Mk X.K C (He.fAd X.K d.at_)) (b : Bk X.K d ps 1 ks gV) (hm : X.mg x = some (.ref C)) (hr : Room j X.A) (hk : k + 1 ≤ j) (hg : Gl X x) (hx : Passes (L2.CX X.prog X.w) X E) (hkw : PK X kws tk)
    (hall : (backToKw pos (keywordEach kws X.env)).all (·.1.isSome) = true := by rfl) (hks : (backToKw pos (keywordEach kws X.env)).filterMap (·.1) = ks := by rfl) (hdb : (x == ("__debug__" : Str)) = false := by decide)
    (hpl : ((backTo pos (starEach [] X.env)).any (·.1) || (backToKw pos (keywordEach kws X.env)).any (·.1.isNone)) = false := by rfl) : PE X (.Call (.Name x p) [] kws pos) (tMakeK C 0 ks.length sp gV E tNil tk) := by
  obtain ⟨fd, F, G⟩ := c.ex
  obtain ⟨g, b⟩ := b fd F
  exact pe_makeK0 M G (hr.mono hk) hg hm b hx hkw hall hks hdb hpl
theorem q_makeK {n : Nat} {ks : List Str} {gV : List V → List V → List V} {kws : List Keyword} {tk : TA} (c : Ok X.prog X.w X.K X.mg X.base d k ps sp) (M : Mk X.K C (He.fAd X.K d.at_)) (b : Bk X.K d ps (n + 1) ks gV) (hm : X.mg x = some (.ref C)) (hr : Room j X.A) (hk : k + 1 ≤ j) (hg : Gl X x) (hx : Passes (L2.CX X.prog X.w) X E) (ha : PA X (e :: es) t) (hkw : PK X kws tk)
    (hall : (backToKw pos (keywordEach kws X.env)).all (·.1.isSome) = true := by rfl) (hks : (backToKw pos (keywordEach kws X.env)).filterMap (·.1) = ks := by rfl) (hdb : (x == ("__debug__" : Str)) = false := by decide)
    (he : starEach (e :: es) X.env = (false, eval e X.env) :: starEach es X.env := by rfl) (hpl : ((backTo pos (starEach (e :: es) X.env)).any (·.1) || (backToKw pos (keywordEach kws X.env)).any (·.1.isNone)) = false := by rfl) :
    PE X (.Call (.Name x p) (e :: es) kws pos) (tMakeK C n ks.length sp gV E t tk) := by
  obtain ⟨fd, F, G⟩ := c.ex
  obtain ⟨g, b⟩ := b fd F
  exact pe_makeK M G (hr.mono hk) hg hm b hx ha hkw hall hks hdb he hpl
/-- raise X('..'): E is wished of the class -/
def tRz (E : XK) (C : Addr) : TS := fun _ _ H => E (.ref C) none H
structure XOk (K : PySem.W.Frag) (C : Addr) : Prop where
  e : PySem.W.excIn K C He.veBase "ValueError.__new__" = true
  k : PySem.W.keepIn K (.ref C) = true
  b : PySem.W.subIn K (.ref C) (.type "BaseException") = some true
  t : PySem.W.typeIn K (.ref C) = some (.type "type")
theorem q_raise {x m : Str} {j : Nat} {p p2 pos pos' : Pos} (T : XOk X.K C) (gC : X.mg x = some (.ref C)) (tk : Takes X (fun cls d _ H => E cls d H)) (hg : Gl X x) (hc : X.calm = true := by rfl) (hdb : (x == ("__debug__" : Str)) = false := by decide) :
    PS X (.Raise (some (.Call (.Name x p) [.Constant (.str m) j p2] [] pos')) none pos) (tRz E C) :=
  ps_raise hc tk (pmk_own PySem.F.excBase_ValueError T.e gC T.k (raises_own T.b T.t) hg hdb)
end
theorem fd_same {K : PySem.W.Frag} {d : He.DefD} {fd fd2 : FuncData} (F : DFun K d fd) (G : DFun K d fd2) : fd = fd2 := by
  obtain ⟨_, _, _, _, _, _, _, _, _, _, _, l1, _⟩ := F.ex
  obtain ⟨_, _, _, _, _, _, _, _, _, _, _, l2, _⟩ := G.ex
  rw [l1] at l2
  injection l2 with l2
  injection l2 with _ _ l3 _
  injection l3
/-- a def that lets nothing out -/
theorem fn_calm {P : Program} {w : World} {K : PySem.W.Frag} {mg : Str → Option Value} {base : Heap} {k : Nat} {f : Addr} {fd : FuncData} {ps : List Str} {sp : Sp} (F : FnOk P w K mg base (L2.CX P w) k f fd ps sp) (hE : ∀ vs H Q E, sp vs H Q E → sp vs H Q E0) : FnOk P w K mg base CX0 k f fd ps sp :=
  ⟨F.len, fun A outer s H args us vs Q E hr he hb hv hs => codeAny_mono (F.run A outer s H args us vs Q E0 hr he hb hv (hE _ _ _ _ hs)) fun r s' hq => by
    cases r with
    | error e =>
      obtain ⟨_, _, _, _, _, _, _, _, _, _, _, _, z⟩ := (show L2.CX P w outer H s E0 e s' from hq)
      exact z.elim
    | ok fl =>
      cases fl with
      | ret u => exact hq
      | next => exact hq
      | brk => exact hq
      | cont => exact hq⟩
theorem con_int {mg : Str → Option Value} {x : Str} {i : Int} (h : ∃ t, mg x = some (.int i t)) : ∃ u, mg x = some u ∧ RelV (.int i) u := let ⟨t, e⟩ := h; ⟨_, e, t, rfl⟩
theorem con_str {mg : Str → Option Value} {x z : Str} (h : ∃ t, mg x = some (.str z t)) : ∃ u, mg x = some u ∧ RelV (.str z) u := let ⟨t, e⟩ := h; ⟨_, e, t, rfl⟩
theorem xok {K : PySem.W.Frag} {C : Addr} (h : PySem.W.excIn K C He.veBase "ValueError.__new__" = true ∧ PySem.W.keepIn K (.ref C) = true ∧ PySem.W.subIn K (.ref C) (.type "BaseException") = some true ∧ PySem.W.typeIn K (.ref C) = some (.type "type")) : XOk K C := ⟨h.1, h.2.1, h.2.2.1, h.2.2.2⟩
/-! ### len of an own object -/
def rLenO (C : Addr) (sp : Sp) (E : XK) : List V → Hp → VK → Prop := fun xs H Q => ∃ a dx fs, xs = [.ref a] ∧ H a = some (.ins C dx fs) ∧ sp [.ref a] H (fun v H2 => ∃ n : Int, v = .int n ∧ 0 ≤ n ∧ n < 2 ^ 62 ∧ Q (.int n) H2) E
theorem c_lenO {X : Cx} {d : He.DefD} {k j : Nat} {C : Addr} {ps : List Str} {sp : Sp} {E : XK} (c : Ok X.prog X.w X.K X.mg X.base d k ps sp) (hm : Meth X.K C "__len__" (He.fAd X.K d.at_)) (b : Bd X.K d ps []) (hr : Room j X.A) (hk : k + 1 ≤ j) (hx : Passes (L2.CX X.prog X.w) X E) :
    CallR X (.builtin "len") (rLenO C sp E) := by
  intro pins s σ H xs us Q I r h
  obtain ⟨a, dx, fs, rfl, ha, hs⟩ := h
  obtain ⟨u, rfl, ru⟩ := vals1 r
  cases ru
  obtain ⟨fd, F, G⟩ := c.ex
  obtain ⟨ds, rd, b⟩ := b fd F
  cases rd
  obtain ⟨mA, O, _⟩ := ins_get I.hok ha
  obtain ⟨od, J, _⟩ := O.look
  obtain ⟨m, fr⟩ := I.fr
  refine PySem.W.len_K fr I.ok.mod.kin J hm.at_ hm.fn ?_
  have hl : ([Value.ref a] ++ []).length = ps.length := G.len _ _ _ _ hs
  refine wpAny_call (codeAny_mono (G.run X.A.in1 X.stack s H ⟨[.ref a], []⟩ [.ref a] [.ref a] _ E (hr.mono hk).in1 I.env0.in1 (b s [.ref a] I.kIn hl) (.cons rfl .nil) hs) fun r s' hq => ?_)
  cases r with
  | error e => exact hx pins σ H s e s' I hq
  | ok fl =>
    cases fl with
    | ret u =>
      obtain ⟨v, H2, I2, rv, n, rfl, h0, h1, q⟩ := I.after hq
      obtain ⟨t, rfl⟩ := rv
      exact ⟨⟨h0, by omega⟩, .int n, H2, I2.tok _, ⟨_, rfl⟩, q⟩
    | next => exact False.elim hq
    | brk => exact False.elim hq
    | cont => exact False.elim hq
/-! ### readings with names -/
section
variable {X : Cx} {σ : L2.St} {H : Hp} {Q : VK} {K : PySem.W.Frag} {v : V} {D : Ends}
def rMin2 : List V → Hp → VK → Prop := fun xs H Q => ∃ i j, xs = [.int i, .int j] ∧ Q (.int (if j < i then j else i)) H
theorem c_min2 (hc : X.calm = true) : CallR X (.builtin "min") rMin2 := call_min2 hc
theorem r_min2 {i j : Int} (q : Q (.int (if j < i then j else i)) H) : rMin2 [.int i, .int j] H Q := ⟨i, j, rfl, q⟩
def rListS (K : PySem.W.Frag) : List V → Hp → VK → Prop := fun xs H Q => ∃ p ys, xs = [.ref p] ∧ (SqL K H p ys ∨ SqT K H p ys) ∧ ∀ l, H l = none → Q (.ref l) (upd H l (.lst ys))
theorem c_list : CallR X (.type "list") (rListS X.K) := call_list_of
theorem r_list {p : Addr} {xs : List V} (h : SqL K H p xs) (q : ∀ l H2, H l = none → Kp No H H2 → H2 l = some (.lst xs) → Q (.ref l) H2) : rListS K [.ref p] H Q := ⟨p, xs, rfl, .inl h, fun l hl => q l _ hl (Kp.new hl) upd_same⟩
theorem r_listT {p : Addr} {xs : List V} (h : SqT K H p xs) (q : ∀ l H2, H l = none → Kp No H H2 → H2 l = some (.lst xs) → Q (.ref l) H2) : rListS K [.ref p] H Q := ⟨p, xs, rfl, .inr h, fun l hl => q l _ hl (Kp.new hl) upd_same⟩
/-- tuple(xs) of a list -/
def rTupS (K : PySem.W.Frag) : List V → Hp → VK → Prop := fun xs H Q => ∃ p ys, xs = [.ref p] ∧ ((SqL K H p ys ∧ ∀ l, H l = none → Q (.ref l) (upd H l (.tup ys))) ∨ (SqT K H p ys ∧ Q (.ref p) H))
theorem c_tuple : CallR X (.type "tuple") (rTupS X.K) := call_tuple_of
theorem r_tuple {p : Addr} {xs : List V} (h : SqL K H p xs) (q : ∀ l H2, H l = none → Kp No H H2 → H2 l = some (.tup xs) → Q (.ref l) H2) : rTupS K [.ref p] H Q := ⟨p, xs, rfl, .inl ⟨h, fun l hl => q l _ hl (Kp.new hl) upd_same⟩⟩
/-- {} -/
theorem r_dnew (q : ∀ l H2, H l = none → Kp No H H2 → H2 l = some (.dK []) → Q (.ref l) H2) : tDNewK σ H Q := fun l hl => q l _ hl (Kp.new hl) upd_same
theorem r_all {p : Addr} {bs : List Bool} (h : SqL K H p (bs.map V.bl)) (q : Q (.bl (bs.all id)) H) : rAll K [.ref p] H Q := ⟨p, bs, rfl, h, q⟩
theorem r_sum {p : Addr} {ns : List Int} (h : SqL K H p (ns.map V.int)) (q : Q (.int ns.sum) H) : rSum K [.ref p] H Q := ⟨p, ns, rfl, h, q⟩
theorem r_slL {p : Addr} {xs : List V} {lo hi : Option Int} (h : SqL K H p xs) (q : ∀ l H2, H l = none → Kp No H H2 → H2 l = some (.lst (cutV xs lo hi)) → Q (.ref l) H2) : rSlL K (.ref p) lo hi H Q :=
  ⟨p, xs, rfl, h, fun l hl => q l _ hl (Kp.new hl) upd_same⟩
theorem r_sl {r : V → Option Int → Option Int → Hp → VK → Prop} {te : TE} {tl th : TO} (h : te σ H fun x H1 => tl σ H1 fun l H2 => th σ H2 fun u H3 => r x l u H3 Q) : tSl r te tl th σ H Q := h
theorem r_noPart {Q : Option Int → Hp → Prop} (q : Q none H) : tNoPart σ H Q := q
theorem r_part {te : TE} {Q : Option Int → Hp → Prop} (h : te σ H fun x H1 => ∃ i, x = .int i ∧ Q (some i) H1) : tPart te σ H Q := h
theorem r_cat {l b : Addr} {xs zs : List V} (h1 : H l = some (.lst xs)) (h2 : H b = some (.lst zs)) (hz : xs.length + zs.length ≤ sizeLine) (q : ∀ p H2, H p = none → Kp No H H2 → H2 p = some (.lst (xs ++ zs)) → Q (.ref p) H2) : rCat (.ref l) (.ref b) H Q :=
  ⟨l, b, xs, zs, rfl, rfl, h1, h2, hz, fun p hp => q p _ hp (Kp.new hp) upd_same⟩
theorem r_append {l : Addr} {xs : List V} {y : V} (h : H l = some (.lst xs)) (hz : xs.length < sizeLine) (q : ∀ H2, Kp (One l) H H2 → H2 l = some (.lst (xs ++ [y])) → Q .non H2) : rAppend (.ref l) [y] H Q := ⟨l, xs, y, rfl, rfl, h, hz, q _ (Kp.put1 h) upd_same⟩
theorem r_extend {l b : Addr} {xs zs : List V} (h : H l = some (.lst xs)) (h2 : H b = some (.lst zs)) (hz : xs.length + zs.length ≤ sizeLine) (q : ∀ H2, Kp (One l) H H2 → H2 l = some (.lst (xs ++ zs)) → Q .non H2) : rExtend (.ref l) [.ref b] H Q :=
  ⟨l, b, xs, zs, rfl, rfl, h, h2, hz, q _ (Kp.put1 h) upd_same⟩
/-- a method of a built-in type: the receiver's type, then the arguments -/
def bmQ (K : PySem.W.Frag) (T : String) (r : V → List V → Hp → VK → Prop) (t : TA) (σ : L2.St) (Q : VK) (x : V) (H1 : Hp) : Prop := tyV K T x H1 ∧ t σ H1 fun xs H2 => r x xs H2 Q
theorem r_bm {T : String} {r : V → List V → Hp → VK → Prop} {to : TE} {t : TA} (h : to σ H fun x H1 => bmQ K T r t σ Q x H1) : tBM K T r to t σ H Q := h
theorem r_bm0 {T : String} {r : V → List V → Hp → VK → Prop} {to : TE} (h : to σ H fun x H1 => bmQ K T r tNil σ Q x H1) : tBM0 K T r to σ H Q := h
theorem b_lst {r : V → List V → Hp → VK → Prop} {t : TA} {a : Addr} {xs : List V} (h : H a = some (.lst xs)) (q : t σ H fun ys H2 => r (.ref a) ys H2 Q) : bmQ K "list" r t σ Q (.ref a) H := ⟨.inl ⟨rfl, _, SqL.of h⟩, q⟩
/-- a method of an own class -/
def mthQ (C : Addr) (m : Str) (sp : Sp) (dvs : List V) (E : XK) (t : TA) (σ : L2.St) (Q : VK) (x : V) (H1 : Hp) : Prop := ∃ a dx fs, x = .ref a ∧ H1 a = some (.ins C dx fs) ∧ fs.lookup m = none ∧ t σ H1 fun vs H2 => sp (x :: (vs ++ dvs)) H2 Q E
theorem r_meth {C : Addr} {m : Str} {sp : Sp} {dvs : List V} {E : XK} {ta : TE} {t : TA} (h : ta σ H fun x H1 => mthQ C m sp dvs E t σ Q x H1) : tMeth C m sp dvs E ta t σ H Q := h
theorem m_at {C : Addr} {m : Str} {sp : Sp} {dvs : List V} {E : XK} {t : TA} {a dx : Addr} {fs : List (Str × V)} (h : H a = some (.ins C dx fs)) (hl : fs.lookup m = none) (q : t σ H fun vs H2 => sp (.ref a :: (vs ++ dvs)) H2 Q E) : mthQ C m sp dvs E t σ Q (.ref a) H := ⟨a, dx, fs, rfl, h, hl, q⟩
/-- C(..) -/
def mkQ (C : Addr) (sp : Sp) (dvs : List V) (E : XK) (Q : VK) (vs : List V) (H1 : Hp) : Prop := ∀ x dx, H1 x = none → H1 dx = none → dx ≠ x → sp (.ref x :: (vs ++ dvs)) (upd (upd H1 dx (.own x)) x (.ins C dx [])) (fun v H2 => v = .non ∧ Q (.ref x) H2) E
theorem r_make {C : Addr} {sp : Sp} {dvs : List V} {E : XK} {t : TA} (h : t σ H fun vs H1 => mkQ C sp dvs E Q vs H1) : tMake C sp dvs E t σ H Q := h
theorem k_at {C : Addr} {sp : Sp} {dvs : List V} {E : XK} {vs : List V} (q : ∀ x dx H2, H x = none → H dx = none → dx ≠ x → Kp No H H2 → H2 x = some (.ins C dx []) → H2 dx = some (.own x) → sp (.ref x :: (vs ++ dvs)) H2 (fun v H3 => v = .non ∧ Q (.ref x) H3) E) : mkQ C sp dvs E Q vs H := by
  intro x dx hx hdx ne
  refine q x dx _ hx hdx ne ?_ upd_same (by rw [upd_ne ne]; exact upd_same)
  have a : Kp No H (upd H dx (.own x)) := Kp.new hdx
  exact a.trans (Kp.new (by rw [upd_ne (Ne.symm ne)]; exact hx))
/-- C(.., k = v) -/
def mkkQ (C : Addr) (n m : Nat) (sp : Sp) (gV : List V → List V → List V) (E : XK) (Q : VK) (vs zs : List V) (H2 : Hp) : Prop := vs.length = n ∧ zs.length = m ∧ ∀ x dx, H2 x = none → H2 dx = none → dx ≠ x → sp (gV (.ref x :: vs) zs) (upd (upd H2 dx (.own x)) x (.ins C dx [])) (fun v H3 => v = .non ∧ Q (.ref x) H3) E
theorem r_makeK {C : Addr} {n m : Nat} {sp : Sp} {gV : List V → List V → List V} {E : XK} {t tk : TA} (h : t σ H fun vs H1 => tk σ H1 fun zs H2 => mkkQ C n m sp gV E Q vs zs H2) : tMakeK C n m sp gV E t tk σ H Q := h
theorem kk_at {C : Addr} {n m : Nat} {sp : Sp} {gV : List V → List V → List V} {E : XK} {vs zs : List V} (h1 : vs.length = n) (h2 : zs.length = m) (q : ∀ x dx H2, H x = none → H dx = none → dx ≠ x → Kp No H H2 → H2 x = some (.ins C dx []) → H2 dx = some (.own x) → sp (gV (.ref x :: vs) zs) H2 (fun v H3 => v = .non ∧ Q (.ref x) H3) E) : mkkQ C n m sp gV E Q vs zs H := by
  refine ⟨h1, h2, ?_⟩
  intro x dx hx hdx ne
  refine q x dx _ hx hdx ne ?_ upd_same (by rw [upd_ne ne]; exact upd_same)
  have a : Kp No H (upd H dx (.own x)) := Kp.new hdx
  exact a.trans (Kp.new (by rw [upd_ne (Ne.symm ne)]; exact hx))
theorem r_rep {l : Addr} {k : Int} {xs : List V} (h : H l = some (.lst xs)) (h1 : -(2 ^ 63) ≤ k) (h2 : k < 2 ^ 63) (hz : xs.length * k.toNat ≤ sizeLine)
    (q : ∀ p H2, H p = none → Kp No H H2 → H2 p = some (.lst (List.replicate k.toNat xs).flatten) → Q (.ref p) H2) : rRep (.ref l) (.int k) H Q := by
  refine ⟨l, k, xs, rfl, rfl, h, h1, h2, hz, fun p hp => ?_⟩
  exact q p _ hp (Kp.new hp) upd_same
end
end Ph
namespace Ph
open PySem PySem.Spec PyProof.Rows L2
/-! ### promises by the number of arguments -/
def Sp0 (B : Hp → VK → XK → Prop) : Sp := fun vs H Q E => vs = [] ∧ B H Q E
def Sp1 (B : V → Hp → VK → XK → Prop) : Sp := fun vs H Q E => ∃ a, vs = [a] ∧ B a H Q E
def Sp2 (B : V → V → Hp → VK → XK → Prop) : Sp := fun vs H Q E => ∃ a b, vs = [a, b] ∧ B a b H Q E
def Sp3 (B : V → V → V → Hp → VK → XK → Prop) : Sp := fun vs H Q E => ∃ a b c, vs = [a, b, c] ∧ B a b c H Q E
def Sp4 (B : V → V → V → V → Hp → VK → XK → Prop) : Sp := fun vs H Q E => ∃ a b c d, vs = [a, b, c, d] ∧ B a b c d H Q E
def Sp5 (B : V → V → V → V → V → Hp → VK → XK → Prop) : Sp := fun vs H Q E => ∃ a b c d e, vs = [a, b, c, d, e] ∧ B a b c d e H Q E
def Sp6 (B : V → V → V → V → V → V → Hp → VK → XK → Prop) : Sp := fun vs H Q E => ∃ a b c d e f, vs = [a, b, c, d, e, f] ∧ B a b c d e f H Q E
theorem s_1 {B : V → Hp → VK → XK → Prop} {a : V} {H : Hp} {Q : VK} {E : XK} (h : B a H Q E) : Sp1 B [a] H Q E := ⟨a, rfl, h⟩
theorem s_2 {B : V → V → Hp → VK → XK → Prop} {a b : V} {H : Hp} {Q : VK} {E : XK} (h : B a b H Q E) : Sp2 B [a, b] H Q E := ⟨a, b, rfl, h⟩
theorem s_3 {B : V → V → V → Hp → VK → XK → Prop} {a b c : V} {H : Hp} {Q : VK} {E : XK} (h : B a b c H Q E) : Sp3 B [a, b, c] H Q E := ⟨a, b, c, rfl, h⟩
theorem s_4 {B : V → V → V → V → Hp → VK → XK → Prop} {a b c d : V} {H : Hp} {Q : VK} {E : XK} (h : B a b c d H Q E) : Sp4 B [a, b, c, d] H Q E := ⟨a, b, c, d, rfl, h⟩
theorem s_5 {B : V → V → V → V → V → Hp → VK → XK → Prop} {a b c d e : V} {H : Hp} {Q : VK} {E : XK} (h : B a b c d e H Q E) : Sp5 B [a, b, c, d, e] H Q E := ⟨a, b, c, d, e, rfl, h⟩
/-! ### things of a known type -/
inductive Tg (H : Hp) : V → String → Prop where
  | int (i : Int) : Tg H (.int i) "int"
  | bl (b : Bool) : Tg H (.bl b) "bool"
  | non : Tg H .non "NoneType"
  | str (x : Str) : Tg H (.str x) "str"
  | lst {a : Addr} {xs : List V} (h : H a = some (.lst xs)) : Tg H (.ref a) "list"
  | tup {a : Addr} {xs : List V} (h : H a = some (.tup xs)) : Tg H (.ref a) "tuple"
  | dK {a : Addr} {xs : List (Key × V)} (h : H a = some (.dK xs)) : Tg H (.ref a) "dict"
theorem Tg.ty {K : PySem.W.Frag} {H : Hp} {x : V} {n : String} (h : Tg H x n) : TyX K H x (.type n) := by
  cases h with
  | int i => exact .base (.int i)
  | bl b => exact .base (.bl b)
  | non => exact .base .non
  | str x => exact .base (.str x)
  | lst h => exact .base (.lst h)
  | tup h => exact .base (.tup h)
  | dK h => exact .base (.dK h)
theorem Tg.isL {H : Hp} {x : V} {n : String} (h : Tg H x n) (e : n = "list") : ∃ a xs, x = .ref a ∧ H a = some (.lst xs) := by
  cases h with
  | lst h => exact ⟨_, _, rfl, h⟩
  | int i => exact absurd e (by decide)
  | bl i => exact absurd e (by decide)
  | non => exact absurd e (by decide)
  | str i => exact absurd e (by decide)
  | tup i => exact absurd e (by decide)
  | dK i => exact absurd e (by decide)
def isTy (n c : String) : Bool := n == c || (n == "bool" && c == "int")
theorem Tg.kit {K : PySem.W.Frag} {H : Hp} {x : V} {n c : String} (h : Tg H x n) (hc : c = "int" ∨ c = "bool" ∨ c = "list" ∨ c = "str") : PySem.W.kitOne K (.type n) (.type c) = some (isTy n c) := by
  rcases hc with rfl | rfl | rfl | rfl <;> cases h <;> exact kit_ty (by decide +kernel)
theorem r_isi {K : PySem.W.Frag} {H : Hp} {Q : VK} {x : V} {n c : String} (h : Tg H x n) (hc : c = "int" ∨ c = "bool" ∨ c = "list" ∨ c = "str") (q : Q (.bl (isTy n c)) H) : rIsi K [x, .ty c] H Q :=
  ⟨x, .ty c, .type n, .type c, _, rfl, .ty c, h.ty, h.kit hc, q⟩
theorem Tg.mono {F : Addr → Prop} {H H2 : Hp} {x : V} {n : String} (h : Tg H x n) (k : Kp F H H2) (hn : ∀ a, x = .ref a → ¬ F a) : Tg H2 x n := by
  cases h with
  | int i => exact .int i
  | bl b => exact .bl b
  | non => exact .non
  | str x => exact .str x
  | lst h => exact .lst (k.keep _ _ h (hn _ rfl))
  | tup h => exact .tup (k.keep _ _ h (hn _ rfl))
  | dK h => exact .dK (k.keep _ _ h (hn _ rfl))
theorem Tg.no {H H2 : Hp} {x : V} {n : String} (h : Tg H x n) (k : Kp No H H2) : Tg H2 x n := h.mono k fun _ _ z => z
/-- a whole number within bounds -/
def isW (x : V) (lo hi : Int) : Bool := match x with
  | .int i => decide (lo ≤ i) && decide (i ≤ hi)
  | _ => false
theorem r_bl {b : Bool} {P : Bool → Prop} (q : P b) : ∃ c, V.bl b = V.bl c ∧ P c := ⟨b, rfl, q⟩
theorem r_int {i : Int} {P : Int → Prop} (q : P i) : ∃ c, V.int i = V.int c ∧ P c := ⟨i, rfl, q⟩
theorem r_T {A B : Prop} (h : A) : if true = true then A else B := by
  rw [if_pos rfl]; exact h
theorem r_F {A B : Prop} (h : B) : if false = true then A else B := by
  rw [if_neg Bool.false_ne_true]; exact h
theorem r_ite {b : Bool} {A B : Prop} (h1 : b = true → A) (h2 : b = false → B) : if b = true then A else B := by
  cases b with
  | true => rw [if_pos rfl]; exact h1 rfl
  | false => rw [if_neg Bool.false_ne_true]; exact h2 rfl
theorem r_d {p : Prop} [Decidable p] {A B : Prop} (h1 : p → A) (h2 : ¬ p → B) : if decide p = true then A else B :=
  r_ite (fun e => h1 (of_decide_eq_true e)) (fun e => h2 (of_decide_eq_false e))
theorem r_dn {p : Prop} [Decidable p] {A B : Prop} (h1 : ¬ p → A) (h2 : p → B) : if (!decide p) = true then A else B :=
  r_ite (fun e => h1 (by simpa using e)) (fun e => h2 (by simpa using e))
theorem r_chain {r r' : R2} {ta tb tc : TE} {σ : L2.St} {H : Hp} {Q : VK} (h : ta σ H fun x H1 => tb σ H1 fun y H2 => r x y H2 fun z H3 => ∃ k, z = .bl k ∧ (if k = true then tc σ H3 fun w' H4 => r' y w' H4 Q else Q (.bl false) H3)) : tChain r r' ta tb tc σ H Q := h
end Ph
namespace Ph
open PySem PySem.Spec PyProof.Rows L2
/-! ### loops and comprehensions -/
def lcQ (J : It) (g : TG) (tt : TT) (te : TE) (vs : List Nat) (σ : L2.St) (Q : VK) (H1 : Hp) : Prop := ∀ D, H1 D = none → ∃ W : Nat → Nat → Hp → Prop, (∃ m, W 0 m (upd H1 D (.lst []))) ∧ ∀ i m H, W i m H →
  (J.stop i H ∧ Q (.ref D) H) ∨ (J.go i H ∧ ∃ Nx : Hp → Prop, (∀ H', Nx H' → ∃ m', m' < m ∧ W (i + 1) m' H') ∧ ∀ x H', J.yld i H x H' → g x (wipe σ vs) H' fun σ2 H2 => wipe σ2 vs = wipe σ vs ∧ tt σ2 H2 fun b H3 =>
    if b = true then te σ2 H3 fun y H4 => ∃ acc, H4 D = some (.lst acc) ∧ acc.length < sizeLine ∧ Nx (upd H4 D (.lst (acc ++ [y]))) else Nx H3)
def forQ (J : It) (g : TG) (tb : TS) (D : Ends) (σ : L2.St) (H1 : Hp) : Prop := ∃ W : Nat → Nat → L2.St → Hp → Prop, (∃ m, W 0 m σ H1) ∧ ∀ i m σ H, W i m σ H →
  (J.stop i H ∧ D.nx σ H) ∨ (J.go i H ∧ ∃ N : L2.St → Hp → Prop, (∀ σ' H', N σ' H' → ∃ m', m' < m ∧ W (i + 1) m' σ' H') ∧ ∀ x H', J.yld i H x H' → g x σ H' fun σ2 H2 => tb { D with nx := N, ct := N, bk := D.nx } σ2 H2)
def iLQ (K : PySem.W.Frag) (R : It → Hp → Prop) (x : V) (H1 : Hp) : Prop := ∃ a, x = .ref a ∧ (∃ xs, SqL K H1 a xs) ∧ R (Itl K a) H1
def iTQ (K : PySem.W.Frag) (R : It → Hp → Prop) (x : V) (H1 : Hp) : Prop := ∃ a, x = .ref a ∧ (∃ xs, SqT K H1 a xs) ∧ R (Itt K a) H1
def iRQ (R : It → Hp → Prop) (vs : List V) (H1 : Hp) : Prop := ∃ j : Int, vs = [.int j] ∧ -(2 ^ 62) ≤ j ∧ j < 2 ^ 62 ∧ R (Itr 0 j.toNat) H1
section
variable {K : PySem.W.Frag} {σ : L2.St} {H : Hp} {Q : VK} {wi : TI} {g : TG} {tt : TT} {te tl : TE} {vs : List Nat} {tb : TS} {D : Ends} {R : It → Hp → Prop} {ta : TA}
theorem r_lc (h : wi σ H fun J H1 => lcQ J g tt te vs σ Q H1) : tLc wi g tt te vs σ H Q := h
theorem r_for (h : wi σ H fun J H1 => forQ J g tb D σ H1) : tFor wi g tb D σ H := h
theorem r_iL (h : tl σ H fun x H1 => iLQ K R x H1) : iList K tl σ H R := h
theorem r_iT (h : tl σ H fun x H1 => iTQ K R x H1) : iTup K tl σ H R := h
theorem r_iR (h : ta σ H fun vs H1 => iRQ R vs H1) : iRng1 ta σ H R := h
theorem r_gname {i : Nat} {v : V} {Qs : L2.St → Hp → Prop} (h : Qs (σ.set i (some v)) H) : gName i v σ H Qs := h
theorem r_yes {Qb : Bool → Hp → Prop} (h : Qb true H) : tYes σ H Qb := h
/-- a test, an element that change nothing: the filtered, the mapped list -/
def LcP (g : TG) (tt : TT) (te : TE) (vs : List Nat) (σ : L2.St) (H : Hp) (b : V → Bool) (f : V → V) (x : V) : Prop := ∀ H', Kp No H H' → ∀ (R : VK) (S : Hp → Prop), (b x = true → ∀ H2, Kp No H' H2 → R (f x) H2) → (b x = false → ∀ H2, Kp No H' H2 → S H2) →
  g x (wipe σ vs) H' fun σ2 H2 => wipe σ2 vs = wipe σ vs ∧ tt σ2 H2 fun bb H3 => if bb = true then te σ2 H3 R else S H3
theorem take_snoc {α : Type} {l : List α} {i : Nat} {x : α} (h : l[i]? = some x) : l.take (i + 1) = l.take i ++ [x] := by
  rw [List.take_add_one, h]; rfl
theorem lcp_step {b : V → Bool} {f : V → V} {xs : List V} {Dl : Addr} {i : Nat} {x : V} {H' : Hp} (hi : xs[i]? = some x) (hz : xs.length ≤ 100000) (hp : LcP g tt te vs σ H b f x) (hD : H Dl = none) (k : Kp No H H') (e : H' Dl = some (.lst (((xs.take i).filter b).map f))) :
    g x (wipe σ vs) H' fun σ2 H2 => wipe σ2 vs = wipe σ vs ∧ tt σ2 H2 fun bb H3 => if bb = true then te σ2 H3 fun y H4 => ∃ acc, H4 Dl = some (.lst acc) ∧ acc.length < sizeLine ∧ (Kp No H (upd H4 Dl (.lst (acc ++ [y]))) ∧ (upd H4 Dl (.lst (acc ++ [y]))) Dl = some (.lst (((xs.take (i + 1)).filter b).map f)))
      else (Kp No H H3 ∧ H3 Dl = some (.lst (((xs.take (i + 1)).filter b).map f))) := by
  have hl : i < xs.length := (List.getElem?_eq_some_iff.mp hi).1
  refine hp H' k _ _ (fun hb H2 k2 => ?_) (fun hb H2 k2 => ?_)
  · have e2 := k2.keep _ _ e (fun z => z)
    refine ⟨_, e2, ?_, ?_, ?_⟩
    · refine lt_line1 ?_
      have z := List.length_filter_le b (xs.take i)
      rw [List.length_map]
      have z2 := List.length_take_le i xs
      omega
    · exact ((k.trans k2).mono fun _ z => z.elim).fresh (G := One Dl) (Kp.put1 e2) fun x z => by
        rw [show x = Dl from z]; exact .inr hD
    · rw [upd_same, take_snoc hi, List.filter_append, List.map_append]
      have z : [x].filter b = [x] := by rw [List.filter_cons, if_pos hb]; rfl
      rw [z]; rfl
  · refine ⟨k.trans k2, ?_⟩
    rw [take_snoc hi, List.filter_append]
    have z : [x].filter b = [] := by rw [List.filter_cons, if_neg (by rw [hb]; exact Bool.false_ne_true)]; rfl
    rw [z, List.append_nil]
    exact k2.keep _ _ e (fun z => z)
theorem lcp_list {a : Addr} {xs : List V} (hx : SqL K H a xs) (hz : xs.length ≤ 100000) (b : V → Bool) (f : V → V) (hs : ∀ x, x ∈ xs → LcP g tt te vs σ H b f x)
    (q : ∀ p H', H p = none → Kp No H H' → H' p = some (.lst ((xs.filter b).map f)) → Q (.ref p) H') : iLQ K (fun J H1 => lcQ J g tt te vs σ Q H1) (.ref a) H := by
  refine ⟨a, rfl, ⟨xs, hx⟩, fun Dl hD => ?_⟩
  refine lc_list (K := K) (a := a) (xs := xs) (fun i H' => Kp No H H' ∧ H' Dl = some (.lst (((xs.take i).filter b).map f))) ⟨Kp.new hD, upd_same⟩ (fun i H' _ h => h.1.sq (fun z => z) hx) (fun i x H' hi h => ?_) (fun H' h => ?_)
  · exact lcp_step hi hz (hs x (List.mem_of_getElem? hi)) hD h.1 h.2
  · have e := h.2
    rw [List.take_length] at e
    exact q _ _ hD h.1 e
theorem lcp_tup {a : Addr} {xs : List V} (hx : SqT K H a xs) (hz : xs.length ≤ 100000) (b : V → Bool) (f : V → V) (hs : ∀ x, x ∈ xs → LcP g tt te vs σ H b f x)
    (q : ∀ p H', H p = none → Kp No H H' → H' p = some (.lst ((xs.filter b).map f)) → Q (.ref p) H') : iTQ K (fun J H1 => lcQ J g tt te vs σ Q H1) (.ref a) H := by
  refine ⟨a, rfl, ⟨xs, hx⟩, fun Dl hD => ?_⟩
  refine lc_tup (K := K) (a := a) (xs := xs) (fun i H' => Kp No H H' ∧ H' Dl = some (.lst (((xs.take i).filter b).map f))) ⟨Kp.new hD, upd_same⟩ (fun i H' _ h => h.1.sqt (fun z => z) hx) (fun i x H' hi h => ?_) (fun H' h => ?_)
  · exact lcp_step hi hz (hs x (List.mem_of_getElem? hi)) hD h.1 h.2
  · have e := h.2
    rw [List.take_length] at e
    exact q _ _ hD h.1 e
def rangeV (n : Nat) : List V := (List.range n).map fun (k : Nat) => V.int (k : Int)
theorem rangeV_at {n i : Nat} (h : i < n) : (rangeV n)[i]? = some (V.int (i : Int)) := by
  unfold rangeV
  rw [List.getElem?_map, List.getElem?_range h]; rfl
theorem lcp_range {j : Int} (h0 : 0 ≤ j) (hz : j ≤ 100000) (b : V → Bool) (f : V → V) (hs : ∀ (i : Nat), (i : Int) < j → LcP g tt te vs σ H b f (.int (i : Int)))
    (q : ∀ p H', H p = none → Kp No H H' → H' p = some (.lst (((rangeV j.toNat).filter b).map f)) → Q (.ref p) H') : iRQ (fun J H1 => lcQ J g tt te vs σ Q H1) [.int j] H := by
  refine ⟨j, rfl, by omega, by omega, fun Dl hD => ?_⟩
  have hl : (rangeV j.toNat).length = j.toNat := by unfold rangeV; rw [List.length_map, List.length_range]
  refine lc_range (lo := 0) (n := j.toNat) (fun i H' => Kp No H H' ∧ H' Dl = some (.lst ((((rangeV j.toNat).take i).filter b).map f))) ⟨Kp.new hD, upd_same⟩ (fun i H' hi h => ?_) (fun H' h => ?_)
  · rw [show (0 : Int) + (i : Int) = (i : Int) by omega]
    exact lcp_step (rangeV_at hi) (by rw [hl]; omega) (hs i (by omega)) hD h.1 h.2
  · have e := h.2
    rw [List.take_of_length_le (by rw [hl]; exact Nat.le_refl _)] at e
    exact q _ _ hD h.1 e
theorem for_l {a : Addr} {xs : List V} (Pv : Nat → L2.St → Hp → Prop) (h0 : Pv 0 σ H) (hl : ∀ i σ' H', i ≤ xs.length → Pv i σ' H' → SqL K H' a xs)
    (hs : ∀ i x σ' H', xs[i]? = some x → Pv i σ' H' → g x σ' H' fun σ2 H2 => tb { D with nx := Pv (i + 1), ct := Pv (i + 1), bk := D.nx } σ2 H2) (hd : ∀ σ' H', Pv xs.length σ' H' → D.nx σ' H') : iLQ K (fun J H1 => forQ J g tb D σ H1) (.ref a) H :=
  ⟨a, rfl, ⟨xs, hl 0 σ H (Nat.zero_le _) h0⟩, for_list Pv h0 hl hs hd⟩
theorem for_t {a : Addr} {xs : List V} (Pv : Nat → L2.St → Hp → Prop) (h0 : Pv 0 σ H) (hl : ∀ i σ' H', i ≤ xs.length → Pv i σ' H' → SqT K H' a xs)
    (hs : ∀ i x σ' H', xs[i]? = some x → Pv i σ' H' → g x σ' H' fun σ2 H2 => tb { D with nx := Pv (i + 1), ct := Pv (i + 1), bk := D.nx } σ2 H2) (hd : ∀ σ' H', Pv xs.length σ' H' → D.nx σ' H') : iTQ K (fun J H1 => forQ J g tb D σ H1) (.ref a) H :=
  ⟨a, rfl, ⟨xs, hl 0 σ H (Nat.zero_le _) h0⟩, for_tup Pv h0 hl hs hd⟩
theorem for_r {j : Int} (hj : 0 ≤ j ∧ j ≤ 100000) (Pv : Nat → L2.St → Hp → Prop) (h0 : Pv 0 σ H)
    (hs : ∀ (i : Nat) σ' H', (i : Int) < j → Pv i σ' H' → g (.int (i : Int)) σ' H' fun σ2 H2 => tb { D with nx := Pv (i + 1), ct := Pv (i + 1), bk := D.nx } σ2 H2) (hd : ∀ σ' H', Pv j.toNat σ' H' → D.nx σ' H') : iRQ (fun J H1 => forQ J g tb D σ H1) [.int j] H := by
  refine ⟨j, rfl, by omega, by omega, for_range Pv h0 (fun i σ' H' hi h => ?_) hd⟩
  rw [show (0 : Int) + (i : Int) = (i : Int) by omega]
  exact hs i σ' H' (by omega) h
/-- a comprehension whose element changes things: I says what holds behind i turns with the list so far -/
theorem lci_range {j : Int} (h0 : 0 ≤ j) (hz : j ≤ 100000) (I : Nat → List V → Hp → Prop) (hs0 : ∀ H2, Kp No H H2 → I 0 [] H2) (hlen : ∀ i acc H', I i acc H' → acc.length ≤ i)
    (hs : ∀ (i : Nat) acc Dl H', (i : Int) < j → H Dl = none → H' Dl = some (.lst acc) → I i acc H' → g (.int (i : Int)) (wipe σ vs) H' fun σ2 H2 => wipe σ2 vs = wipe σ vs ∧ tt σ2 H2 fun b H3 =>
      if b = true then te σ2 H3 fun y H4 => H4 Dl = some (.lst acc) ∧ ∀ H5, Kp (One Dl) H4 H5 → I (i + 1) (acc ++ [y]) H5 else H3 Dl = some (.lst acc) ∧ I (i + 1) acc H3)
    (mono : ∀ (σ2 : L2.St) (H2 : Hp) (R R' : VK), (∀ v H', R v H' → R' v H') → te σ2 H2 R → te σ2 H2 R') (monoT : ∀ (σ2 : L2.St) (H2 : Hp) (R R' : Bool → Hp → Prop), (∀ v H', R v H' → R' v H') → tt σ2 H2 R → tt σ2 H2 R')
    (monoG : ∀ (v : V) (σ2 : L2.St) (H2 : Hp) (R R' : L2.St → Hp → Prop), (∀ v H', R v H' → R' v H') → g v σ2 H2 R → g v σ2 H2 R')
    (q : ∀ p acc H', H p = none → H' p = some (.lst acc) → I j.toNat acc H' → Q (.ref p) H') : iRQ (fun J H1 => lcQ J g tt te vs σ Q H1) [.int j] H := by
  refine ⟨j, rfl, by omega, by omega, fun Dl hD => ?_⟩
  refine lc_range (lo := 0) (n := j.toNat) (fun i H' => ∃ acc, H' Dl = some (.lst acc) ∧ I i acc H') ⟨[], upd_same, hs0 _ (Kp.new hD)⟩ (fun i H' hi h => ?_) (fun H' h => ?_)
  · obtain ⟨acc, e, h⟩ := h
    rw [show (0 : Int) + (i : Int) = (i : Int) by omega]
    refine monoG _ _ _ _ _ ?_ (hs i acc Dl H' (by omega) hD e h)
    rintro σ2 H2 ⟨hw, ht⟩
    refine ⟨hw, monoT _ _ _ _ ?_ ht⟩
    intro b H3 hb
    cases b with
    | true =>
      rw [if_pos rfl] at hb ⊢
      refine mono _ _ _ _ ?_ hb
      rintro y H4 ⟨e4, h5⟩
      refine ⟨acc, e4, lt_line1 ?_, acc ++ [y], upd_same, h5 _ (Kp.put1 e4)⟩
      have := hlen i acc H' h
      omega
    | false =>
      rw [if_neg Bool.false_ne_true] at hb ⊢
      exact ⟨acc, hb.1, hb.2⟩
  · obtain ⟨acc, e, h⟩ := h
    exact q Dl acc H' hD e h
end
end Ph
namespace Ph
open PySem PySem.Spec PyProof.Rows L2
/-! ### == of data -/
mutual
def noB : PyData → Bool
  | .bool _ => false
  | .dict _ => false
  | .list xs => noBs xs
  | .tuple xs => noBs xs
  | .none => true
  | .int _ => true
  | .str _ => true
def noBs : List PyData → Bool
  | [] => true
  | x :: xs => noB x && noBs xs
end
mutual
theorem eqv_iff : ∀ (d e : PyData), noB d = true → noB e = true → (PyData.eqv d e = true ↔ d = e)
  | .bool _, _, h, _ => by simp [noB] at h
  | .dict _, _, h, _ => by simp [noB] at h
  | _, .bool _, _, h => by simp [noB] at h
  | _, .dict _, _, h => by simp [noB] at h
  | .none, .none, _, _ => by simp [PyData.eqv]
  | .none, .int _, _, _ => by simp [PyData.eqv]
  | .none, .str _, _, _ => by simp [PyData.eqv]
  | .none, .list _, _, _ => by simp [PyData.eqv]
  | .none, .tuple _, _, _ => by simp [PyData.eqv]
  | .int _, .none, _, _ => by simp [PyData.eqv]
  | .int i, .int j, _, _ => by simp [PyData.eqv]
  | .int _, .str _, _, _ => by simp [PyData.eqv]
  | .int _, .list _, _, _ => by simp [PyData.eqv]
  | .int _, .tuple _, _, _ => by simp [PyData.eqv]
  | .str _, .none, _, _ => by simp [PyData.eqv]
  | .str _, .int _, _, _ => by simp [PyData.eqv]
  | .str x, .str y, _, _ => by simp [PyData.eqv]
  | .str _, .list _, _, _ => by simp [PyData.eqv]
  | .str _, .tuple _, _, _ => by simp [PyData.eqv]
  | .list _, .none, _, _ => by simp [PyData.eqv]
  | .list _, .int _, _, _ => by simp [PyData.eqv]
  | .list _, .str _, _, _ => by simp [PyData.eqv]
  | .list xs, .list ys, h1, h2 => by
    rw [PyData.eqv, eqvAll_iff xs ys (by simpa [noB] using h1) (by simpa [noB] using h2), PyData.list.injEq]
  | .list _, .tuple _, _, _ => by simp [PyData.eqv]
  | .tuple _, .none, _, _ => by simp [PyData.eqv]
  | .tuple _, .int _, _, _ => by simp [PyData.eqv]
  | .tuple _, .str _, _, _ => by simp [PyData.eqv]
  | .tuple _, .list _, _, _ => by simp [PyData.eqv]
  | .tuple xs, .tuple ys, h1, h2 => by
    rw [PyData.eqv, eqvAll_iff xs ys (by simpa [noB] using h1) (by simpa [noB] using h2), PyData.tuple.injEq]
theorem eqvAll_iff : ∀ (xs ys : List PyData), noBs xs = true → noBs ys = true → (PyData.eqvAll xs ys = true ↔ xs = ys)
  | [], [], _, _ => by simp [PyData.eqvAll]
  | [], _ :: _, _, _ => by simp [PyData.eqvAll]
  | _ :: _, [], _, _ => by simp [PyData.eqvAll]
  | x :: xs, y :: ys, h1, h2 => by
    rw [noBs, Bool.and_eq_true] at h1 h2
    rw [PyData.eqvAll, Bool.and_eq_true, eqv_iff x y h1.1 h2.1, eqvAll_iff xs ys h1.2 h2.2, List.cons.injEq]
end
theorem bool_iff {b c : Bool} (h : b = true ↔ c = true) : b = c := by
  cases b <;> cases c <;> simp_all
/-- data of the forms that are compared here: no bools, shaped -/
structure Fine (n : Nat) (d : PyData) : Prop where
  b : noB d = true
  l : d.canLay0 = true
  d : d.depth ≤ n
theorem Fine.mono {n m : Nat} {d : PyData} (h : Fine n d) (k : n ≤ m) : Fine m d := ⟨h.b, h.l, Nat.le_trans h.d k⟩
theorem Fine.sh {n : Nat} {d : PyData} (h : Fine n d) (hn : n ≤ 64) : SeqAt.shaped d = true := by
  unfold SeqAt.shaped
  rw [h.l, decide_eq_true (Nat.le_trans h.d hn)]; rfl
theorem fine_int {n : Nat} {i : Int} : Fine n (.int i) := ⟨rfl, rfl, Nat.zero_le _⟩
theorem fine_non {n : Nat} : Fine n .none := ⟨rfl, rfl, Nat.zero_le _⟩
theorem fine_str {n : Nat} {x : Str} (h : PyData.strOk x = true) : Fine n (.str x) := ⟨rfl, h, Nat.zero_le _⟩
theorem fines : ∀ {n : Nat} {ds : List PyData}, (∀ d ∈ ds, Fine n d) → noBs ds = true ∧ PyData.canLayAll0 ds = true ∧ PyData.depthAll ds ≤ n
  | n, [], _ => ⟨rfl, rfl, Nat.zero_le _⟩
  | n, x :: xs, h => by
    have hx := h x List.mem_cons_self
    obtain ⟨h1, h2, h3⟩ := fines fun d hd => h d (List.mem_cons_of_mem _ hd)
    refine ⟨by rw [noBs, hx.b, h1]; rfl, by rw [PyData.canLayAll0, hx.l, h2]; rfl, ?_⟩
    rw [PyData.depthAll]
    exact Nat.max_le.mpr ⟨hx.d, h3⟩
theorem fine_list {n : Nat} {ds : List PyData} (h : ∀ d ∈ ds, Fine n d) : Fine (n + 1) (.list ds) := by
  obtain ⟨h1, h2, h3⟩ := fines h
  exact ⟨by rw [noB]; exact h1, by rw [PyData.canLay0]; exact h2, by rw [PyData.depth]; omega⟩
theorem fine_tup {n : Nat} {ds : List PyData} (h : ∀ d ∈ ds, Fine n d) : Fine (n + 1) (.tuple ds) := by
  obtain ⟨h1, h2, h3⟩ := fines h
  exact ⟨by rw [noB]; exact h1, by rw [PyData.canLay0]; exact h2, by rw [PyData.depth]; omega⟩
/-- the int i as data -/
def pI (i : Int) : PyData := .int i
def pL (ns : List Int) : PyData := .list (ns.map pI)
theorem fine_pL {n : Nat} {ns : List Int} : Fine (n + 1) (pL ns) := fine_list fun d hd => by
  obtain ⟨i, _, rfl⟩ := List.mem_map.mp hd
  exact fine_int
theorem pL_inj {ns ms : List Int} (h : pL ns = pL ms) : ns = ms := by
  have h := PyData.list.inj h
  exact List.map_inj_right (fun a b e => PyData.int.inj e) |>.mp h
section
variable {K : PySem.W.Frag} {H : Hp} {Q : VK} {x y : V} {d e : PyData}
theorem dpa_ints : ∀ {ns : List Int}, DpAll K H (ns.map V.int) (ns.map pI)
  | [] => .nil
  | i :: r => .cons (.int i) dpa_ints
theorem dp_ints {a : Addr} {ns : List Int} (h : SqL K H a (ns.map V.int)) : Dp K H (.ref a) (pL ns) := .lst h dpa_ints
theorem dp_nil {a : Addr} (h : SqL K H a []) : Dp K H (.ref a) (pL []) := .lst h .nil
theorem r_eqD {b : Bool} (hx : Dp K H x d) (hy : Dp K H y e) (fd : Fine 60 d) (fe : Fine 60 e) (hb : b = true ↔ d = e) (q : Q (.bl b) H) : rEqD K x y H Q :=
  ⟨d, e, hx, hy, fd.sh (by decide), fe.sh (by decide), by
    rw [show PyData.eqv d e = b from bool_iff (by rw [eqv_iff d e fd.b fe.b, hb])]; exact q⟩
theorem r_neD {b : Bool} (hx : Dp K H x d) (hy : Dp K H y e) (fd : Fine 60 d) (fe : Fine 60 e) (hb : b = true ↔ d = e) (q : Q (.bl (!b)) H) : rNeD K x y H Q :=
  ⟨d, e, hx, hy, fd.sh (by decide), fe.sh (by decide), by
    rw [show PyData.eqv d e = b from bool_iff (by rw [eqv_iff d e fd.b fe.b, hb])]; exact q⟩
/-- equal data -/
theorem r_eqS (hx : Dp K H x d) (hy : Dp K H y d) (fd : Fine 60 d) (q : Q (.bl true) H) : rEqD K x y H Q := r_eqD hx hy fd fd ⟨fun _ => rfl, fun _ => rfl⟩ q
theorem r_neS (hx : Dp K H x d) (hy : Dp K H y d) (fd : Fine 60 d) (q : Q (.bl false) H) : rNeD K x y H Q := r_neD (b := true) hx hy fd fd ⟨fun _ => rfl, fun _ => rfl⟩ q
theorem r_eqL {a b : Addr} {ns ms : List Int} (h1 : SqL K H a (ns.map V.int)) (h2 : SqL K H b (ms.map V.int)) (q : Q (.bl (decide (ns = ms))) H) : rEqD K (.ref a) (.ref b) H Q :=
  r_eqD (dp_ints h1) (dp_ints h2) (fine_pL (n := 59)) (fine_pL (n := 59)) (by rw [decide_eq_true_eq]; exact ⟨fun h => by rw [h], pL_inj⟩) q
theorem r_neL {a b : Addr} {ns ms : List Int} (h1 : SqL K H a (ns.map V.int)) (h2 : SqL K H b (ms.map V.int)) (q : Q (.bl (!decide (ns = ms))) H) : rNeD K (.ref a) (.ref b) H Q :=
  r_neD (dp_ints h1) (dp_ints h2) (fine_pL (n := 59)) (fine_pL (n := 59)) (by rw [decide_eq_true_eq]; exact ⟨fun h => by rw [h], pL_inj⟩) q
end
end Ph
namespace Ph
open PySem PySem.Spec PyProof.Rows L2
/-! ### an exception that is kept behind its except clause -/
/-- an exception object of the class cls, with the dict d -/
def ExO (cls : Value) (d : Option Addr) (a : Addr) : HO := .ext fun h => ∃ (oe : Obj) (vs : Array Value), h.get? a = some oe ∧ Zc cls d oe ∧ oe.data = .fields vs
section
variable {X : Cx} {pins : List (Addr × Obj)} {σ : L2.St} {H : Hp} {s : Shared} {a : Addr} {oe : Obj} {cls : Value} {d : Option Addr} {vs : Array Value}
theorem keep_track (I : L2.Inv X ((a, oe) :: pins) σ H s) (hz : Zc cls d oe) (hd : oe.data = .fields vs) (h0 : X.s_0.heap.get? a = none) (np : ∀ p ∈ X.pn ++ pins, p.1 ≠ a) : L2.Inv X pins σ (upd H a (ExO cls d a)) s := by
  have hp := I.pin (a, oe) (List.mem_append_right _ List.mem_cons_self)
  obtain ⟨ha, hn, hL, _, hc⟩ := hp
  have off : ∀ {b : Addr} {o : HO}, H b = some o → (upd H a (ExO cls d a)) b = some o := fun {b o} e => by
    rw [upd_ne (ne_of_none e hn)]; exact e
  refine ⟨I.ok, I.os, I.bare, ⟨I.base.keep, I.base.slot, fun b o e n x => ?_, I.base.there, fun b xs e => off (I.base.tups b xs e), fun b o u e => off (I.base.frzs b o u e), fun b ps e => ?_⟩, I.loc, I.cell, ?_, fun x c e => ?_, fun p hp => ?_, fun b u e => ?_, I.len⟩
  · have z := I.base.free b o e n x
    rw [upd_ne (fun y => by rw [y, h0] at e; cases e)]
    exact z
  · obtain ⟨m, z⟩ := I.base.tbls b ps e
    exact ⟨m, off z⟩
  · rw [upd_ne (fun y => hL y.symm)]
    exact I.free
  · have z := I.freeC x c e
    rw [upd_ne (fun y => ?_)]
    · exact z
    · obtain ⟨v, o, e1, e2⟩ := I.cell x c e
      rw [y] at e1
      have e3 : some oe = some o := ha.symm.trans e1
      cases e3
      exact hc v e2
  · obtain ⟨q1, q2, q3⟩ := I.pin p (by
      rcases List.mem_append.mp hp with h | h
      · exact List.mem_append_left _ h
      · exact List.mem_append_right _ (List.mem_cons_of_mem _ h))
    exact ⟨q1, by rw [upd_ne (np p hp)]; exact q2, q3⟩
  · by_cases y : b = a
    · rw [y, upd_same] at e
      cases e
      rw [y]
      exact ⟨⟨oe, vs, ha, hz, hd⟩, ⟨oe, ha⟩, fun h1 h2 ⟨o, w, q, r⟩ k => ⟨o, w, k o q, r⟩⟩
    · rw [upd_ne y] at e
      exact (I.hok b u e).stay (fun c v _ q => q) (fun c q => off q) fun c xs q => off q
theorem pin_more {q : Addr × Obj} {pn' : List (Addr × Obj)} (I : L2.Inv (X.suite a (q :: (X.pn ++ pins))) pn' σ H s) (ok : X.Ok) : L2.Inv X (q :: pins) σ H s :=
  ⟨ok, I.os, I.bare, I.base, I.loc, I.cell, I.free, I.freeC, fun p hp => I.pin p (by
    rcases List.mem_append.mp hp with h | h
    · exact List.mem_append_left _ (List.mem_cons_of_mem _ (List.mem_append_left _ h))
    · rcases List.mem_cons.mp h with h | h
      · rw [h]; exact List.mem_append_left _ List.mem_cons_self
      · exact List.mem_append_left _ (List.mem_cons_of_mem _ (List.mem_append_right _ h))), I.hok, I.len⟩
end
/-- what 'except x as n: y = n' wishes of an exception of the body -/
def wKeep (K : PySem.W.Frag) (c : Value) (i j : Nat) (D : Ends) : WX := fun cls d σ H =>
  PySem.W.exmOne K cls c = some true ∧ ∀ a, H a = none → D.nx ((σ.set j (some (.ref a))).set i none) (upd H a (ExO cls d a))
section
variable {X : Cx} {x n y : Str} {c : Value} {i j : Nat} {body : List Stmt} {np pos pos' py pn ap : Pos} {tb : WX → TS}
theorem ps_keep (hs : X.stack = X.env :: X.outer) (hf : X.env.frame = some X.env.locals) (hex : X.ex = []) (hN : X.N.Nodup) (hi : X.N[i]? = some n) (hln : X.env.kindOf n = some .local) (hj : X.N[j]? = some y) (hly : X.env.kindOf y = some .local) (hc : Names X x c)
    (hb : ∀ (W : WX) (pn : List (Addr × Obj)) (xe : Value → Shared → Prop), Takes (X.tr pn xe) W → PassesOwn (model X.prog X.w) X.A X.env xe → PSs (X.tr pn xe) body (tb W))
    (hd1 : (n == ("__debug__" : Str)) = false := by decide) (hd2 : (n == ("__classdict__" : Str)) = false := by decide) :
    PS X (.Try body [.ExceptHandler (some (.Name x np)) (some n) [.Assign [.Name y py] (.Name n pn) ap] pos'] [] [] pos) (fun D σ H => tb (wKeep X.K c i j D) D σ H) := by
  refine ⟨fun pins s σ H D I h => ?_⟩
  have ok := I.ok
  have hfr : X.A.frames = some (X.env :: X.outer) := by rw [ok.frames, hs]
  refine wpAny_Try_except ?_
  let hnd : List ExceptHandler := [.ExceptHandler (some (.Name x np)) (some n) [.Assign [.Name y py] (.Name n pn) ap] pos']
  let xe : Value → Shared → Prop := fun e s1 => wpAny (model X.prog X.w) X.A (noteFrame e X.env) (fun _ s2 => wpAny (model X.prog X.w) X.A (setFlight e none) (fun _ s3 => wpAny (model X.prog X.w) X.A (handleBy e X.env hnd) (SP X pins D) X.xe s3) X.xe s2) X.xe s1
  have caught : Takes (X.tr (X.pn ++ pins) xe) (wKeep X.K c i j D) := fun u s' xx => by
    obtain ⟨a, B, sI, pins', σ', H', cls, d, rfl, J', nb, up, sky, na, os, ag, hm, hyes⟩ := xx
    have J : L2.Inv X pins σ' H' sI := J'.ofTry ok
    have sky' : Sky B (X.env :: X.outer) a (Zc cls d) X.env.locals s'.heap := by rw [← hs]; exact sky
    show wpAny (model X.prog X.w) X.A (noteFrame (.ref a) X.env) _ _ _
    refine Sky.land Zc.steady hfr hf sky' fun h3 fl3 up3 => ?_
    have J3 : L2.Inv X pins σ' H' { s' with heap := h3 } := J.landed nb fl3.1 (up.trans up3) os ag
    obtain ⟨oe3, vs3, he3, hz3, hd3⟩ := fl3.there
    have nfr : a ∉ frs (X.env :: X.outer) := fun hm => by
      obtain ⟨_, o', e', hnf⟩ := fl3.2.2.1.mem hm
      rw [he3] at e'
      cases e'
      exact hnf _ hd3
    have nI : sI.heap.get? a = none := by
      cases e : sI.heap.get? a with
      | none => rfl
      | some o =>
        have z := nb a o e (by rw [hs]; exact nfr)
        rw [fl3.2.1] at z
        cases z
    have n0 : X.s_0.heap.get? a = none := by
      cases e : X.s_0.heap.get? a with
      | none => rfl
      | some o =>
        obtain ⟨o', z⟩ := J.base.there a o e (by rw [hex]; exact List.not_mem_nil)
        rw [nI] at z
        cases z
    have npin : ∀ p ∈ X.pn ++ pins, p.1 ≠ a := fun p hp z => by
      have q := (J.pin p hp).1
      rw [z, nI] at q
      cases q
    have nL : a ≠ X.env.locals := fun z => nfr (List.mem_filterMap.mpr ⟨X.env, List.mem_cons_self, by rw [hf, z]⟩)
    have nF : a ∉ X.fs := fun hm => by
      obtain ⟨e, he, q⟩ := List.mem_filterMap.mp hm
      exact nfr (List.mem_filterMap.mpr ⟨e, List.mem_cons_of_mem _ he, q⟩)
    have S3 := J3.suite he3 hd3 na nL nF
    refine wpAny_handleBy_cons (codeAny_handlers_test ?_) (by intro q; cases q)
    have LT : PySem.W.Looks (model X.prog X.w) h3 (typeOf (.ref a)) cls := fun A Q E s k q => wpAny_typeOf_ref (k _ _ he3) (by rw [hz3.1]; exact q)
    have LM := PySem.W.exm_one (M := model X.prog X.w) J3.kIn LT hm
    have clsName : ∀ {Q : Value → Shared → Prop} {E : Value → Shared → Prop}, Q c { s' with heap := h3 } → wpAny (model X.prog X.w) (X.A.mark (some (.ref a))) (eval (.Name x np) X.env) Q E { s' with heap := h3 } := fun {Q E} q => by
      obtain ⟨hg, hdbg, hm | ⟨hm, hv, hnn⟩⟩ := hc
      · exact ld_glob (X := X.suite a ((a, oe3) :: (X.pn ++ pins))) S3 hg hm q hdbg
      · exact ld_blt (X := X.suite a ((a, oe3) :: (X.pn ++ pins))) S3 hg hm hv q hnn hdbg
    refine clsName (LM.here ?_)
    refine codeAny_handlers_suite_as (HandSPX.lands_againZ fl3 fun h4 fl4 up4 => ?_)
    have J4 : L2.Inv X pins σ' H' { s' with heap := h4 } := J.landed nb fl4.1 ((up.trans up3).trans up4) os ag
    obtain ⟨oe4, vs4, he4, hz4, hd4⟩ := fl4.there
    have S4 := J4.suite he4 hd4 na nL nF
    refine store_ok (X := X.suite a ((a, oe4) :: (X.pn ++ pins))) (v := .ref a) S4 hN hi (.inl hln) rfl (fun s5 S5 => ?_) (.inr hln)
    have su : PSs (X.suite a ((a, oe4) :: (X.pn ++ pins))) [.Assign [.Name y py] (.Name n pn) ap] (tAsg (tVar i) (gName j)) :=
      pss_one (ps_set (i := j) hN hj (.inl hly) (pe_var hi (.inl hln) hd1 hd2) (by rfl) (.inr hly))
    have hil : i < σ'.length := by
      rw [J.len]
      exact (List.getElem?_eq_some_iff.mp hi).1
    refine wpAny_mono (su.run [] s5 _ H' { nx := fun σ6 H6 => σ6 = ((σ'.set i (some (.ref a))).set j (some (.ref a))) ∧ H6 = H', rt := fun _ _ => False, bk := fun _ _ => False, ct := fun _ _ => False } S5 ⟨.ref a, by rw [List.getElem?_set_self hil], rfl, rfl⟩) (fun f s6 hsp => ?_) (fun _ _ z => False.elim z)
    cases f with
    | next =>
      obtain ⟨σ6, H6, S6, e6, eH⟩ := hsp
      subst e6 eH
      refine gone_ok (pin_more S6 ok) hN hi hln fun s7 J7 => ⟨_, _, keep_track J7 hz4 hd4 n0 npin, ?_⟩
      have q := hyes a na
      have e : ((σ'.set i (some (V.ref a))).set j (some (V.ref a))).set i none = (σ'.set j (some (V.ref a))).set i none := by
        by_cases hij : i = j
        · subst hij; simp
        · rw [List.set_comm _ _ hij, List.set_set]
      rw [e]
      exact q
    | brk => obtain ⟨_, _, _, z⟩ := hsp; exact z.elim
    | cont => obtain ⟨_, _, _, z⟩ := hsp; exact z.elim
    | ret u => obtain ⟨_, _, _, _, _, z⟩ := hsp; exact z.elim
  refine wpAny_mono ((hb (wKeep X.K c i j D) (X.pn ++ pins) xe caught PassesOwn.looking).run [] s σ H D (I.toTry _) h) (fun f s1 hsp => ?_) (fun e s1 he => he)
  cases f with
  | next =>
    obtain ⟨σ', H', J', q⟩ := hsp
    exact wpAny_execs_nil ⟨σ', H', J'.ofTry ok, q⟩
  | brk => obtain ⟨σ', H', J', q⟩ := hsp; exact ⟨σ', H', J'.ofTry ok, q⟩
  | cont => obtain ⟨σ', H', J', q⟩ := hsp; exact ⟨σ', H', J'.ofTry ok, q⟩
  | ret u => obtain ⟨v, σ', H', J', r, q⟩ := hsp; exact ⟨v, σ', H', J'.ofTry ok, r, q⟩
end
end Ph
namespace Ph
open PySem PySem.Spec PyProof.Rows L2
/-! ### try, kept exceptions, what they are -/
def tKeep (K : PySem.W.Frag) (c : Value) (i j : Nat) (tb : WX → TS) : TS := fun D σ H => tb (wKeep K c i j D) D σ H
theorem q_keep {X : Cx} {x n y : Str} {c : Value} {i j : Nat} {body : List Stmt} {np pos pos' py pn ap : Pos} {tb : WX → TS} (hN : X.N.Nodup) (g : X.mg x = some c)
    (hb : ∀ (W : WX) (pn : List (Addr × Obj)) (xe : Value → Shared → Prop), Takes (X.tr pn xe) W → PassesOwn (model X.prog X.w) X.A X.env xe → PSs (X.tr pn xe) body (tb W))
    (hs : X.stack = X.env :: X.outer := by rfl) (hf : X.env.frame = some X.env.locals := by rfl) (hex : X.ex = [] := by rfl) (hi : X.N[i]? = some n := by rfl) (hln : X.env.kindOf n = some .local := by rfl) (hj : X.N[j]? = some y := by rfl) (hly : X.env.kindOf y = some .local := by rfl)
    (hg : Gl X x := by rfl) (hdb : (x == ("__debug__" : Str)) = false := by decide) (hd1 : (n == ("__debug__" : Str)) = false := by decide) (hd2 : (n == ("__classdict__" : Str)) = false := by decide) :
    PS X (.Try body [.ExceptHandler (some (.Name x np)) (some n) [.Assign [.Name y py] (.Name n pn) ap] pos'] [] [] pos) (tKeep X.K c i j tb) :=
  ps_keep hs hf hex hN hi hln hj hly ⟨hg, hdb, .inl g⟩ hb hd1 hd2
theorem r_keep {K : PySem.W.Frag} {c : Value} {i j : Nat} {tb : WX → TS} {D : Ends} {σ : L2.St} {H : Hp} (h : tb (wKeep K c i j D) D σ H) : tKeep K c i j tb D σ H := h
/-- o.m(..) in a try: what is raised is wished for at the slots -/
def tMethS (C : Addr) (m : Str) (sp : Sp) (E : L2.St → XK) (ta : TE) (t : TA) : TE := fun σ H Q => ta σ H fun x H1 => mthQ C m sp [] (E σ) t σ Q x H1
theorem r_methS {C : Addr} {m : Str} {sp : Sp} {E : L2.St → XK} {ta : TE} {t : TA} {σ : L2.St} {H : Hp} {Q : VK} (h : ta σ H fun x H1 => mthQ C m sp [] (E σ) t σ Q x H1) : tMethS C m sp E ta t σ H Q := h
theorem r_callS {sp : Sp} {E : L2.St → XK} {t : TA} {σ : L2.St} {H : Hp} {Q : VK} (h : t σ H fun vs H1 => sp vs H1 Q (E σ)) : tCallS sp E t σ H Q := h
section
variable {X : Cx} {d : He.DefD} {k j : Nat} {C : Addr} {ps : List Str} {sp : Sp} {W : WX} {x m : Str} {p pos apos : Pos} {e o : Expr} {es : List Expr} {ta : TE} {t : TA}
theorem q_callS (c : Ok X.prog X.w X.K X.mg X.base d k ps sp) (b : Bd X.K d ps []) (hm : X.mg x = some (.ref (He.fAd X.K d.at_))) (hr : Room j X.A) (hk : k ≤ j) (hg : Gl X x) (tk : Takes X W) (ha : PA X (e :: es) t)
    (hdb : (x == ("__debug__" : Str)) = false := by decide) (he : starEach (e :: es) X.env = (false, eval e X.env) :: starEach es X.env := by rfl) (hpl : (backTo pos (starEach es X.env)).any (·.1) = false := by rfl) :
    PE X (.Call (.Name x p) (e :: es) [] pos) (tCallS sp (WE W) t) := by
  obtain ⟨fd, F, G⟩ := c.ex
  obtain ⟨ds, r, b⟩ := b fd F
  cases r
  exact pe_callS G (hr.mono hk) hg hm F.kp b (fun σ => passAt tk σ) ha hdb he hpl
theorem q_methS {pl : Sem Bool} (c : Ok X.prog X.w X.K X.mg X.base d k ps sp) (he : PE X o ta) (cl : Cls X.K C) (hm : Meth X.K C m (He.fAd X.K d.at_)) (b : Bd X.K d ps []) (hr : Room j X.A) (hk : k ≤ j) (tk : Takes X W) (ha : PA X (e :: es) t)
    (hst : starEach (e :: es) X.env = (false, eval e X.env) :: starEach es X.env := by rfl) (hpl : (backTo pos (starEach es X.env)).any (·.1) = false := by rfl)
    (ht : eval (.Call (.Attribute o m apos) (e :: es) [] pos) X.env = (do
      let ov ← eval o X.env
      standAt apos.atName
      let (f, first) ← holding [ov] (getMethod ov m pl)
      callWith pos f first (backTo pos (starEach (e :: es) X.env)) (backToKw pos (keywordEach [] X.env))) := by rfl) :
    PE X (.Call (.Attribute o m apos) (e :: es) [] pos) (tMethS C m sp (WE W) ta t) := by
  obtain ⟨fd, F, G⟩ := c.ex
  obtain ⟨ds, r, b⟩ := b fd F
  cases r
  refine ⟨fun pins s σ H Q I h => PySem.W.methodCall_KW (pl := pl) (thn (he.run pins s σ H _ I h) fun u s1 hu => ?_) ht⟩
  obtain ⟨v, H1, I1, rv, a, dx, fs, ev, ea, l, q⟩ := hu
  subst ev
  cases (show u = Value.ref a from rv)
  refine getmeth_ok I1 ea cl hm l (PySem.W.callWith_K (first := [.ref a]) (h₀ := X.base) I.ok.mod.kin hm.kp (thn (ha.run pos pins s1 σ H1 _ I1 q) fun us s2 hh => ?_) hst hpl)
  obtain ⟨vs, H2, I2, r, q2⟩ := hh
  rw [List.append_nil] at q2
  exact ⟨I2.kIn, run_fnS (us := .ref a :: us) (vs := .ref a :: vs) G (hr.mono hk) b (passAt tk σ) I2 (.cons rfl r) q2⟩
/-- isinstance(e, c) of a kept exception -/
def rIsX (K : PySem.W.Frag) : List V → Hp → VK → Prop := fun xs H Q => ∃ (a D : Addr) (c : V) (cv : Value) (b : Bool), xs = [.ref a, c] ∧ ClsV c cv ∧ H a = some (ExO (.ref D) none a) ∧ ExcC K D ∧ PySem.W.kitOne K (.ref D) cv = some b ∧ Q (.bl b) H
theorem c_isX : CallR X (.builtin "isinstance") (rIsX X.K) := by
  intro pins s σ H xs us Q I r h
  obtain ⟨a, D, c, cv, b, rfl, hc, ha, C, e, q⟩ := h
  obtain ⟨u, u', rfl, ru, ru'⟩ := vals2 r
  cases (show u = Value.ref a from ru)
  have ec := hc.eq ru'
  subst ec
  obtain ⟨⟨oe, vs, hg, hz, hd⟩, _⟩ := (show ObjOk X.prog X.w H s.heap a (ExO (.ref D) none a) from I.hok a _ ha)
  have J : PySem.W.InstAt s.heap a oe D none := by
    obtain ⟨oc, od, oda, osl⟩ := oe
    obtain ⟨h1, h2⟩ := hz
    dsimp only at h1 h2 hd
    subst h1 h2 hd
    exact ⟨hg, rfl, rfl, trivial⟩
  exact PySem.W.kia_one (PySem.W.handS_kitx_exc C.hg C.hk C.hs C.hd C.ha C.hn C.ht C.hm) I.kIn J e (fun z => nomatch z) fun tk => ⟨.bl b, H, I.kept (t' := tk) fun _ _ z => z, rfl, q⟩
theorem r_isX {K : PySem.W.Frag} {H : Hp} {Q : VK} {a D : Addr} {c : V} {cv : Value} {b : Bool} (hc : ClsV c cv) (ha : H a = some (ExO (.ref D) none a)) (C : ExcC K D) (e : PySem.W.kitOne K (.ref D) cv = some b) (q : Q (.bl b) H) : rIsX K [.ref a, c] H Q := ⟨a, D, c, cv, b, rfl, hc, ha, C, e, q⟩
/-- xs.count(y), flat things -/
def rCount (K : PySem.W.Frag) : V → List V → Hp → VK → Prop := fun x xs H Q => ∃ (p : Addr) (ys : List V) (y : V), x = .ref p ∧ xs = [y] ∧ SqL K H p ys ∧ flatV y = true ∧ ys.all flatV = true ∧ Q (.int (ys.countP fun z => eqV z y : Nat)) H
theorem count_vals {y : V} : ∀ {ys : List V} {us : List Value}, Vals ys us → ys.all flatV = true → us.countP (eqU y) = ys.countP fun z => eqV z y
  | _, _, .nil, _ => rfl
  | _, _, .cons (a := z) r t, h => by
    rw [List.all_cons, Bool.and_eq_true] at h
    rw [List.countP_cons, List.countP_cons, count_vals t h.2, eqU_of r h.1]
theorem mt_count : MtR X "list.count" (rCount X.K) := by
  intro pins s σ H x xs v us Q I rx rxs h
  obtain ⟨p, ys, y, rfl, rfl, hs, fy, fys, q⟩ := h
  cases rx
  obtain ⟨u, rfl, ru⟩ := vals1 rxs
  obtain ⟨its, rv, ⟨⟨cls, dd, data, sl⟩, n, ho, hc, hdn, hd⟩, hlen⟩ := I.list hs
  simp only at hc hd
  subst hc hd
  refine call_meets PySem.F.slot_list_count ⟨_, ho, rfl⟩ PySem.F.entry_list_count (PySem.F.args_list_count_2 _ _)
    (SeqAt.list_countAt p its.toArray n dd sl u (eqU y)) ⟨ho, fun z hz => mem_eqAt ru fy rv fys z (by simpa using hz), ?_⟩
  refine ⟨.int (ys.countP fun z => eqV z y : Nat), H, I.tok _, ⟨s.toks, ?_⟩, q⟩
  have ec : its.toArray.toList.countP (eqU y) = ys.countP fun z => eqV z y := count_vals rv fys
  rw [ec]
theorem r_count {K : PySem.W.Frag} {H : Hp} {Q : VK} {p : Addr} {ys : List V} {y : V} (h : SqL K H p ys) (f1 : flatV y = true) (f2 : ys.all flatV = true) (q : Q (.int (ys.countP fun z => eqV z y : Nat)) H) : rCount K (.ref p) [y] H Q := ⟨p, ys, y, rfl, rfl, h, f1, f2, q⟩
theorem r_index {K : PySem.W.Frag} {H : Hp} {Q : VK} {p : Addr} {ys : List V} {y : V} {j : Nat} {z : V} (h : SqL K H p ys) (f1 : flatV y = true) (f2 : ys.all flatV = true) (hj : ys[j]? = some z) (e : eqV z y = true) (hn : ∀ (m : Nat) (z' : V), m < j → ys[m]? = some z' → eqV z' y = false)
    (q : Q (.int (j : Nat)) H) : rIndex K (.ref p) [y] H Q := ⟨p, ys, y, j, z, rfl, rfl, h, f1, f2, hj, e, hn, q⟩
end
/-- what isinstance of an own exception class D asks -/
def excCB (K : PySem.W.Frag) (D : Addr) : Bool := decide (PySem.W.findIn K (.ref D) "__getattribute__" = some (some (.builtin "BaseException.__getattribute__"))) && (decide (PySem.W.findIn K (.ref D) "__getattr__" = some none) && (decide (PySem.W.subIn K (.ref D) (.type "BaseException") = some true) && (PySem.W.hasDictIn K D &&
  (decide (PySem.W.findIn K (.ref D) "__class__" = some (some (.builtin "object.__class__"))) && (decide (PySem.W.specialIn K (.builtin "object.__class__") "__get__" = some (some (.builtin "getset_descriptor.__get__"))) && (decide (PySem.W.takesIn K (.builtin "object.__class__") = some true) && decide (PySem.W.mroIn K D (.type "object") = some true)))))))
theorem excCB_ok {K : PySem.W.Frag} {D : Addr} (h : excCB K D = true) : ExcC K D := by
  unfold excCB at h
  simp only [Bool.and_eq_true, decide_eq_true_eq] at h
  obtain ⟨h1, h2, h3, h4, h5, h6, h7, h8⟩ := h
  exact ⟨h1, h2, h3, h4, h5, h6, h7, h8⟩
/-- isinstance's answers of an exception class D, class by class; ValueError's last -/
def kitsB (K : PySem.W.Frag) (D : Addr) (ps : List (Str × Bool)) : Bool := (ps.all fun p => decide (PySem.W.kitOne K (.ref D) (.ref (He.ga K p.1)) = some p.2)) && decide (PySem.W.kitOne K (.ref D) (.type "ValueError") = some true)
structure Kits (K : PySem.W.Frag) (D : Addr) (ps : List (Str × Bool)) : Prop where
  at_ : ∀ p ∈ ps, PySem.W.kitOne K (.ref D) (.ref (He.ga K p.1)) = some p.2
  ve : PySem.W.kitOne K (.ref D) (.type "ValueError") = some true
theorem kitsB_ok {K : PySem.W.Frag} {D : Addr} {ps : List (Str × Bool)} (h : kitsB K D ps = true) : Kits K D ps := by
  unfold kitsB at h
  rw [Bool.and_eq_true, List.all_eq_true, decide_eq_true_eq] at h
  exact ⟨fun p hp => of_decide_eq_true (h.1 p hp), h.2⟩
/-! ### a head that tells a Bool more -/
abbrev AlP : Type := He.AlD × Bool
def frP (as : (Addr → Option Obj) → List Addr) (g : Addr → Option Obj) : PySem.W.Frag := He.frG g (as g)
def obsP (as : (Addr → Option Obj) → List Addr) (fa : List He.Fa) (fn : List He.DefD) (ex : PySem.W.Frag → Bool) (g : Addr → Option Obj) : AlP := (He.obsD fa fn (frP as g), ex (frP as g))
structure SaysP (fa : List He.Fa) (fn : List He.DefD) (ex : PySem.W.Frag → Bool) (K : PySem.W.Frag) : Prop where
  d : He.SaysD fa fn K
  x : ex K = true
def hookP (as : (Addr → Option Obj) → List Addr) (fa : List He.Fa) (fn : List He.DefD) (ex : PySem.W.Frag → Bool) : PySem.W.Hook where
  α := AlP
  obs := fun s => obsP as fa fn ex s.heap.get?
  val := fun _ => (He.valD fn, true)
  says := fun _ h => ∃ K : PySem.W.Frag, K.In h ∧ SaysP fa fn ex K
  of := fun _ _ e => ⟨_, He.frG_in, congrArg (fun z : AlP => z.1) e, congrArg (fun z : AlP => z.2) e⟩
  keeps := fun _ _ _ ⟨K, hK, c⟩ k => ⟨K, PySem.W.Frag.In.keeps hK k, c⟩
theorem obsP_eq {as : (Addr → Option Obj) → List Addr} {fa : List He.Fa} {fn : List He.DefD} {ex : PySem.W.Frag → Bool} {g : Addr → Option Obj} {s : Shared} (h : ∀ a, g a = s.heap.get? a) : obsP as fa fn ex g = (hookP as fa fn ex).obs s := by
  have e : g = s.heap.get? := funext h
  rw [e]
  rfl
/-- a Bool that is all of a list -/
def exAll (l : List (PySem.W.Frag → Bool)) (K : PySem.W.Frag) : Bool := l.all fun f => f K
theorem exAll_at {l : List (PySem.W.Frag → Bool)} {K : PySem.W.Frag} (h : exAll l K = true) (i : Nat) {f : PySem.W.Frag → Bool} (hi : l[i]? = some f) : f K = true := List.all_eq_true.mp h f (List.mem_of_getElem? hi)
/-! ### refusals -/
def refTab : List (Str × Str) := [("NoTask", "task"), ("Busy", "busy"), ("NoDoor", "door"), ("WrongDoor", "wrong"), ("BadBytes", "bytes"), ("BadNumber", "number"), ("BadName", "name"), ("TooMany", "many"), ("Broken", "broken"), ("NotAble", "able")]
def refKits (i : Nat) : List (Str × Bool) := [("NoTask", i == 0), ("Busy", i == 1), ("NoDoor", i == 2), ("WrongDoor", i == 3), ("BadBytes", i == 4), ("BadNumber", i == 5), ("BadName", i == 6), ("TooMany", i == 7), ("Broken", i == 8), ("NotAble", i == 9), ("HouseError", true)]
end Ph
namespace Ph
open PySem PySem.Spec PyProof.Rows L2
def top (i : Nat) : Stmt := PySem.Challenge.pw_pipehouse_k04_files_refused.main.body.getD i (.Pass ⟨0, 0, 0, 0⟩)
abbrev s_is_whole : Stmt := top 12
def d_is_whole : He.DefD := ⟨("is_whole", none), "is_whole", "is_whole", defArgs s_is_whole, defBody s_is_whole, defScope s_is_whole, [], []⟩
abbrev s_look_number : Stmt := top 13
def d_look_number : He.DefD := ⟨("look_number", none), "look_number", "look_number", defArgs s_look_number, defBody s_look_number, defScope s_look_number, [], []⟩
abbrev s_look_bytes : Stmt := top 14
def d_look_bytes : He.DefD := ⟨("look_bytes", none), "look_bytes", "look_bytes", defArgs s_look_bytes, defBody s_look_bytes, defScope s_look_bytes, [], []⟩
abbrev s_File_init : Stmt := inClass (top 17) 0
def d_File_init : He.DefD := ⟨("File", some "__init__"), "__init__", "File.__init__", defArgs s_File_init, defBody s_File_init, defScope s_File_init, [], []⟩
abbrev s_File_put_at : Stmt := inClass (top 17) 1
def d_File_put_at : He.DefD := ⟨("File", some "put_at"), "put_at", "File.put_at", defArgs s_File_put_at, defBody s_File_put_at, defScope s_File_put_at, [], []⟩
abbrev s_File_take_at : Stmt := inClass (top 17) 2
def d_File_take_at : He.DefD := ⟨("File", some "take_at"), "take_at", "File.take_at", defArgs s_File_take_at, defBody s_File_take_at, defScope s_File_take_at, [], []⟩
abbrev s_File_held : Stmt := inClass (top 17) 3
def d_File_held : He.DefD := ⟨("File", some "held"), "held", "File.held", defArgs s_File_held, defBody s_File_held, defScope s_File_held, [], []⟩
abbrev s_law_town : Stmt := top 19
def d_law_town : He.DefD := ⟨("_law_town", none), "_law_town", "_law_town", defArgs s_law_town, defBody s_law_town, defScope s_law_town, [], []⟩
abbrev s_law_draw : Stmt := top 20
def d_law_draw : He.DefD := ⟨("_law_draw", none), "_law_draw", "_law_draw", defArgs s_law_draw, defBody s_law_draw, defScope s_law_draw, [], []⟩
abbrev s_law_pick : Stmt := top 21
def d_law_pick : He.DefD := ⟨("_law_pick", none), "_law_pick", "_law_pick", defArgs s_law_pick, defBody s_law_pick, defScope s_law_pick, [], []⟩
abbrev s_law_refusal : Stmt := top 22
def d_law_refusal : He.DefD := ⟨("_law_refusal", none), "_law_refusal", "_law_refusal", defArgs s_law_refusal, defBody s_law_refusal, defScope s_law_refusal, [], []⟩
abbrev s_law_byte : Stmt := top 23
def d_law_byte : He.DefD := ⟨("_law_byte", none), "_law_byte", "_law_byte", defArgs s_law_byte, defBody s_law_byte, defScope s_law_byte, [], []⟩
abbrev s_law_row : Stmt := top 24
def d_law_row : He.DefD := ⟨("_law_row", none), "_law_row", "_law_row", defArgs s_law_row, defBody s_law_row, defScope s_law_row, [], []⟩
abbrev s_law_asked : Stmt := top 25
def d_law_asked : He.DefD := ⟨("_law_asked", none), "_law_asked", "_law_asked", defArgs s_law_asked, defBody s_law_asked, defScope s_law_asked, [], []⟩
abbrev s_law : Stmt := top 26
def d_law : He.DefD := ⟨("law", none), "law", "law", defArgs s_law, defBody s_law, defScope s_law, [], []⟩
end Ph
namespace Ph
open PySem PySem.Spec PyProof.Rows L2
structure TxK (K : PySem.W.Frag) : Prop where
  x_HouseError : XOk K (He.ga K "HouseError")
  x_NoTask : XOk K (He.ga K "NoTask")
  x_Busy : XOk K (He.ga K "Busy")
  x_NoDoor : XOk K (He.ga K "NoDoor")
  x_WrongDoor : XOk K (He.ga K "WrongDoor")
  x_BadBytes : XOk K (He.ga K "BadBytes")
  x_BadNumber : XOk K (He.ga K "BadNumber")
  x_BadName : XOk K (He.ga K "BadName")
  x_TooMany : XOk K (He.ga K "TooMany")
  x_NotAble : XOk K (He.ga K "NotAble")
  c_File : Cls K (He.ga K "File")
  n_File : Mk K (He.ga K "File") (He.fAd K ("File", some "__init__"))
  m_File_put_at : Meth K (He.ga K "File") "put_at" (He.fAd K ("File", some "put_at"))
  m_File_take_at : Meth K (He.ga K "File") "take_at" (He.fAd K ("File", some "take_at"))
  m_File_held : Meth K (He.ga K "File") "held" (He.fAd K ("File", some "held"))
  m_File_len : Meth K (He.ga K "File") "__len__" (He.fAd K ("File", some "__len__"))
  a_File_some : NoAttr K (He.ga K "File") "some"
  e_NoTask : ExcC K (He.ga K "NoTask")
  i_NoTask : Kits K (He.ga K "NoTask") (refKits 0)
  z_NoTask : PySem.W.exmOne K (.ref (He.ga K "NoTask")) (.ref (He.ga K "HouseError")) = some true
  e_Busy : ExcC K (He.ga K "Busy")
  i_Busy : Kits K (He.ga K "Busy") (refKits 1)
  z_Busy : PySem.W.exmOne K (.ref (He.ga K "Busy")) (.ref (He.ga K "HouseError")) = some true
  e_NoDoor : ExcC K (He.ga K "NoDoor")
  i_NoDoor : Kits K (He.ga K "NoDoor") (refKits 2)
  z_NoDoor : PySem.W.exmOne K (.ref (He.ga K "NoDoor")) (.ref (He.ga K "HouseError")) = some true
  e_WrongDoor : ExcC K (He.ga K "WrongDoor")
  i_WrongDoor : Kits K (He.ga K "WrongDoor") (refKits 3)
  z_WrongDoor : PySem.W.exmOne K (.ref (He.ga K "WrongDoor")) (.ref (He.ga K "HouseError")) = some true
  e_BadBytes : ExcC K (He.ga K "BadBytes")
  i_BadBytes : Kits K (He.ga K "BadBytes") (refKits 4)
  z_BadBytes : PySem.W.exmOne K (.ref (He.ga K "BadBytes")) (.ref (He.ga K "HouseError")) = some true
  e_BadNumber : ExcC K (He.ga K "BadNumber")
  i_BadNumber : Kits K (He.ga K "BadNumber") (refKits 5)
  z_BadNumber : PySem.W.exmOne K (.ref (He.ga K "BadNumber")) (.ref (He.ga K "HouseError")) = some true
  e_BadName : ExcC K (He.ga K "BadName")
  i_BadName : Kits K (He.ga K "BadName") (refKits 6)
  z_BadName : PySem.W.exmOne K (.ref (He.ga K "BadName")) (.ref (He.ga K "HouseError")) = some true
  e_TooMany : ExcC K (He.ga K "TooMany")
  i_TooMany : Kits K (He.ga K "TooMany") (refKits 7)
  z_TooMany : PySem.W.exmOne K (.ref (He.ga K "TooMany")) (.ref (He.ga K "HouseError")) = some true
  e_NotAble : ExcC K (He.ga K "NotAble")
  i_NotAble : Kits K (He.ga K "NotAble") (refKits 9)
  z_NotAble : PySem.W.exmOne K (.ref (He.ga K "NotAble")) (.ref (He.ga K "HouseError")) = some true
end Ph
namespace Ph
open PySem PySem.Spec PyProof.Rows L2
structure Txt (K : PySem.W.Frag) (mg : Str → Option Value) : Prop extends TxK K where
  d_is_whole : ∃ fd, DFun K d_is_whole fd
  g_is_whole : mg "is_whole" = some (.ref (He.ga K "is_whole"))
  d_look_number : ∃ fd, DFun K d_look_number fd
  g_look_number : mg "look_number" = some (.ref (He.ga K "look_number"))
  d_look_bytes : ∃ fd, DFun K d_look_bytes fd
  g_look_bytes : mg "look_bytes" = some (.ref (He.ga K "look_bytes"))
  d_File_init : ∃ fd, DFun K d_File_init fd
  d_File_put_at : ∃ fd, DFun K d_File_put_at fd
  d_File_take_at : ∃ fd, DFun K d_File_take_at fd
  d_File_held : ∃ fd, DFun K d_File_held fd
  d_law_town : ∃ fd, DFun K d_law_town fd
  g_law_town : mg "_law_town" = some (.ref (He.ga K "_law_town"))
  d_law_draw : ∃ fd, DFun K d_law_draw fd
  g_law_draw : mg "_law_draw" = some (.ref (He.ga K "_law_draw"))
  d_law_pick : ∃ fd, DFun K d_law_pick fd
  g_law_pick : mg "_law_pick" = some (.ref (He.ga K "_law_pick"))
  d_law_refusal : ∃ fd, DFun K d_law_refusal fd
  g_law_refusal : mg "_law_refusal" = some (.ref (He.ga K "_law_refusal"))
  d_law_byte : ∃ fd, DFun K d_law_byte fd
  g_law_byte : mg "_law_byte" = some (.ref (He.ga K "_law_byte"))
  d_law_row : ∃ fd, DFun K d_law_row fd
  g_law_row : mg "_law_row" = some (.ref (He.ga K "_law_row"))
  d_law_asked : ∃ fd, DFun K d_law_asked fd
  g_law_asked : mg "_law_asked" = some (.ref (He.ga K "_law_asked"))
  d_law : ∃ fd, DFun K d_law fd
  k_MOST_BYTES : ∃ u, mg "MOST_BYTES" = some u ∧ RelV (.int 200) u
  f_len : mg "len" = none
  f_list : mg "list" = none
  f_isinstance : mg "isinstance" = none
  f_int : mg "int" = none
  f_bool : mg "bool" = none
  f_all : mg "all" = none
  f_range : mg "range" = none
  f_tuple : mg "tuple" = none
  f_ValueError : mg "ValueError" = none
  g_HouseError : mg "HouseError" = some (.ref (He.ga K "HouseError"))
  g_NoTask : mg "NoTask" = some (.ref (He.ga K "NoTask"))
  g_Busy : mg "Busy" = some (.ref (He.ga K "Busy"))
  g_NoDoor : mg "NoDoor" = some (.ref (He.ga K "NoDoor"))
  g_WrongDoor : mg "WrongDoor" = some (.ref (He.ga K "WrongDoor"))
  g_BadBytes : mg "BadBytes" = some (.ref (He.ga K "BadBytes"))
  g_BadNumber : mg "BadNumber" = some (.ref (He.ga K "BadNumber"))
  g_BadName : mg "BadName" = some (.ref (He.ga K "BadName"))
  g_TooMany : mg "TooMany" = some (.ref (He.ga K "TooMany"))
  g_Broken : mg "Broken" = some (.ref (He.ga K "Broken"))
  g_NotAble : mg "NotAble" = some (.ref (He.ga K "NotAble"))
  g_File : mg "File" = some (.ref (He.ga K "File"))
end Ph
/-! ### small steps -/
local macro_rules | `(tactic| walk_at "ne") => `(tactic| first
  | assumption
  | (refine Ne.symm ?_; assumption)
  | (refine @L2.ne_of_none ?H _ _ ?o ?h1 ?h2; (case h2 => assumption); (case h1 => walk_at "hp"))
  | (refine Ne.symm (@L2.ne_of_none ?H _ _ ?o ?h1 ?h2); (case h2 => assumption); (case h1 => walk_at "hp"))
  | (refine @L2.ne_of ?H _ _ ?o ?u ?h1 ?h2 ?h3; (case h1 => walk_at "hp"); (case h2 => walk_at "hp"); (case h3 => intro z; cases z)))
local macro_rules | `(tactic| walk_at "nf") => `(tactic| first
  | assumption
  | exact fun z => z
  | (intro z; exact absurd (show _ = _ from z) (by walk_at "ne"))
  | (intro z; rcases (show _ ∨ _ from z) with z | z <;> exact absurd (show _ = _ from z) (by walk_at "ne")))
local macro_rules | `(tactic| walk_at "hp") => `(tactic| first
  | assumption
  | exact L2.upd_same
  | (refine Ph.Kp.keep (by assumption) _ _ ?_ ?_; walk_at "hp"; walk_at "nf"))
local macro_rules | `(tactic| walk_at "sq") => `(tactic| first
  | assumption
  | exact L2.SqL.of (by walk_at "hp")
  | exact L2.SqT.of (by walk_at "hp"))
local macro_rules | `(tactic| walk_at "s1") => `(tactic| with_reducible first
  | refine Ph.r_seq ?_ | refine Ph.r_set ?_ | refine Ph.r_drop ?_ | refine Ph.r_ret ?_ | refine Ph.r_if ?_ | refine Ph.r_next ?_
  | refine Ph.r_var rfl ?_ | refine Ph.r_c ?_ | refine Ph.r_op ?_ | refine Ph.r_I0 ?_ | refine Ph.r_cons ?_ | refine Ph.r_nil ?_ | refine Ph.r_cb ?_
  | refine Ph.r_B ?_ | refine Ph.r_test ?_ | refine Ph.r_and ?_ | refine Ph.r_or ?_ | refine Ph.r_not ?_ | refine Ph.r_andV ?_ | refine Ph.r_orV ?_ | refine Ph.r_notV ?_ | refine Ph.r_ifE ?_
  | refine Ph.r_call ?_ | refine Ph.r_meth ?_ | refine Ph.r_fld ?_ | refine Ph.r_sfld ?_ | refine Ph.r_bm ?_ | refine Ph.r_bm0 ?_ | refine Ph.r_sl ?_ | refine Ph.r_noPart ?_ | refine Ph.r_part ?_
  | refine Ph.r_lst ?_ | refine Ph.r_tup ?_ | refine Ph.r_min2 ?_ | refine Ph.r_chain ?_ | refine Ph.r_bl ?_ | refine Ph.r_int ?_ | refine Ph.r_T ?_ | refine Ph.r_F ?_ | refine Ph.r_make ?_ | refine Ph.r_makeK ?_ | refine Ph.r_keep ?_ | refine Ph.r_methS ?_ | refine Ph.r_callS ?_ | refine Ph.r_lc ?_ | refine Ph.r_for ?_ | refine Ph.r_iL ?_ | refine Ph.r_iT ?_ | refine Ph.r_iR ?_ | refine Ph.r_gname ?_ | refine Ph.r_yes ?_ | refine Ph.r_asg ?_)
local macro_rules | `(tactic| walk_at "go") => `(tactic| repeat walk_at "s1")
local macro_rules | `(tactic| walk_at "ty4") => `(tactic| first | exact .inl rfl | exact .inr (.inl rfl) | exact .inr (.inr (.inl rfl)) | exact .inr (.inr (.inr rfl)))
local macro_rules | `(tactic| walk_at "lk") => `(tactic| first
  | exact Ph.lk_hit
  | rfl
  | (refine (Ph.lk_miss (by decide +kernel)).trans ?_; walk_at "lk"))
local macro_rules | `(tactic| walk_at "pf") => `(tactic| ((repeat first | rw [Ph.pf_hit] | rw [Ph.pf_miss (by decide +kernel)] | rw [Ph.pf_nil]) <;> rfl))
namespace Ph
open PySem PySem.Spec PyProof.Rows L2
theorem cut_to {xs : List V} {k : Int} (h : 0 ≤ k) : cutV xs none (some k) = xs.take k.toNat := by
  unfold cutV
  have e : k = (k.toNat : Int) := (Int.toNat_of_nonneg h).symm
  rw [e, HT.sIx_nat, Int.toNat_natCast]
  show (xs.drop 0).take (min k.toNat xs.length - 0) = _
  rw [List.drop_zero, Nat.sub_zero, ← List.take_eq_take_min]
theorem cut_from {xs : List V} {k : Int} (h : 0 ≤ k) : cutV xs (some k) none = xs.drop k.toNat := by
  unfold cutV
  have e : k = (k.toNat : Int) := (Int.toNat_of_nonneg h).symm
  rw [e, HT.sIx_nat, Int.toNat_natCast]
  show (xs.drop (min k.toNat xs.length)).take (xs.length - min k.toNat xs.length) = _
  by_cases hk : k.toNat ≤ xs.length
  · rw [Nat.min_eq_left hk]
    exact List.take_of_length_le (by rw [List.length_drop]; omega)
  · rw [Nat.min_eq_right (by omega), List.drop_length, List.drop_of_length_le (by omega), List.take_nil]
theorem cut_mid {xs : List V} {j k : Int} (h : 0 ≤ j) (h2 : 0 ≤ k) : cutV xs (some j) (some (j + k)) = (xs.drop j.toNat).take k.toNat := by
  unfold cutV
  have e : j = (j.toNat : Int) := (Int.toNat_of_nonneg h).symm
  have e2 : j + k = ((j.toNat + k.toNat : Nat) : Int) := by omega
  rw [e2, HT.sIx_nat, e, HT.sIx_nat, Int.toNat_natCast]
  by_cases hj : j.toNat ≤ xs.length
  · rw [Nat.min_eq_left hj, List.take_eq_take_iff, List.length_drop]
    omega
  · rw [List.drop_of_length_le (by omega), List.drop_of_length_le (by omega)]; simp
def IsB (ns : List Int) : Prop := ∀ b ∈ ns, 0 ≤ b ∧ b ≤ 255
def IsRow (H : Hp) (x : V) (m : Int) : Prop := ∃ a ns, x = .ref a ∧ H a = some (.lst (ns.map V.int)) ∧ (ns.length : Int) ≤ m ∧ IsB ns
theorem row_of {H : Hp} {a : Addr} {xs : List V} {m : Int} (h : H a = some (.lst xs)) (hl : (xs.length : Int) ≤ m) (hb : (xs.map fun y => isW y 0 255).all id = true) : IsRow H (.ref a) m := by
  have key : ∀ xs : List V, (xs.map fun y => isW y 0 255).all id = true → ∃ ns : List Int, xs = ns.map V.int ∧ IsB ns := by
    intro xs
    induction xs with
    | nil => exact fun _ => ⟨[], rfl, fun _ h => by cases h⟩
    | cons y r ih =>
      intro hb
      rw [List.map_cons, List.all_cons, Bool.and_eq_true] at hb
      obtain ⟨ns, e, hn⟩ := ih hb.2
      have hy : isW y 0 255 = true := hb.1
      cases y with
      | int i =>
        have hy2 : (decide (0 ≤ i) && decide (i ≤ 255)) = true := hy
        rw [Bool.and_eq_true, decide_eq_true_eq, decide_eq_true_eq] at hy2
        refine ⟨i :: ns, by rw [e]; rfl, fun b hb => ?_⟩
        rcases List.mem_cons.mp hb with rfl | hb
        · exact hy2
        · exact hn b hb
      | _ => cases hy
  obtain ⟨ns, e, hn⟩ := key xs hb
  subst e
  rw [List.length_map] at hl
  exact ⟨a, ns, rfl, h, hl, hn⟩
theorem row_all {H : Hp} {a : Addr} {xs : List V} {m : Int} (h : H a = some (.lst xs)) (hr : IsRow H (.ref a) m) : (xs.length : Int) ≤ m ∧ (xs.map fun y => isW y 0 255).all id = true := by
  obtain ⟨b, ns, e, h2, hl, hn⟩ := hr
  cases e
  rw [h] at h2
  cases h2
  refine ⟨by rw [List.length_map]; exact hl, ?_⟩
  rw [List.map_map, List.all_map, List.all_eq_true]
  intro b hb
  show (decide (0 ≤ b) && decide (b ≤ 255)) = true
  rw [Bool.and_eq_true, decide_eq_true_eq, decide_eq_true_eq]
  exact hn b hb
theorem isW_int {x : V} {lo hi : Int} (h : isW x lo hi = true) : ∃ i, x = .int i ∧ lo ≤ i ∧ i ≤ hi := by
  cases x with
  | int i =>
    have hy : (decide (lo ≤ i) && decide (i ≤ hi)) = true := h
    rw [Bool.and_eq_true, decide_eq_true_eq, decide_eq_true_eq] at hy
    exact ⟨i, rfl, hy⟩
  | _ => cases h
theorem isW_of {i lo hi : Int} (h1 : lo ≤ i) (h2 : i ≤ hi) : isW (.int i) lo hi = true := by
  show (decide (lo ≤ i) && decide (i ≤ hi)) = true
  rw [decide_eq_true h1, decide_eq_true h2]; rfl
def ItemsTg (H : Hp) (x : V) : Prop := ∀ a xs, x = .ref a → H a = some (.lst xs) → ∀ y ∈ xs, ∃ k, Tg H y k
theorem items_ints {H : Hp} {a : Addr} {ns : List Int} (h : H a = some (.lst (ns.map V.int))) : ItemsTg H (.ref a) := by
  intro b xs e hb y hy
  cases e
  rw [h] at hb
  cases hb
  obtain ⟨i, _, rfl⟩ := List.mem_map.mp hy
  exact ⟨"int", .int i⟩
/-! ### the law's draws -/
/-- a town at t, its cells at c -/
def TownAt (H : Hp) (t c : Addr) : Prop := ∃ (n : Int) (cells : List Int), H t = some (.lst [.ref c, .int n]) ∧ H c = some (.lst (cells.map V.int)) ∧ 1 ≤ cells.length ∧ cells.length ≤ 63 ∧ t ≠ c
theorem TownAt.keep {H H2 : Hp} {t c : Addr} {F : Addr → Prop} (h : TownAt H t c) (k : Kp F H H2) (h1 : ¬ F t) (h2 : ¬ F c) : TownAt H2 t c := by
  obtain ⟨n, cells, e1, e2, r⟩ := h
  exact ⟨n, cells, k.keep _ _ e1 h1, k.keep _ _ e2 h2, r⟩
theorem TownAt.no {H H2 : Hp} {t c : Addr} (h : TownAt H t c) (k : Kp No H H2) : TownAt H2 t c := h.keep k (fun z => z) (fun z => z)
theorem TownAt.t {H : Hp} {t c : Addr} (h : TownAt H t c) : ∃ o, H t = some o := let ⟨_, _, e, _⟩ := h; ⟨_, e⟩
theorem TownAt.c {H : Hp} {t c : Addr} (h : TownAt H t c) : ∃ o, H c = some o := let ⟨_, _, _, e, _⟩ := h; ⟨_, e⟩
/-- a new object is none of the town's -/
theorem TownAt.new {H : Hp} {t c p : Addr} (h : TownAt H t c) (hp : H p = none) : ¬ Two t c p := fun z => by
  obtain ⟨_, e1⟩ := h.t
  obtain ⟨_, e2⟩ := h.c
  rcases z with z | z
  · rw [z, e1] at hp; cases hp
  · rw [z, e2] at hp; cases hp
theorem TownAt.ins {H : Hp} {t c p C dx : Addr} {fs : List (Str × V)} (h : TownAt H t c) (e : H p = some (.ins C dx fs)) : ¬ Two t c p := by
  obtain ⟨n, cells, e1, e2, _⟩ := h
  intro z
  rcases z with z | z
  · rw [z, e1] at e; cases e
  · rw [z, e2] at e; cases e
theorem rep_ints (k : Nat) (ns : List Int) : (List.replicate k (ns.map V.int)).flatten = ((List.replicate k ns).flatten).map V.int := by
  rw [List.map_flatten, List.map_replicate]
theorem rep_len (k : Nat) (ns : List Int) : ((List.replicate k ns).flatten).length = k * ns.length := by
  induction k with
  | zero => simp
  | succ k ih => rw [List.replicate_succ, List.flatten_cons, List.length_append, ih, Nat.succ_mul]; omega
theorem rep_isB {k : Nat} {ns : List Int} (h : IsB ns) : IsB (List.replicate k ns).flatten := fun b hb => by
  obtain ⟨l, hl, hb⟩ := List.mem_flatten.mp hb
  rw [List.eq_of_mem_replicate hl] at hb
  exact h b hb
theorem TownAt.at_ {H H2 : Hp} {t c b : Addr} (h : TownAt H t c) (k : Kp (One b) H H2) (n : ¬ Two t c b) : TownAt H2 t c :=
  h.keep k (fun z => n (.inl (show t = b from z).symm)) (fun z => n (.inr (show c = b from z).symm))
theorem ints_inj {ns ms : List Int} (h : some (HO.lst (ns.map V.int)) = some (HO.lst (ms.map V.int))) : ns = ms :=
  List.map_inj_right (fun _ _ e => V.int.inj e) |>.mp (HO.lst.inj (Option.some.inj h))
theorem ne_none {H : Hp} {a b : Addr} {o : HO} (h : H a = some o) (hb : H b = none) : a ≠ b := ne_of_none h hb
theorem none_ne {H : Hp} {a b : Addr} {o : HO} (h : H a = some o) (hb : H b = none) : b ≠ a := (ne_of_none h hb).symm
/-! ### things that are handed in -/
structure Thing (H : Hp) (x : V) : Prop where
  tg : ∃ n, Tg H x n
  it : ItemsTg H x
theorem Thing.no {H H2 : Hp} {x : V} (h : Thing H x) (k : Kp No H H2) : Thing H2 x := by
  obtain ⟨⟨n, t⟩, it⟩ := h
  refine ⟨⟨n, t.no k⟩, fun a xs e h2 y hy => ?_⟩
  subst e
  have : ∃ o, H a = some o := by
    cases t with
    | lst h => exact ⟨_, h⟩
    | tup h => exact ⟨_, h⟩
    | dK h => exact ⟨_, h⟩
  obtain ⟨o, ho⟩ := this
  rw [k.keep _ _ ho fun z => z] at h2
  cases h2
  obtain ⟨m, hm⟩ := it a xs rfl ho y hy
  exact ⟨m, hm.no k⟩
theorem th_int {H : Hp} (i : Int) : Thing H (.int i) := ⟨⟨_, .int i⟩, fun _ _ e => by cases e⟩
theorem th_bl {H : Hp} (b : Bool) : Thing H (.bl b) := ⟨⟨_, .bl b⟩, fun _ _ e => by cases e⟩
theorem th_non {H : Hp} : Thing H .non := ⟨⟨_, .non⟩, fun _ _ e => by cases e⟩
theorem th_str {H : Hp} (x : Str) : Thing H (.str x) := ⟨⟨_, .str x⟩, fun _ _ e => by cases e⟩
theorem th_tup {H : Hp} {a : Addr} {xs : List V} (h : H a = some (.tup xs)) : Thing H (.ref a) := ⟨⟨_, .tup h⟩, fun _ _ e h2 => by cases e; rw [h] at h2; cases h2⟩
theorem th_dK {H : Hp} {a : Addr} {xs : List (Key × V)} (h : H a = some (.dK xs)) : Thing H (.ref a) := ⟨⟨_, .dK h⟩, fun _ _ e h2 => by cases e; rw [h] at h2; cases h2⟩
theorem th_lst {H : Hp} {a : Addr} {xs : List V} (h : H a = some (.lst xs)) (hx : ∀ y ∈ xs, ∃ n, Tg H y n) : Thing H (.ref a) := ⟨⟨_, .lst h⟩, fun _ _ e h2 => by cases e; rw [h] at h2; cases h2; exact hx⟩
theorem th_ints {H : Hp} {a : Addr} {ns : List Int} (h : H a = some (.lst (ns.map V.int))) : Thing H (.ref a) := ⟨⟨_, .lst h⟩, items_ints h⟩
theorem no_row {H : Hp} {x : V} {m : Int} (h : ∀ a xs, x = .ref a → H a ≠ some (.lst xs)) : ¬ IsRow H x m := fun ⟨a, ns, e, h2, _⟩ => h a _ e h2
theorem no_row_len {H : Hp} {a : Addr} {xs : List V} {m : Int} (h : H a = some (.lst xs)) (hl : m < xs.length) : ¬ IsRow H (.ref a) m := fun ⟨_, ns, e, h2, h3, _⟩ => by
  cases e
  rw [h] at h2
  cases h2
  rw [List.length_map] at hl
  omega
theorem no_row_it {H : Hp} {a : Addr} {xs : List V} {m : Int} {y : V} (h : H a = some (.lst xs)) (hy : y ∈ xs) (hb : isW y 0 255 = false) : ¬ IsRow H (.ref a) m := fun hr => by
  have z := (row_all h hr).2
  rw [List.all_map, List.all_eq_true] at z
  have z2 : isW y 0 255 = true := z y hy
  rw [hb] at z2
  cases z2
theorem isW_no {i lo hi : Int} (h : ¬ (lo ≤ i ∧ i ≤ hi)) : isW (.int i) lo hi = false := by
  cases e : isW (.int i) lo hi with
  | false => rfl
  | true =>
    obtain ⟨j, ej, h1, h2⟩ := isW_int e
    cases ej
    exact absurd ⟨h1, h2⟩ h
def fFile (l : Addr) : List (Str × V) := [("some", .ref l)]
structure FileAt (K : PySem.W.Frag) (H : Hp) (p l : Addr) (ns : List Int) : Prop where
  ins : ∃ dx, H p = some (.ins (He.ga K "File") dx (fFile l))
  lst : H l = some (.lst (ns.map V.int))
  len : ns.length ≤ 200
  byt : IsB ns
theorem FileAt.keep {K : PySem.W.Frag} {H H2 : Hp} {p l : Addr} {ns : List Int} {F : Addr → Prop} (h : FileAt K H p l ns) (k : Kp F H H2) (h1 : ¬ F p) (h2 : ¬ F l) : FileAt K H2 p l ns :=
  ⟨let ⟨dx, e⟩ := h.ins; ⟨dx, k.keep _ _ e h1⟩, k.keep _ _ h.lst h2, h.len, h.byt⟩
theorem FileAt.ne {K : PySem.W.Frag} {H : Hp} {p l : Addr} {ns : List Int} (h : FileAt K H p l ns) : p ≠ l :=
  let ⟨_, e⟩ := h.ins
  ne_of e h.lst (by intro z; cases z)
/-- what a file with ns holds when ms is written at i -/
def wrote (ns : List Int) (i : Nat) (ms : List Int) : List Int := ns.take i ++ ms.take (200 - i) ++ ns.drop (i + (ms.take (200 - i)).length)
theorem wrote_len {ns ms : List Int} {i : Nat} (h : i ≤ ns.length) (hn : ns.length ≤ 200) : (wrote ns i ms).length ≤ 200 := by
  unfold wrote
  rw [List.length_append, List.length_append, List.length_take, List.length_take, List.length_drop]
  omega
theorem wrote_isB {ns ms : List Int} {i : Nat} (h1 : IsB ns) (h2 : IsB ms) : IsB (wrote ns i ms) := fun b hb => by
  unfold wrote at hb
  rcases List.mem_append.mp hb with hb | hb
  · rcases List.mem_append.mp hb with hb | hb
    · exact h1 b (List.mem_of_mem_take hb)
    · exact h2 b (List.mem_of_mem_take hb)
  · exact h1 b (List.mem_of_mem_drop hb)
end Ph
namespace Ph
open PySem PySem.Spec PyProof.Rows L2
def sp_is_whole (K : PySem.W.Frag) : Sp := Sp3 fun x l u H Q _ => ∃ n lo hi, Tg H x n ∧ l = .int lo ∧ u = .int hi ∧ Q (.bl (isW x lo hi)) H
def t_is_whole (K : PySem.W.Frag) (E : XK) : TS := (tRet (tAndV (tCB (rIsi K) (tCons (tVar 0) (tCons (tC (.ty "int")) tNil))) (tAndV (tNotV (tCB (rIsi K) (tCons (tVar 0) (tCons (tC (.ty "bool")) tNil)))) (tChain qLe qLe (tVar 1) (tVar 0) (tVar 2)))))
theorem pure_is_whole {K : PySem.W.Frag} (T : TxK K) {a0 a1 a2 : V} {H : Hp} {Q : VK} {E : XK} (h : sp_is_whole K [a0, a1, a2] H Q E) : t_is_whole K E { nx := fun _ H' => Q .non H', rt := Q } [some a0, some a1, some a2] H := by
  obtain ⟨_, _, _, e, n, lo, hi, ht, rfl, rfl, q⟩ := h
  cases e
  unfold t_is_whole
  walk_at "go"
  refine r_isi ht (by walk_at "ty4") ?_
  cases id ht with
  | int i =>
    rw [show isTy "int" "int" = true by decide]
    walk_at "go"
    refine r_isi ht (by walk_at "ty4") ?_
    rw [show isTy "int" "bool" = false by decide]
    walk_at "go"
    show if (!false) = true then _ else _
    refine r_T ?_
    walk_at "go"
    refine r_ite (fun e => ?_) (fun e => ?_)
    · walk_at "go"
      have z : isW (.int i) lo hi = decide (i ≤ hi) := by
        show (decide (lo ≤ i) && decide (i ≤ hi)) = _
        rw [e, Bool.true_and]
      rw [z] at q
      exact q
    · have z : isW (.int i) lo hi = false := by
        show (decide (lo ≤ i) && decide (i ≤ hi)) = _
        rw [e, Bool.false_and]
      rw [z] at q
      exact q
  | bl b =>
    rw [show isTy "bool" "int" = true by decide]
    walk_at "go"
    refine r_isi ht (by walk_at "ty4") ?_
    rw [show isTy "bool" "bool" = true by decide]
    walk_at "go"
    exact q
  | non => exact ⟨_, rfl, q⟩
  | str x => exact ⟨_, rfl, q⟩
  | lst h => exact ⟨_, rfl, q⟩
  | tup h => exact ⟨_, rfl, q⟩
  | dK h => exact ⟨_, rfl, q⟩
theorem sc_is_whole : FnScope ["thing", "low", "high"] ["thing", "low", "high"] (defScope s_is_whole) := ⟨rfl, rfl, rfl, by decide +kernel, rfl, by decide +kernel, by decide +kernel⟩
theorem bd_is_whole {K : PySem.W.Frag} : Bd K d_is_whole ["thing", "low", "high"] [] := fun fd F => ⟨[], .nil, FunD.bindsN F fun _ _ _ _ _ _ us hl => match us, hl with | [_, _, _], _ => rfl⟩
theorem ok_is_whole {P : Program} {w : World} {K : PySem.W.Frag} {mg : Str → Option Value} {base : Heap} (T : Txt K mg) : Ok P w K mg base d_is_whole 1 ["thing", "low", "high"] (sp_is_whole K) := by
  refine Ok.of (k := 0) T.d_is_whole sc_is_whole (fun vs H Q E h => ?_) (fun cdv A outer s H vs Q E hr h => ?_)
  · obtain ⟨a0, a1, a2, rfl, h⟩ := h
    rfl
  · obtain ⟨a0, a1, a2, rfl, h⟩ := h
    exact ⟨t_is_whole K E, (pss_one (ps_ret (pe_and (pe_callB call_isi (by rfl) T.f_isinstance (by decide +kernel) (pa_cons (pv 0) (pa_cons (q_ty T.f_int rfl (by decide +kernel)) pa_nil))) (pe_and (pe_not (pe_callB call_isi (by rfl) T.f_isinstance (by decide +kernel) (pa_cons (pv 0) (pa_cons (q_ty T.f_bool rfl (by decide +kernel)) pa_nil)))) (pe_one (pe_chain op_le op_le (pv 1) (pv 0) (pv 2))))))), pure_is_whole T.toTxK ⟨a0, a1, a2, rfl, h⟩⟩
def sp_look_number (K : PySem.W.Frag) : Sp := Sp3 fun x l u H Q E => ∃ n lo hi, Tg H x n ∧ l = .int lo ∧ u = .int hi ∧ (isW x lo hi = true → Q .non H) ∧ (isW x lo hi = false → E (.ref (He.ga K "BadNumber")) none H)
def t_look_number (K : PySem.W.Frag) (E : XK) : TS := (tIfS (tNot (tB (tCall (sp_is_whole K) [] E (tCons (tVar 0) (tCons (tVar 1) (tCons (tVar 2) tNil)))))) (tRz E (He.ga K "BadNumber")) tNext)
theorem pure_look_number {K : PySem.W.Frag} (T : TxK K) {a0 a1 a2 : V} {H : Hp} {Q : VK} {E : XK} (h : sp_look_number K [a0, a1, a2] H Q E) : t_look_number K E { nx := fun _ H' => Q .non H', rt := Q } [some a0, some a1, some a2] H := by
  obtain ⟨_, _, _, e, n, lo, hi, ht, rfl, rfl, q1, q2⟩ := h
  cases e
  unfold t_look_number
  walk_at "go"
  refine s_3 ⟨n, lo, hi, ht, rfl, rfl, ?_⟩
  walk_at "go"
  refine r_ite (fun e => ?_) (fun e => ?_)
  · exact q2 (by simpa using e)
  · exact q1 (by simpa using e)
theorem sc_look_number : FnScope ["thing", "low", "high"] ["thing", "low", "high"] (defScope s_look_number) := ⟨rfl, rfl, rfl, by decide +kernel, rfl, by decide +kernel, by decide +kernel⟩
theorem bd_look_number {K : PySem.W.Frag} : Bd K d_look_number ["thing", "low", "high"] [] := fun fd F => ⟨[], .nil, FunD.bindsN F fun _ _ _ _ _ _ us hl => match us, hl with | [_, _, _], _ => rfl⟩
theorem ok_look_number {P : Program} {w : World} {K : PySem.W.Frag} {mg : Str → Option Value} {base : Heap} (T : Txt K mg) : Ok P w K mg base d_look_number 2 ["thing", "low", "high"] (sp_look_number K) := by
  refine Ok.of (k := 1) T.d_look_number sc_look_number (fun vs H Q E h => ?_) (fun cdv A outer s H vs Q E hr h => ?_)
  · obtain ⟨a0, a1, a2, rfl, h⟩ := h
    rfl
  · obtain ⟨a0, a1, a2, rfl, h⟩ := h
    exact ⟨t_look_number K E, (pss_one (ps_if (pt_not (pt_val (q_call (ok_is_whole T) bd_is_whole T.g_is_whole hr (by decide) (by rfl) pD (pa_cons (pv 0) (pa_cons (pv 1) (pa_cons (pv 2) pa_nil)))))) (pss_one (q_raise T.x_BadNumber T.g_BadNumber tD rfl)) pss_nil)), pure_look_number T.toTxK ⟨a0, a1, a2, rfl, h⟩⟩
def sp_look_bytes (K : PySem.W.Frag) : Sp := Sp2 fun x l H Q E => ∃ n m, Tg H x n ∧ l = .int m ∧ m ≤ 2000 ∧ (∀ a xs, x = .ref a → H a = some (.lst xs) → ∀ y ∈ xs, ∃ k, Tg H y k) ∧
  (IsRow H x m → ∀ H', Kp No H H' → Q .non H') ∧ (¬ IsRow H x m → ∀ H', Kp No H H' → E (.ref (He.ga K "BadBytes")) none H')
def t_look_bytes (K : PySem.W.Frag) (E : XK) : TS := (tSeq (tAsg (tAndV (tCB (rIsi K) (tCons (tVar 0) (tCons (tC (.ty "list")) tNil))) (tOp qLe (tCB (rLenS K) (tCons (tVar 0) tNil)) (tVar 1))) (gName 2)) (tIfS (tOr (tNot (tB (tVar 2))) (tNot (tB (tCB (rAll K) (tCons (tLc (iList K (tVar 0)) (gName 3) tYes (tCall (sp_is_whole K) [] E0 (tCons (tVar 3) (tCons (tC (.int 0)) (tCons (tC (.int 255)) tNil)))) [3]) tNil))))) (tRz E (He.ga K "BadBytes")) tNext))
theorem pure_look_bytes {K : PySem.W.Frag} (T : TxK K) {a0 a1 : V} {H : Hp} {Q : VK} {E : XK} (h : sp_look_bytes K [a0, a1] H Q E) : t_look_bytes K E { nx := fun _ H' => Q .non H', rt := Q } [some a0, some a1, none, none] H := by
  obtain ⟨_, _, e, n, m, ht, rfl, hm, hk, q1, q2⟩ := h
  cases e
  unfold t_look_bytes
  walk_at "go"
  refine r_isi ht (by walk_at "ty4") ?_
  walk_at "go"
  by_cases hn : n = "list"
  · subst hn
    obtain ⟨a, xs, rfl, h⟩ := ht.isL rfl
    · rw [show isTy "list" "list" = true by decide]
      walk_at "go"
      refine r_len (SqL.of h) ?_
      walk_at "go"
      refine r_dn (fun hl => ?_) (fun hl => ?_)
      · refine r_T ?_
        exact q2 (fun hr => hl (row_all h hr).1) H Kp.refl
      · walk_at "go"
        have hxl : xs.length ≤ 100000 := by omega
        refine lcp_list (SqL.of h) hxl (fun _ => true) (fun y => .bl (isW y 0 255)) (fun x hx H' k R S r _ => ?_) (fun p H' hp k hd => ?_)
        · walk_at "go"
          refine ⟨rfl, ?_⟩
          walk_at "go"
          obtain ⟨kk, hkk⟩ := hk a xs rfl h x hx
          exact s_3 ⟨kk, 0, 255, hkk.no k, rfl, rfl, r rfl H' Kp.refl⟩
        · have hd2 : H' p = some (.lst ((xs.map fun y => isW y 0 255).map V.bl)) := by
            rw [hd, List.filter_eq_self.mpr (fun _ _ => rfl), List.map_map]; rfl
          walk_at "go"
          refine r_all (SqL.of hd2) ?_
          walk_at "go"
          refine r_ite (fun e => ?_) (fun e => ?_)
          · refine q2 (fun hr => ?_) H' k
            rw [(row_all h hr).2] at e
            cases e
          · exact q1 (row_of h hl (by simpa using e)) H' k
  · have hf : isTy n "list" = false := by
      unfold isTy
      rw [beq_eq_false_iff_ne.mpr hn]
      cases (n == "bool") <;> rfl
    rw [hf]
    walk_at "go"
    show if (!false) = true then _ else _
    refine r_T (r_T ?_)
    refine q2 ?_ H Kp.refl
    rintro ⟨a, ns, rfl, h, _⟩
    cases ht with
    | lst h => exact hn rfl
    | tup h2 => rw [h] at h2; cases h2
    | dK h2 => rw [h] at h2; cases h2
theorem sc_look_bytes : FnScope ["thing", "most", "fine", "byte"] ["thing", "most"] (defScope s_look_bytes) := ⟨rfl, rfl, rfl, by decide +kernel, rfl, by decide +kernel, by decide +kernel⟩
theorem bd_look_bytes {K : PySem.W.Frag} : Bd K d_look_bytes ["thing", "most"] [] := fun fd F => ⟨[], .nil, FunD.bindsN F fun _ _ _ _ _ _ us hl => match us, hl with | [_, _], _ => rfl⟩
theorem ok_look_bytes {P : Program} {w : World} {K : PySem.W.Frag} {mg : Str → Option Value} {base : Heap} (T : Txt K mg) : Ok P w K mg base d_look_bytes 2 ["thing", "most"] (sp_look_bytes K) := by
  refine Ok.of (k := 1) T.d_look_bytes sc_look_bytes (fun vs H Q E h => ?_) (fun cdv A outer s H vs Q E hr h => ?_)
  · obtain ⟨a0, a1, rfl, h⟩ := h
    rfl
  · obtain ⟨a0, a1, rfl, h⟩ := h
    exact ⟨t_look_bytes K E, (pss_cons (ps_set (i := 2) sc_look_bytes.nd rfl (Or.inl rfl) (pe_and (pe_callB call_isi (by rfl) T.f_isinstance (by decide +kernel) (pa_cons (pv 0) (pa_cons (q_ty T.f_list rfl (by decide +kernel)) pa_nil))) (pe_one (pe_cmpR op_le (pe_callB c_len (by rfl) T.f_len PySem.boot_len (pa_cons (pv 0) pa_nil)) (pv 1) (nomark _))))) (pss_one (ps_if (PW.pt (pw_or (pt_not (pt_val (pv 2))) (pw_or1 (pt_not (pt_val (pe_callB (cr_all rfl) (by rfl) T.f_all (by decide +kernel) (pa_cons (pe_lc (own := [("byte", 3)]) rfl sc_look_bytes.nd (pi_list (pv 0)) (blkOk_by (N := ["thing", "most", "fine", "byte"]) (sc := defScope s_look_bytes) (by decide +kernel)) (fun _ _ _ _ _ => (pg_name (i := 3) sc_look_bytes.nd rfl (Or.inl rfl))) (fun _ _ _ _ _ => pts_nil) (fun _ _ _ _ _ => (q_call (ok_is_whole T) bd_is_whole T.g_is_whole hr (by decide) (by rfl) passL (pa_cons (pv 3) (pa_cons pe_int (pa_cons pe_int pa_nil)))))) pa_nil))))))) (pss_one (q_raise T.x_BadBytes T.g_BadBytes tD rfl)) pss_nil))), pure_look_bytes T.toTxK ⟨a0, a1, rfl, h⟩⟩
def sp_File_init (K : PySem.W.Frag) : Sp := Sp1 fun s H Q _ => ∃ p dx, s = .ref p ∧ H p = some (.ins (He.ga K "File") dx []) ∧ ∀ l H', H l = none → Kp (One p) H H' → FileAt K H' p l [] → Q .non H'
def t_File_init (K : PySem.W.Frag) (E : XK) : TS := (sFld K (tVar 0) (tLst tNil) "some")
theorem pure_File_init {K : PySem.W.Frag} (T : TxK K) {a0 : V} {H : Hp} {Q : VK} {E : XK} (h : sp_File_init K [a0] H Q E) : t_File_init K E { nx := fun _ H' => Q .non H', rt := Q } [some a0] H := by
  obtain ⟨_, e, p, dx, rfl, hp, q⟩ := h
  cases e
  unfold t_File_init
  walk_at "go"
  refine n_lst (by show 0 ≤ 100000; decide) fun l H1 hl k1 e1 => ?_
  walk_at "go"
  refine f_put (fs' := fFile l) (k1.keep _ _ hp fun z => z) T.c_File T.a_File_some (by show 0 < 1000; decide) rfl fun H2 k2 e2 => ?_
  exact q l H2 hl (k1.no.trans k2) ⟨⟨dx, e2⟩, k2.keep _ _ e1 (fun z => by rw [show l = p from z, hp] at hl; cases hl), Nat.zero_le _, fun _ h => by cases h⟩
theorem sc_File_init : FnScope ["self"] ["self"] (defScope s_File_init) := ⟨rfl, rfl, rfl, by decide +kernel, rfl, by decide +kernel, by decide +kernel⟩
theorem bd_File_init {K : PySem.W.Frag} : Bd K d_File_init ["self"] [] := fun fd F => ⟨[], .nil, FunD.bindsN F fun _ _ _ _ _ _ us hl => match us, hl with | [_], _ => rfl⟩
theorem ok_File_init {P : Program} {w : World} {K : PySem.W.Frag} {mg : Str → Option Value} {base : Heap} (T : Txt K mg) : Ok P w K mg base d_File_init 1 ["self"] (sp_File_init K) := by
  refine Ok.of (k := 0) T.d_File_init sc_File_init (fun vs H Q E h => ?_) (fun cdv A outer s H vs Q E hr h => ?_)
  · obtain ⟨a0, rfl, h⟩ := h
    rfl
  · obtain ⟨a0, rfl, h⟩ := h
    exact ⟨t_File_init K E, (pss_one (ps_fld (pv 0) (pe_lst pa_nil) rfl)), pure_File_init T.toTxK ⟨a0, rfl, h⟩⟩
def sp_File_put_at (K : PySem.W.Frag) : Sp := Sp3 fun s x y H Q E => ∃ p l ns n1 n2, s = .ref p ∧ FileAt K H p l ns ∧ Tg H x n1 ∧ Tg H y n2 ∧ ItemsTg H y ∧
  (∀ i a ms l' H', x = .int i → 0 ≤ i → i ≤ ns.length → y = .ref a → H a = some (.lst (ms.map V.int)) → ms.length ≤ 200 → IsB ms → H l' = none → Kp (One p) H H' → FileAt K H' p l' (wrote ns i.toNat ms) → Q (.int (ms.take (200 - i.toNat)).length) H') ∧
  (isW x 0 ns.length = false → E (.ref (He.ga K "BadNumber")) none H) ∧
  (isW x 0 ns.length = true → ¬ IsRow H y 200 → ∀ H', Kp No H H' → E (.ref (He.ga K "BadBytes")) none H')
def t_File_put_at (K : PySem.W.Frag) (E : XK) : TS := (tSeq (tDrop (tCall (sp_look_number K) [] E (tCons (tVar 1) (tCons (tC (.int 0)) (tCons (tCB (rLenS K) (tCons (tFld K (tVar 0) "some") tNil)) tNil))))) (tSeq (tDrop (tCall (sp_look_bytes K) [] E (tCons (tVar 2) (tCons (tC (.int 200)) tNil)))) (tSeq (tAsg (tSl (rSlL K) (tVar 2) tNoPart (tPart (tOp qSub (tC (.int 200)) (tVar 1)))) (gName 2)) (tSeq (sFld K (tVar 0) (tOp rCat (tOp rCat (tSl (rSlL K) (tFld K (tVar 0) "some") tNoPart (tPart (tVar 1))) (tVar 2)) (tSl (rSlL K) (tFld K (tVar 0) "some") (tPart (tOp qAdd (tVar 1) (tCB (rLenS K) (tCons (tVar 2) tNil)))) tNoPart)) "some") (tRet (tCB (rLenS K) (tCons (tVar 2) tNil)))))))
theorem pure_File_put_at {K : PySem.W.Frag} (T : TxK K) {a0 a1 a2 : V} {H : Hp} {Q : VK} {E : XK} (h : sp_File_put_at K [a0, a1, a2] H Q E) : t_File_put_at K E { nx := fun _ H' => Q .non H', rt := Q } [some a0, some a1, some a2] H := by
  obtain ⟨_, _, _, e, p, l, ns, n1, n2, rfl, P, ht1, ht2, hi, q1, q2, q3⟩ := h
  cases e
  obtain ⟨dx, hp⟩ := P.ins
  unfold t_File_put_at
  walk_at "go"
  refine f_get hp T.c_File T.a_File_some (by walk_at "lk") ?_
  walk_at "go"
  refine r_len (SqL.of P.lst) ?_
  walk_at "go"
  rw [List.length_map]
  refine s_3 ⟨n1, 0, ns.length, ht1, rfl, rfl, fun hw => ?_, q2⟩
  obtain ⟨i, rfl, h0, h1⟩ := isW_int hw
  walk_at "go"
  refine s_2 ⟨n2, 200, ht2, rfl, by decide, hi, fun hr H1 k1 => ?_, q3 hw⟩
  obtain ⟨a, ms, rfl, ha, hl, hb⟩ := hr
  have hlen := P.len
  walk_at "go"
  refine r_slL (SqL.of (k1.keep _ _ ha fun z => z)) fun b1 H2 hb1 k2 e2 => ?_
  have e200 : (200 - i).toNat = 200 - i.toNat := by omega
  rw [cut_to (by omega), ← List.map_take, e200] at e2
  generalize hms : ms.take (200 - i.toNat) = row at e2
  have hrow : row.length ≤ 200 - i.toNat := by rw [← hms, List.length_take]; omega
  have P2 := (P.keep k1 (fun z => z) (fun z => z)).keep k2 (fun z => z) (fun z => z)
  have hp2 := k2.keep _ _ (k1.keep _ _ hp fun z => z) fun z => z
  walk_at "go"
  refine f_get hp2 T.c_File T.a_File_some (by walk_at "lk") ?_
  walk_at "go"
  refine r_slL (SqL.of P2.lst) fun b2 H3 hb2 k3 e3 => ?_
  rw [cut_to h0, ← List.map_take] at e3
  walk_at "go"
  refine r_cat e3 (k3.keep _ _ e2 fun z => z) (lt_line (by rw [List.length_map, List.length_map, List.length_take]; omega)) fun b3 H4 hb3 k4 e4 => ?_
  have P4 := (P2.keep k3 (fun z => z) (fun z => z)).keep k4 (fun z => z) (fun z => z)
  have hp4 := k4.keep _ _ (k3.keep _ _ hp2 fun z => z) fun z => z
  have e24 : H4 b1 = _ := k4.keep _ _ (k3.keep _ _ e2 fun z => z) fun z => z
  walk_at "go"
  refine f_get hp4 T.c_File T.a_File_some (by walk_at "lk") ?_
  walk_at "go"
  refine r_len (SqL.of e24) ?_
  rw [List.length_map]
  walk_at "go"
  refine r_slL (SqL.of P4.lst) fun b4 H5 hb4 k5 e5 => ?_
  rw [cut_from (by omega), ← List.map_drop, show (i + (row.length : Int)).toNat = i.toNat + row.length by omega] at e5
  walk_at "go"
  rw [← List.map_append] at e4
  refine r_cat (k5.keep _ _ e4 fun z => z) e5 (lt_line (by rw [List.length_map, List.length_map, List.length_append, List.length_take, List.length_drop]; omega)) fun l' H6 hl' k6 e6 => ?_
  rw [← List.map_append] at e6
  have hp6 := k6.keep _ _ (k5.keep _ _ hp4 fun z => z) fun z => z
  walk_at "go"
  refine f_put (fs' := fFile l') hp6 T.c_File T.a_File_some (by show 1 < 1000; decide) (by walk_at "pf") fun H7 k7 e7 => ?_
  walk_at "go"
  have e26 : H6 b1 = _ := k6.keep _ _ (k5.keep _ _ e24 fun z => z) fun z => z
  have nbp : b1 ≠ p := ne_of e26 hp6 (by intro z; cases z)
  refine r_len (SqL.of (k7.keep _ _ e26 nbp)) ?_
  rw [List.length_map, ← hms]
  have kk : Kp No H H6 := ((((k1.trans k2).trans k3).trans k4).trans k5).trans k6
  have hw2 : wrote ns i.toNat ms = ns.take i.toNat ++ row ++ ns.drop (i.toNat + row.length) := by unfold wrote; rw [hms]
  refine q1 i a ms l' H7 rfl h0 h1 rfl ha (by omega) hb ((((((k1.free _ (k2.free _ (k3.free _ (k4.free _ (k5.free _ hl'))))))))) ) (kk.no.trans k7) ⟨⟨dx, e7⟩, ?_, wrote_len (by omega) hlen, wrote_isB P.byt hb⟩
  rw [hw2]
  exact k7.keep _ _ e6 (fun z => by rw [show l' = p from z, k5.keep _ _ hp4 (fun z => z)] at hl'; cases hl')
theorem sc_File_put_at : FnScope ["self", "place", "row"] ["self", "place", "row"] (defScope s_File_put_at) := ⟨rfl, rfl, rfl, by decide +kernel, rfl, by decide +kernel, by decide +kernel⟩
theorem bd_File_put_at {K : PySem.W.Frag} : Bd K d_File_put_at ["self", "place", "row"] [] := fun fd F => ⟨[], .nil, FunD.bindsN F fun _ _ _ _ _ _ us hl => match us, hl with | [_, _, _], _ => rfl⟩
theorem ok_File_put_at {P : Program} {w : World} {K : PySem.W.Frag} {mg : Str → Option Value} {base : Heap} (T : Txt K mg) : Ok P w K mg base d_File_put_at 3 ["self", "place", "row"] (sp_File_put_at K) := by
  refine Ok.of (k := 2) T.d_File_put_at sc_File_put_at (fun vs H Q E h => ?_) (fun cdv A outer s H vs Q E hr h => ?_)
  · obtain ⟨a0, a1, a2, rfl, h⟩ := h
    rfl
  · obtain ⟨a0, a1, a2, rfl, h⟩ := h
    exact ⟨t_File_put_at K E, (pss_cons (ps_expr (q_call (ok_look_number T) bd_look_number T.g_look_number hr (by decide) (by rfl) pD (pa_cons (pv 1) (pa_cons pe_int (pa_cons (pe_callB c_len (by rfl) T.f_len PySem.boot_len (pa_cons (pe_fld (pv 0) rfl) pa_nil)) pa_nil))))) (pss_cons (ps_expr (q_call (ok_look_bytes T) bd_look_bytes T.g_look_bytes hr (by decide) (by rfl) pD (pa_cons (pv 2) (pa_cons (q_con T.k_MOST_BYTES rfl) pa_nil)))) (pss_cons (ps_set (i := 2) sc_File_put_at.nd rfl (Or.inl rfl) (pe_slice sl_list (pv 2) po_none (po_some (pe_op op_sub (q_con T.k_MOST_BYTES rfl) (pv 1))))) (pss_cons (ps_fld (pv 0) (pe_op op_cat (pe_op op_cat (pe_slice sl_list (pe_fld (pv 0) rfl) po_none (po_some (pv 1))) (pv 2)) (pe_slice sl_list (pe_fld (pv 0) rfl) (po_some (pe_op op_add (pv 1) (pe_callB c_len (by rfl) T.f_len PySem.boot_len (pa_cons (pv 2) pa_nil)))) po_none)) rfl) (pss_one (ps_ret (pe_callB c_len (by rfl) T.f_len PySem.boot_len (pa_cons (pv 2) pa_nil)))))))), pure_File_put_at T.toTxK ⟨a0, a1, a2, rfl, h⟩⟩
def sp_File_take_at (K : PySem.W.Frag) : Sp := Sp3 fun s x y H Q E => ∃ p l ns n1 n2, s = .ref p ∧ FileAt K H p l ns ∧ Tg H x n1 ∧ Tg H y n2 ∧
  (∀ i j q H', x = .int i → 0 ≤ i → i ≤ ns.length → y = .int j → 1 ≤ j → j ≤ 200 → H q = none → Kp No H H' → H' q = some (.lst (((ns.drop i.toNat).take j.toNat).map V.int)) → Q (.ref q) H') ∧
  (isW x 0 ns.length = false ∨ isW y 1 200 = false → E (.ref (He.ga K "BadNumber")) none H)
def t_File_take_at (K : PySem.W.Frag) (E : XK) : TS := (tSeq (tDrop (tCall (sp_look_number K) [] E (tCons (tVar 1) (tCons (tC (.int 0)) (tCons (tCB (rLenS K) (tCons (tFld K (tVar 0) "some") tNil)) tNil))))) (tSeq (tDrop (tCall (sp_look_number K) [] E (tCons (tVar 2) (tCons (tC (.int 1)) (tCons (tC (.int 200)) tNil))))) (tRet (tSl (rSlL K) (tFld K (tVar 0) "some") (tPart (tVar 1)) (tPart (tOp qAdd (tVar 1) (tVar 2)))))))
theorem pure_File_take_at {K : PySem.W.Frag} (T : TxK K) {a0 a1 a2 : V} {H : Hp} {Q : VK} {E : XK} (h : sp_File_take_at K [a0, a1, a2] H Q E) : t_File_take_at K E { nx := fun _ H' => Q .non H', rt := Q } [some a0, some a1, some a2] H := by
  obtain ⟨_, _, _, e, p, l, ns, n1, n2, rfl, P, ht1, ht2, q1, q2⟩ := h
  cases e
  obtain ⟨dx, hp⟩ := P.ins
  unfold t_File_take_at
  walk_at "go"
  refine f_get hp T.c_File T.a_File_some (by walk_at "lk") ?_
  walk_at "go"
  refine r_len (SqL.of P.lst) ?_
  walk_at "go"
  rw [List.length_map]
  refine s_3 ⟨n1, 0, ns.length, ht1, rfl, rfl, fun hw => ?_, fun h => q2 (.inl h)⟩
  obtain ⟨i, rfl, h0, h1⟩ := isW_int hw
  walk_at "go"
  refine s_3 ⟨n2, 1, 200, ht2, rfl, rfl, fun hw2 => ?_, fun h => q2 (.inr h)⟩
  obtain ⟨j, rfl, h2, h3⟩ := isW_int hw2
  walk_at "go"
  refine f_get hp T.c_File T.a_File_some (by walk_at "lk") ?_
  walk_at "go"
  refine r_slL (SqL.of P.lst) fun b1 H1 hb1 k1 e1 => ?_
  rw [cut_mid h0 (by omega), ← List.map_drop, ← List.map_take] at e1
  exact q1 i j b1 H1 rfl h0 h1 rfl h2 h3 hb1 k1 e1
theorem sc_File_take_at : FnScope ["self", "place", "most"] ["self", "place", "most"] (defScope s_File_take_at) := ⟨rfl, rfl, rfl, by decide +kernel, rfl, by decide +kernel, by decide +kernel⟩
theorem bd_File_take_at {K : PySem.W.Frag} : Bd K d_File_take_at ["self", "place", "most"] [] := fun fd F => ⟨[], .nil, FunD.bindsN F fun _ _ _ _ _ _ us hl => match us, hl with | [_, _, _], _ => rfl⟩
theorem ok_File_take_at {P : Program} {w : World} {K : PySem.W.Frag} {mg : Str → Option Value} {base : Heap} (T : Txt K mg) : Ok P w K mg base d_File_take_at 3 ["self", "place", "most"] (sp_File_take_at K) := by
  refine Ok.of (k := 2) T.d_File_take_at sc_File_take_at (fun vs H Q E h => ?_) (fun cdv A outer s H vs Q E hr h => ?_)
  · obtain ⟨a0, a1, a2, rfl, h⟩ := h
    rfl
  · obtain ⟨a0, a1, a2, rfl, h⟩ := h
    exact ⟨t_File_take_at K E, (pss_cons (ps_expr (q_call (ok_look_number T) bd_look_number T.g_look_number hr (by decide) (by rfl) pD (pa_cons (pv 1) (pa_cons pe_int (pa_cons (pe_callB c_len (by rfl) T.f_len PySem.boot_len (pa_cons (pe_fld (pv 0) rfl) pa_nil)) pa_nil))))) (pss_cons (ps_expr (q_call (ok_look_number T) bd_look_number T.g_look_number hr (by decide) (by rfl) pD (pa_cons (pv 2) (pa_cons pe_int (pa_cons (q_con T.k_MOST_BYTES rfl) pa_nil))))) (pss_one (ps_ret (pe_slice sl_list (pe_fld (pv 0) rfl) (po_some (pv 1)) (po_some (pe_op op_add (pv 1) (pv 2)))))))), pure_File_take_at T.toTxK ⟨a0, a1, a2, rfl, h⟩⟩
def sp_File_held (K : PySem.W.Frag) : Sp := Sp1 fun s H Q _ => ∃ p l ns, s = .ref p ∧ FileAt K H p l ns ∧ ∀ q H', H q = none → Kp No H H' → H' q = some (.lst (ns.map V.int)) → Q (.ref q) H'
def t_File_held (K : PySem.W.Frag) (E : XK) : TS := (tRet (tCB (rListS K) (tCons (tFld K (tVar 0) "some") tNil)))
theorem pure_File_held {K : PySem.W.Frag} (T : TxK K) {a0 : V} {H : Hp} {Q : VK} {E : XK} (h : sp_File_held K [a0] H Q E) : t_File_held K E { nx := fun _ H' => Q .non H', rt := Q } [some a0] H := by
  obtain ⟨_, e, p, l, ns, rfl, P, q⟩ := h
  cases e
  obtain ⟨dx, hp⟩ := P.ins
  unfold t_File_held
  walk_at "go"
  refine f_get hp T.c_File T.a_File_some (by walk_at "lk") ?_
  walk_at "go"
  exact r_list (SqL.of P.lst) fun l H2 hl k e => q l H2 hl k e
theorem sc_File_held : FnScope ["self"] ["self"] (defScope s_File_held) := ⟨rfl, rfl, rfl, by decide +kernel, rfl, by decide +kernel, by decide +kernel⟩
theorem bd_File_held {K : PySem.W.Frag} : Bd K d_File_held ["self"] [] := fun fd F => ⟨[], .nil, FunD.bindsN F fun _ _ _ _ _ _ us hl => match us, hl with | [_], _ => rfl⟩
theorem ok_File_held {P : Program} {w : World} {K : PySem.W.Frag} {mg : Str → Option Value} {base : Heap} (T : Txt K mg) : Ok P w K mg base d_File_held 1 ["self"] (sp_File_held K) := by
  refine Ok.of (k := 0) T.d_File_held sc_File_held (fun vs H Q E h => ?_) (fun cdv A outer s H vs Q E hr h => ?_)
  · obtain ⟨a0, rfl, h⟩ := h
    rfl
  · obtain ⟨a0, rfl, h⟩ := h
    exact ⟨t_File_held K E, (pss_one (ps_ret (pe_callTy c_list (by rfl) T.f_list (by decide +kernel) (pa_cons (pe_fld (pv 0) rfl) pa_nil)))), pure_File_held T.toTxK ⟨a0, rfl, h⟩⟩
def sp_law_town (K : PySem.W.Frag) : Sp := Sp1 fun s H Q _ => ∃ (a : Addr) (ns : List Int), s = .ref a ∧ SqL K H a (ns.map V.int) ∧ ns.length ≤ 63 ∧ ∀ t c H', H t = none → H c = none → Kp No H H' → TownAt H' t c → Q (.ref t) H'
def t_law_town (K : PySem.W.Frag) (E : XK) : TS := (tRet (tLst (tCons (tIf (tTest (tOp (rNeD K) (tVar 0) (tLst tNil))) (tCB (rListS K) (tCons (tVar 0) tNil)) (tLst (tCons (tC (.int 0)) tNil))) (tCons (tC (.int 0)) tNil))))
theorem pure_law_town {K : PySem.W.Frag} (T : TxK K) {a0 : V} {H : Hp} {Q : VK} {E : XK} (h : sp_law_town K [a0] H Q E) : t_law_town K E { nx := fun _ H' => Q .non H', rt := Q } [some a0] H := by
  obtain ⟨_, e, a, ns, rfl, hs, hl, q⟩ := h
  cases e
  unfold t_law_town
  walk_at "go"
  refine n_lst (by show 0 ≤ 100000; decide) fun p H1 hp k1 e1 => ?_
  have hs1 := k1.sq (fun z => z) hs
  have fin : ∀ (c : Addr) (cells : List Int) (H2 : Hp), H1 c = none → Kp No H1 H2 → H2 c = some (.lst (cells.map V.int)) → 1 ≤ cells.length → cells.length ≤ 63 → lstQ Q [.ref c, .int 0] H2 := fun c cells H2 hc k2 e2 g1 g2 =>
    n_lst (by show 2 ≤ 100000; decide) fun t H3 ht k3 e3 => q t c H3 (k1.free _ (k2.free _ ht)) (k1.free _ hc) ((k1.trans k2).trans k3) ⟨0, cells, e3, k3.keep _ _ e2 (fun z => z), g1, g2, (ne_of_none e2 ht).symm⟩
  walk_at "go"
  refine r_neL (ms := []) hs1 (SqL.of e1) ?_
  walk_at "go"
  refine r_dn (fun hn => ?_) (fun hn => ?_)
  · walk_at "go"
    refine r_list hs1 fun c H2 hc k2 e2 => ?_
    walk_at "go"
    refine fin c ns H2 hc k2 e2 ?_ hl
    cases ns with
    | nil => exact absurd rfl hn
    | cons _ _ => exact Nat.succ_le_succ (Nat.zero_le _)
  · walk_at "go"
    refine n_lst (by show 1 ≤ 100000; decide) fun c H2 hc k2 e2 => ?_
    walk_at "go"
    exact fin c [0] H2 hc k2 e2 (by decide) (by decide)
theorem sc_law_town : FnScope ["script"] ["script"] (defScope s_law_town) := ⟨rfl, rfl, rfl, by decide +kernel, rfl, by decide +kernel, by decide +kernel⟩
theorem bd_law_town {K : PySem.W.Frag} : Bd K d_law_town ["script"] [] := fun fd F => ⟨[], .nil, FunD.bindsN F fun _ _ _ _ _ _ us hl => match us, hl with | [_], _ => rfl⟩
theorem ok_law_town {P : Program} {w : World} {K : PySem.W.Frag} {mg : Str → Option Value} {base : Heap} (T : Txt K mg) : Ok P w K mg base d_law_town 1 ["script"] (sp_law_town K) := by
  refine Ok.of (k := 0) T.d_law_town sc_law_town (fun vs H Q E h => ?_) (fun cdv A outer s H vs Q E hr h => ?_)
  · obtain ⟨a0, rfl, h⟩ := h
    rfl
  · obtain ⟨a0, rfl, h⟩ := h
    exact ⟨t_law_town K E, (pss_one (ps_ret (pe_lst (pa_cons (pe_ifExp (pt_cmpR (op_neD hr.units) (pv 0) (pe_lst pa_nil) (nomark _)) (pe_callTy c_list (by rfl) T.f_list (by decide +kernel) (pa_cons (pv 0) pa_nil)) (pe_lst (pa_cons pe_int pa_nil))) (pa_cons pe_int pa_nil))))), pure_law_town T.toTxK ⟨a0, rfl, h⟩⟩
def sp_law_draw (K : PySem.W.Frag) : Sp := Sp2 fun s m H Q _ => ∃ t c k, s = .ref t ∧ m = .int k ∧ TownAt H t c ∧ 0 < k ∧ k < 1000000 ∧ ∀ r H', 0 ≤ r → r < k → Kp (Two t c) H H' → TownAt H' t c → Q (.int r) H'
def t_law_draw (K : PySem.W.Frag) (E : XK) : TS := (tSeq (tAsg (tOp (rIxL K) (tVar 0) (tC (.int 0))) (gName 2)) (tSeq (tAsg (tOp qAdd (tOp (rIxL K) (tVar 0) (tC (.int 1))) (tC (.int 1))) (gSub (tVar 0) (tC (.int 1)) rSetL)) (tSeq (tAsg (tOp qMod (tOp (rIxL K) (tVar 0) (tC (.int 1))) (tCB (rLenS K) (tCons (tVar 2) tNil))) (gName 3)) (tSeq (tAsg (tOp (rIxL K) (tVar 2) (tVar 3)) (gName 4)) (tSeq (tIfS (tTest (tOp qGe (tVar 4) (tC (.int 1000000000000000000)))) (tSeq (tAsg (tOp qDiv (tVar 4) (tVar 1)) (gSub (tVar 2) (tVar 3) rSetL)) (tRet (tOp qMod (tVar 4) (tVar 1)))) tNext) (tSeq (tAsg (tOp qMod (tOp qAdd (tVar 4) (tOp qMul (tC (.int 104729)) (tOp (rIxL K) (tVar 0) (tC (.int 1))))) (tC (.int 4294967291))) (gName 5)) (tSeq (tAsg (tOp qMod (tOp qPow (tVar 5) (tC (.int 5))) (tC (.int 4294967279))) (gName 5)) (tRet (tOp qMod (tOp qDiv (tOp qMod (tOp qAdd (tOp qMul (tOp qDiv (tVar 5) (tC (.int 64))) (tC (.int 69621))) (tVar 5)) (tC (.int 4294967231))) (tC (.int 8))) (tVar 1))))))))))
theorem pure_law_draw {K : PySem.W.Frag} (T : TxK K) {a0 a1 : V} {H : Hp} {Q : VK} {E : XK} (h : sp_law_draw K [a0, a1] H Q E) : t_law_draw K E { nx := fun _ H' => Q .non H', rt := Q } [some a0, some a1, none, none, none, none] H := by
  obtain ⟨_, _, e, t, c, k, rfl, rfl, ht, hk, hk2, q⟩ := h
  cases e
  obtain ⟨n, cells, e1, e2, hl, hl2, htc⟩ := ht
  have k0 : ∀ m : Int, 0 < m → m < 1073741824 → CDiv m m := fun m h1 h2 => ⟨h1, h2⟩
  unfold t_law_draw
  walk_at "go"
  refine r_ixL (SqL.of e1) (v := .ref c) rfl ?_
  walk_at "go"
  refine r_ixL (SqL.of e1) (v := .int n) rfl ?_
  walk_at "go"
  show gSub _ _ _ _ _ _ _
  refine r_setL (p := t) (xs := []) (j := 0) (k := 0) ?_
  walk_at "go"
  refine r_setIx e1 (j := 1) rfl fun H1 k1 e3 => ?_
  have e3 : H1 t = some (.lst [.ref c, .int (n + 1)]) := e3
  have e4 : H1 c = _ := k1.keep _ _ e2 (fun z => htc z.symm)
  walk_at "go"
  refine r_ixL (SqL.of e3) (v := .int (n + 1)) rfl ?_
  walk_at "go"
  refine r_len (SqL.of e4) ?_
  rw [List.length_map]
  have hl3 : (0 : Int) < (cells.length : Int) := by omega
  refine r_I hl3 ?_
  walk_at "go"
  have hm0 : 0 ≤ (n + 1) % (cells.length : Int) := Int.emod_nonneg _ (by omega)
  have hm1 : (n + 1) % (cells.length : Int) < cells.length := Int.emod_lt_of_pos _ hl3
  obtain ⟨cell, hcell⟩ : ∃ cell, cells[((n + 1) % (cells.length : Int)).toNat]? = some cell := ⟨_, List.getElem?_eq_getElem (by omega)⟩
  refine r_ixL (SqL.of e4) (v := .int cell) (atI_of hm0 (by rw [List.getElem?_map, hcell]; rfl)) ?_
  walk_at "go"
  have town : ∀ H', Kp (One t) H H' → ∀ (cs : List Int), H' t = some (.lst [.ref c, .int (n + 1)]) → H' c = some (.lst (cs.map V.int)) → cs.length = cells.length → TownAt H' t c := fun H' _ cs h1 h2 h3 => ⟨n + 1, cs, h1, h2, by omega, by omega, htc⟩
  refine r_d (fun _ => ?_) (fun _ => ?_)
  · walk_at "go"
    refine r_I (C := CDiv) ⟨hk, by omega⟩ ?_
    refine r_setL (p := t) (xs := []) (j := 0) (k := 0) ?_
    walk_at "go"
    refine r_setIx e4 (ixN_of hm0 (by rw [List.length_map]; exact hm1)) fun H2 k2 e5 => ?_
    walk_at "go"
    refine r_I hk ?_
    have e6 : H2 t = _ := k2.keep _ _ e3 (fun z => htc z)
    refine q _ H2 (Int.emod_nonneg _ (by omega)) (Int.emod_lt_of_pos _ hk) ⟨fun b o h z => ?_, fun b h => k1.free _ (k2.free _ h)⟩ ⟨n + 1, cells.set ((n + 1) % (cells.length : Int)).toNat (cell / k), e6, by rw [e5, List.map_set], by rw [List.length_set]; omega, by rw [List.length_set]; omega, htc⟩
    exact k2.keep _ _ (k1.keep _ _ h fun y => z (.inl y)) fun y => z (.inr y)
  · walk_at "go"
    refine r_ixL (SqL.of e3) (v := .int (n + 1)) rfl ?_
    walk_at "go"
    refine r_I (C := CMul) (.inl ⟨by decide, by decide⟩) ?_
    walk_at "go"
    refine r_I (by decide) ?_
    walk_at "go"
    refine r_I (C := CPow) ⟨by decide, by decide, ?_⟩ ?_
    · have h1 : 0 ≤ (cell + 104729 * (n + 1)) % 4294967291 := Int.emod_nonneg _ (by decide)
      have h2 : (cell + 104729 * (n + 1)) % 4294967291 < 4294967291 := Int.emod_lt_of_pos _ (by decide)
      omega
    walk_at "go"
    refine r_I (by decide) ?_
    walk_at "go"
    generalize ((cell + 104729 * (n + 1)) % 4294967291) ^ (5 : Int).toNat % 4294967279 = z
    refine r_I (C := CDiv) ⟨by decide, by decide⟩ ?_
    walk_at "go"
    refine r_I (C := CMul) (.inr ⟨by decide, by decide⟩) ?_
    walk_at "go"
    refine r_I (by decide) ?_
    walk_at "go"
    refine r_I (C := CDiv) ⟨by decide, by decide⟩ ?_
    walk_at "go"
    refine r_I hk ?_
    refine q _ H1 (Int.emod_nonneg _ (by omega)) (Int.emod_lt_of_pos _ hk) (k1.mono fun b z => .inl z) (town H1 k1 cells e3 e4 rfl)
theorem sc_law_draw : FnScope ["town", "many", "cells", "at", "cell", "mixed"] ["town", "many"] (defScope s_law_draw) := ⟨rfl, rfl, rfl, by decide +kernel, rfl, by decide +kernel, by decide +kernel⟩
theorem bd_law_draw {K : PySem.W.Frag} : Bd K d_law_draw ["town", "many"] [] := fun fd F => ⟨[], .nil, FunD.bindsN F fun _ _ _ _ _ _ us hl => match us, hl with | [_, _], _ => rfl⟩
theorem ok_law_draw {P : Program} {w : World} {K : PySem.W.Frag} {mg : Str → Option Value} {base : Heap} (T : Txt K mg) : Ok P w K mg base d_law_draw 1 ["town", "many"] (sp_law_draw K) := by
  refine Ok.of (k := 0) T.d_law_draw sc_law_draw (fun vs H Q E h => ?_) (fun cdv A outer s H vs Q E hr h => ?_)
  · obtain ⟨a0, a1, rfl, h⟩ := h
    rfl
  · obtain ⟨a0, a1, rfl, h⟩ := h
    exact ⟨t_law_draw K E, (pss_cons (ps_set (i := 2) sc_law_draw.nd rfl (Or.inl rfl) (pe_ix ix_list (pv 0) pe_int (fun _ _ => rfl))) (pss_cons (ps_asg (pe_op op_add (pe_ix ix_list (pv 0) pe_int (fun _ _ => rfl)) pe_int) (pg_sub (pv 0) pe_int set_list)) (pss_cons (ps_set (i := 3) sc_law_draw.nd rfl (Or.inl rfl) (pe_op op_mod (pe_ix ix_list (pv 0) pe_int (fun _ _ => rfl)) (pe_callB c_len (by rfl) T.f_len PySem.boot_len (pa_cons (pv 2) pa_nil)))) (pss_cons (ps_set (i := 4) sc_law_draw.nd rfl (Or.inl rfl) (pe_ix ix_list (pv 2) (pv 3) (fun _ _ => rfl))) (pss_cons (ps_if (pt_cmpR op_ge (pv 4) pe_int (nomark _)) (pss_cons (ps_asg (pe_op op_fdiv (pv 4) (pv 1)) (pg_sub (pv 2) (pv 3) set_list)) (pss_one (ps_ret (pe_op op_mod (pv 4) (pv 1))))) pss_nil) (pss_cons (ps_set (i := 5) sc_law_draw.nd rfl (Or.inl rfl) (pe_op op_mod (pe_op op_add (pv 4) (pe_op op_mul pe_int (pe_ix ix_list (pv 0) pe_int (fun _ _ => rfl)))) pe_int)) (pss_cons (ps_set (i := 5) sc_law_draw.nd rfl (Or.inl rfl) (pe_op op_mod (pe_op op_pow (pv 5) pe_int) pe_int)) (pss_one (ps_ret (pe_op op_mod (pe_op op_fdiv (pe_op op_mod (pe_op op_add (pe_op op_mul (pe_op op_fdiv (pv 5) pe_int) pe_int) (pv 5)) pe_int) pe_int) (pv 1))))))))))), pure_law_draw T.toTxK ⟨a0, a1, rfl, h⟩⟩
def sp_law_pick (K : PySem.W.Frag) : Sp := Sp2 fun s m H Q _ => ∃ t c a xs, s = .ref t ∧ m = .ref a ∧ TownAt H t c ∧ SqL K H a xs ∧ ¬ Two t c a ∧ 1 ≤ xs.length ∧ xs.length < 1000000 ∧ ∀ v H', v ∈ xs → Kp (Two t c) H H' → TownAt H' t c → Q v H'
def t_law_pick (K : PySem.W.Frag) (E : XK) : TS := (tRet (tOp (rIxL K) (tVar 1) (tCall (sp_law_draw K) [] E (tCons (tVar 0) (tCons (tCB (rLenS K) (tCons (tVar 1) tNil)) tNil)))))
theorem pure_law_pick {K : PySem.W.Frag} (T : TxK K) {a0 a1 : V} {H : Hp} {Q : VK} {E : XK} (h : sp_law_pick K [a0, a1] H Q E) : t_law_pick K E { nx := fun _ H' => Q .non H', rt := Q } [some a0, some a1] H := by
  obtain ⟨_, _, e, t, c, a, xs, rfl, rfl, ht, hs, hn, hl, hl2, q⟩ := h
  cases e
  unfold t_law_pick
  walk_at "go"
  refine r_len hs ?_
  walk_at "go"
  refine s_2 ⟨t, c, xs.length, rfl, rfl, ht, by omega, by omega, fun r H' h0 h1 k ht' => ?_⟩
  obtain ⟨v, hv⟩ : ∃ v, xs[r.toNat]? = some v := ⟨_, List.getElem?_eq_getElem (by omega)⟩
  exact r_ixL (k.sq hn hs) (atI_of h0 hv) (q v H' (List.mem_of_getElem? hv) k ht')
theorem sc_law_pick : FnScope ["town", "some"] ["town", "some"] (defScope s_law_pick) := ⟨rfl, rfl, rfl, by decide +kernel, rfl, by decide +kernel, by decide +kernel⟩
theorem bd_law_pick {K : PySem.W.Frag} : Bd K d_law_pick ["town", "some"] [] := fun fd F => ⟨[], .nil, FunD.bindsN F fun _ _ _ _ _ _ us hl => match us, hl with | [_, _], _ => rfl⟩
theorem ok_law_pick {P : Program} {w : World} {K : PySem.W.Frag} {mg : Str → Option Value} {base : Heap} (T : Txt K mg) : Ok P w K mg base d_law_pick 2 ["town", "some"] (sp_law_pick K) := by
  refine Ok.of (k := 1) T.d_law_pick sc_law_pick (fun vs H Q E h => ?_) (fun cdv A outer s H vs Q E hr h => ?_)
  · obtain ⟨a0, a1, rfl, h⟩ := h
    rfl
  · obtain ⟨a0, a1, rfl, h⟩ := h
    exact ⟨t_law_pick K E, (pss_one (ps_ret (pe_ix ix_list (pv 1) (q_call (ok_law_draw T) bd_law_draw T.g_law_draw hr (by decide) (by rfl) pD (pa_cons (pv 0) (pa_cons (pe_callB c_len (by rfl) T.f_len PySem.boot_len (pa_cons (pv 1) pa_nil)) pa_nil))) (fun _ _ => rfl)))), pure_law_pick T.toTxK ⟨a0, a1, rfl, h⟩⟩
def sp_law_refusal (K : PySem.W.Frag) : Sp := Sp1 fun s H Q _ => ∃ (a : Addr) (nm w : Str) (i : Nat), s = .ref a ∧ H a = some (ExO (.ref (He.ga K nm)) none a) ∧ refTab[i]? = some (nm, w) ∧ ExcC K (He.ga K nm) ∧ Kits K (He.ga K nm) (refKits i) ∧ ∀ H', Kp No H H' → Q (.str w) H'
theorem ref_count : ∀ i : Nat, i < 10 → (([V.bl (i == 0), V.bl (i == 1), V.bl (i == 2), V.bl (i == 3), V.bl (i == 4), V.bl (i == 5), V.bl (i == 6), V.bl (i == 7), V.bl (i == 8), V.bl (i == 9)] : List V).countP fun z => eqV z (.bl true)) = 1 := by decide
theorem ref_at : ∀ i : Nat, i < 10 → ([V.bl (i == 0), V.bl (i == 1), V.bl (i == 2), V.bl (i == 3), V.bl (i == 4), V.bl (i == 5), V.bl (i == 6), V.bl (i == 7), V.bl (i == 8), V.bl (i == 9)] : List V)[i]? = some (.bl true) := by decide
theorem ref_ahead : ∀ i : Nat, i < 10 → ∀ m : Nat, m < i → ([V.bl (i == 0), V.bl (i == 1), V.bl (i == 2), V.bl (i == 3), V.bl (i == 4), V.bl (i == 5), V.bl (i == 6), V.bl (i == 7), V.bl (i == 8), V.bl (i == 9)] : List V)[m]? = some (.bl false) := by decide
theorem ref_word : ∀ i : Nat, i < 10 → ([V.str "task", V.str "busy", V.str "door", V.str "wrong", V.str "bytes", V.str "number", V.str "name", V.str "many", V.str "broken", V.str "able"] : List V)[i]? = (refTab[i]?).map fun p => V.str p.2 := by decide
def t_law_refusal (K : PySem.W.Frag) (E : XK) : TS := (tSeq (tAsg (tLst (tCons (tCB (rIsX K) (tCons (tVar 0) (tCons (tC (.ref (He.ga K "NoTask"))) tNil))) (tCons (tCB (rIsX K) (tCons (tVar 0) (tCons (tC (.ref (He.ga K "Busy"))) tNil))) (tCons (tCB (rIsX K) (tCons (tVar 0) (tCons (tC (.ref (He.ga K "NoDoor"))) tNil))) tNil)))) (gName 1)) (tSeq (tAsg (tOp rCat (tVar 1) (tLst (tCons (tCB (rIsX K) (tCons (tVar 0) (tCons (tC (.ref (He.ga K "WrongDoor"))) tNil))) (tCons (tCB (rIsX K) (tCons (tVar 0) (tCons (tC (.ref (He.ga K "BadBytes"))) tNil))) (tCons (tCB (rIsX K) (tCons (tVar 0) (tCons (tC (.ref (He.ga K "BadNumber"))) tNil))) tNil))))) (gName 1)) (tSeq (tAsg (tOp rCat (tVar 1) (tLst (tCons (tCB (rIsX K) (tCons (tVar 0) (tCons (tC (.ref (He.ga K "BadName"))) tNil))) (tCons (tCB (rIsX K) (tCons (tVar 0) (tCons (tC (.ref (He.ga K "TooMany"))) tNil))) (tCons (tCB (rIsX K) (tCons (tVar 0) (tCons (tC (.ref (He.ga K "Broken"))) tNil))) tNil))))) (gName 1)) (tSeq (tAsg (tOp rCat (tVar 1) (tLst (tCons (tCB (rIsX K) (tCons (tVar 0) (tCons (tC (.ref (He.ga K "NotAble"))) tNil))) tNil))) (gName 1)) (tSeq (tIfS (tOr (tTest (tOp rNe (tBM K "list" (rCount K) (tVar 1) (tCons (tC (.bl true)) tNil)) (tC (.int 1)))) (tOr (tNot (tB (tCB (rIsX K) (tCons (tVar 0) (tCons (tC (.ref (He.ga K "HouseError"))) tNil))))) (tNot (tB (tCB (rIsX K) (tCons (tVar 0) (tCons (tC (.ty "ValueError")) tNil))))))) (tRet (tC (.str "odd"))) tNext) (tSeq (tAsg (tLst (tCons (tC (.str "task")) (tCons (tC (.str "busy")) (tCons (tC (.str "door")) (tCons (tC (.str "wrong")) (tCons (tC (.str "bytes")) (tCons (tC (.str "number")) (tCons (tC (.str "name")) (tCons (tC (.str "many")) (tCons (tC (.str "broken")) (tCons (tC (.str "able")) tNil))))))))))) (gName 2)) (tRet (tOp (rIxL K) (tVar 2) (tBM K "list" (rIndex K) (tVar 1) (tCons (tC (.bl true)) tNil))))))))))
theorem pure_law_refusal {K : PySem.W.Frag} (T : TxK K) {a0 : V} {H : Hp} {Q : VK} {E : XK} (h : sp_law_refusal K [a0] H Q E) : t_law_refusal K E { nx := fun _ H' => Q .non H', rt := Q } [some a0, none, none] H := by
  obtain ⟨_, e, a, nm, w, i, rfl, ha, hi, hC, hK, q⟩ := h
  cases e
  have hi10 : i < 10 := (List.getElem?_eq_some_iff.mp hi).1
  have kit : ∀ {j : Nat} {c : Str} {b : Bool}, (refKits i)[j]? = some (c, b) → PySem.W.kitOne K (.ref (He.ga K nm)) (.ref (He.ga K c)) = some b := fun h => hK.at_ _ (List.mem_of_getElem? h)
  unfold t_law_refusal
  walk_at "go"
  refine r_isX (.own _) ha hC (kit (j := 0) rfl) ?_
  walk_at "go"
  refine r_isX (.own _) ha hC (kit (j := 1) rfl) ?_
  walk_at "go"
  refine r_isX (.own _) ha hC (kit (j := 2) rfl) ?_
  walk_at "go"
  refine n_lst (by show 3 ≤ 100000; decide) fun b1 H1 hb1 k1 e1 => ?_
  have ha1 := k1.keep _ _ ha fun z => z
  walk_at "go"
  refine r_isX (.own _) ha1 hC (kit (j := 3) rfl) ?_
  walk_at "go"
  refine r_isX (.own _) ha1 hC (kit (j := 4) rfl) ?_
  walk_at "go"
  refine r_isX (.own _) ha1 hC (kit (j := 5) rfl) ?_
  walk_at "go"
  refine n_lst (by show 3 ≤ 100000; decide) fun b2 H2 hb2 k2 e2 => ?_
  walk_at "go"
  refine r_cat (k2.keep _ _ e1 fun z => z) e2 (by show 6 ≤ _; decide) fun b3 H3 hb3 k3 e3 => ?_
  have ha3 := k3.keep _ _ (k2.keep _ _ ha1 fun z => z) fun z => z
  walk_at "go"
  refine r_isX (.own _) ha3 hC (kit (j := 6) rfl) ?_
  walk_at "go"
  refine r_isX (.own _) ha3 hC (kit (j := 7) rfl) ?_
  walk_at "go"
  refine r_isX (.own _) ha3 hC (kit (j := 8) rfl) ?_
  walk_at "go"
  refine n_lst (by show 3 ≤ 100000; decide) fun b4 H4 hb4 k4 e4 => ?_
  walk_at "go"
  refine r_cat (k4.keep _ _ e3 fun z => z) e4 (by show 9 ≤ _; decide) fun b5 H5 hb5 k5 e5 => ?_
  have ha5 := k5.keep _ _ (k4.keep _ _ ha3 fun z => z) fun z => z
  walk_at "go"
  refine r_isX (.own _) ha5 hC (kit (j := 9) rfl) ?_
  walk_at "go"
  refine n_lst (by show 1 ≤ 100000; decide) fun b6 H6 hb6 k6 e6 => ?_
  walk_at "go"
  refine r_cat (k6.keep _ _ e5 fun z => z) e6 (by show 10 ≤ _; decide) fun b7 H7 hb7 k7 e7 => ?_
  have ha7 := k7.keep _ _ (k6.keep _ _ ha5 fun z => z) fun z => z
  have e7 : H7 b7 = some (.lst [V.bl (i == 0), V.bl (i == 1), V.bl (i == 2), V.bl (i == 3), V.bl (i == 4), V.bl (i == 5), V.bl (i == 6), V.bl (i == 7), V.bl (i == 8), V.bl (i == 9)]) := e7
  walk_at "go"
  refine b_lst e7 ?_
  walk_at "go"
  refine r_count (SqL.of e7) rfl rfl ?_
  rw [ref_count i hi10]
  walk_at "go"
  refine r_ne rfl ?_
  rw [show decide (V.int ((1 : Nat) : Int) = V.int 1) = true from rfl]
  walk_at "go"
  refine r_F ?_
  walk_at "go"
  refine r_isX (.own _) ha7 hC (kit (j := 10) rfl) ?_
  walk_at "go"
  refine r_F ?_
  walk_at "go"
  refine r_isX (.ty _) ha7 hC hK.ve ?_
  walk_at "go"
  refine r_F ?_
  walk_at "go"
  refine n_lst (by show 10 ≤ 100000; decide) fun b8 H8 hb8 k8 e8 => ?_
  walk_at "go"
  have e78 := k8.keep _ _ e7 fun z => z
  refine b_lst e78 ?_
  walk_at "go"
  refine r_index (SqL.of e78) rfl rfl (ref_at i hi10) rfl (fun m z' hm hz => ?_) ?_
  · rw [ref_ahead i hi10 m hm] at hz
    cases hz
    rfl
  · refine r_ixL (v := .str w) (SqL.of e8) (atI_nat ?_) ?_
    · rw [ref_word i hi10, hi]; rfl
    · exact q _ (((((((k1.trans k2).trans k3).trans k4).trans k5).trans k6).trans k7).trans k8)
theorem sc_law_refusal : FnScope ["caught", "kinds", "words"] ["caught"] (defScope s_law_refusal) := ⟨rfl, rfl, rfl, by decide +kernel, rfl, by decide +kernel, by decide +kernel⟩
theorem bd_law_refusal {K : PySem.W.Frag} : Bd K d_law_refusal ["caught"] [] := fun fd F => ⟨[], .nil, FunD.bindsN F fun _ _ _ _ _ _ us hl => match us, hl with | [_], _ => rfl⟩
theorem ok_law_refusal {P : Program} {w : World} {K : PySem.W.Frag} {mg : Str → Option Value} {base : Heap} (T : Txt K mg) : Ok P w K mg base d_law_refusal 1 ["caught"] (sp_law_refusal K) := by
  refine Ok.of (k := 0) T.d_law_refusal sc_law_refusal (fun vs H Q E h => ?_) (fun cdv A outer s H vs Q E hr h => ?_)
  · obtain ⟨a0, rfl, h⟩ := h
    rfl
  · obtain ⟨a0, rfl, h⟩ := h
    exact ⟨t_law_refusal K E, (pss_cons (ps_set (i := 1) sc_law_refusal.nd rfl (Or.inl rfl) (pe_lst (pa_cons (pe_callB c_isX (by rfl) T.f_isinstance (by decide +kernel) (pa_cons (pv 0) (pa_cons (q_glo T.g_NoTask rfl) pa_nil))) (pa_cons (pe_callB c_isX (by rfl) T.f_isinstance (by decide +kernel) (pa_cons (pv 0) (pa_cons (q_glo T.g_Busy rfl) pa_nil))) (pa_cons (pe_callB c_isX (by rfl) T.f_isinstance (by decide +kernel) (pa_cons (pv 0) (pa_cons (q_glo T.g_NoDoor rfl) pa_nil))) pa_nil))))) (pss_cons (ps_set (i := 1) sc_law_refusal.nd rfl (Or.inl rfl) (pe_op op_cat (pv 1) (pe_lst (pa_cons (pe_callB c_isX (by rfl) T.f_isinstance (by decide +kernel) (pa_cons (pv 0) (pa_cons (q_glo T.g_WrongDoor rfl) pa_nil))) (pa_cons (pe_callB c_isX (by rfl) T.f_isinstance (by decide +kernel) (pa_cons (pv 0) (pa_cons (q_glo T.g_BadBytes rfl) pa_nil))) (pa_cons (pe_callB c_isX (by rfl) T.f_isinstance (by decide +kernel) (pa_cons (pv 0) (pa_cons (q_glo T.g_BadNumber rfl) pa_nil))) pa_nil)))))) (pss_cons (ps_set (i := 1) sc_law_refusal.nd rfl (Or.inl rfl) (pe_op op_cat (pv 1) (pe_lst (pa_cons (pe_callB c_isX (by rfl) T.f_isinstance (by decide +kernel) (pa_cons (pv 0) (pa_cons (q_glo T.g_BadName rfl) pa_nil))) (pa_cons (pe_callB c_isX (by rfl) T.f_isinstance (by decide +kernel) (pa_cons (pv 0) (pa_cons (q_glo T.g_TooMany rfl) pa_nil))) (pa_cons (pe_callB c_isX (by rfl) T.f_isinstance (by decide +kernel) (pa_cons (pv 0) (pa_cons (q_glo T.g_Broken rfl) pa_nil))) pa_nil)))))) (pss_cons (ps_set (i := 1) sc_law_refusal.nd rfl (Or.inl rfl) (pe_op op_cat (pv 1) (pe_lst (pa_cons (pe_callB c_isX (by rfl) T.f_isinstance (by decide +kernel) (pa_cons (pv 0) (pa_cons (q_glo T.g_NotAble rfl) pa_nil))) pa_nil)))) (pss_cons (ps_if (PW.pt (pw_or (pt_cmpR op_ne (pe_bm PySem.F.plainAttrs_list PySem.F.slot_list_count PySem.F.type_list_count mt_count (pv 1) (pa_cons pe_bl pa_nil)) pe_int (nomark _)) (pw_or (pt_not (pt_val (pe_callB c_isX (by rfl) T.f_isinstance (by decide +kernel) (pa_cons (pv 0) (pa_cons (q_glo T.g_HouseError rfl) pa_nil))))) (pw_or1 (pt_not (pt_val (pe_callB c_isX (by rfl) T.f_isinstance (by decide +kernel) (pa_cons (pv 0) (pa_cons (q_ty T.f_ValueError rfl (by decide +kernel)) pa_nil))))))))) (pss_one (ps_ret pe_str)) pss_nil) (pss_cons (ps_set (i := 2) sc_law_refusal.nd rfl (Or.inl rfl) (pe_lst (pa_cons pe_str (pa_cons pe_str (pa_cons pe_str (pa_cons pe_str (pa_cons pe_str (pa_cons pe_str (pa_cons pe_str (pa_cons pe_str (pa_cons pe_str (pa_cons pe_str pa_nil)))))))))))) (pss_one (ps_ret (pe_ix ix_list (pv 2) (pe_bm PySem.F.plainAttrs_list PySem.F.slot_list_index PySem.F.type_list_index mt_index (pv 1) (pa_cons pe_bl pa_nil)) (fun _ _ => rfl)))))))))), pure_law_refusal T.toTxK ⟨a0, rfl, h⟩⟩
def sp_law_byte (K : PySem.W.Frag) : Sp := Sp1 fun s H Q _ => ∃ t c, s = .ref t ∧ TownAt H t c ∧ ∀ b H', 0 ≤ b → b ≤ 255 → Kp (Two t c) H H' → TownAt H' t c → Q (.int b) H'
def t_law_byte (K : PySem.W.Frag) (E : XK) : TS := (tRet (tCall (sp_law_pick K) [] E (tCons (tVar 0) (tCons (tLst (tCons (tC (.int 0)) (tCons (tC (.int 1)) (tCons (tC (.int 255)) (tCons (tCall (sp_law_draw K) [] E (tCons (tVar 0) (tCons (tC (.int 256)) tNil))) (tCons (tCall (sp_law_draw K) [] E (tCons (tVar 0) (tCons (tC (.int 256)) tNil))) (tCons (tCall (sp_law_draw K) [] E (tCons (tVar 0) (tCons (tC (.int 4)) tNil))) tNil))))))) tNil))))
theorem pure_law_byte {K : PySem.W.Frag} (T : TxK K) {a0 : V} {H : Hp} {Q : VK} {E : XK} (h : sp_law_byte K [a0] H Q E) : t_law_byte K E { nx := fun _ H' => Q .non H', rt := Q } [some a0] H := by
  obtain ⟨_, e, t, c, rfl, ht, q⟩ := h
  cases e
  unfold t_law_byte
  walk_at "go"
  refine s_2 ⟨t, c, 256, rfl, rfl, ht, by decide, by decide, fun r1 H1 h1 h1' k1 ht1 => ?_⟩
  walk_at "go"
  refine s_2 ⟨t, c, 256, rfl, rfl, ht1, by decide, by decide, fun r2 H2 h2 h2' k2 ht2 => ?_⟩
  walk_at "go"
  refine s_2 ⟨t, c, 4, rfl, rfl, ht2, by decide, by decide, fun r3 H3 h3 h3' k3 ht3 => ?_⟩
  walk_at "go"
  refine n_lst (by show 6 ≤ 100000; decide) fun p H4 hp k4 e4 => ?_
  walk_at "go"
  refine s_2 ⟨t, c, p, _, rfl, rfl, ht3.no k4, SqL.of e4, ht3.new hp, by show 1 ≤ 6; decide, by show 6 < 1000000; decide, fun v H5 hv k5 ht5 => ?_⟩
  have hb : ∃ b, v = .int b ∧ 0 ≤ b ∧ b ≤ 255 := by
    simp only [List.mem_cons, List.not_mem_nil, or_false] at hv
    rcases hv with rfl | rfl | rfl | rfl | rfl | rfl
    · exact ⟨_, rfl, by decide, by decide⟩
    · exact ⟨_, rfl, by decide, by decide⟩
    · exact ⟨_, rfl, by decide, by decide⟩
    · exact ⟨_, rfl, by omega, by omega⟩
    · exact ⟨_, rfl, by omega, by omega⟩
    · exact ⟨_, rfl, by omega, by omega⟩
  obtain ⟨b, rfl, hb1, hb2⟩ := hb
  exact q b H5 hb1 hb2 ((((k1.trans k2).trans k3).trans k4.no).trans k5) ht5
theorem sc_law_byte : FnScope ["town"] ["town"] (defScope s_law_byte) := ⟨rfl, rfl, rfl, by decide +kernel, rfl, by decide +kernel, by decide +kernel⟩
theorem bd_law_byte {K : PySem.W.Frag} : Bd K d_law_byte ["town"] [] := fun fd F => ⟨[], .nil, FunD.bindsN F fun _ _ _ _ _ _ us hl => match us, hl with | [_], _ => rfl⟩
theorem ok_law_byte {P : Program} {w : World} {K : PySem.W.Frag} {mg : Str → Option Value} {base : Heap} (T : Txt K mg) : Ok P w K mg base d_law_byte 3 ["town"] (sp_law_byte K) := by
  refine Ok.of (k := 2) T.d_law_byte sc_law_byte (fun vs H Q E h => ?_) (fun cdv A outer s H vs Q E hr h => ?_)
  · obtain ⟨a0, rfl, h⟩ := h
    rfl
  · obtain ⟨a0, rfl, h⟩ := h
    exact ⟨t_law_byte K E, (pss_one (ps_ret (q_call (ok_law_pick T) bd_law_pick T.g_law_pick hr (by decide) (by rfl) pD (pa_cons (pv 0) (pa_cons (pe_lst (pa_cons pe_int (pa_cons pe_int (pa_cons pe_int (pa_cons (q_call (ok_law_draw T) bd_law_draw T.g_law_draw hr (by decide) (by rfl) pD (pa_cons (pv 0) (pa_cons pe_int pa_nil))) (pa_cons (q_call (ok_law_draw T) bd_law_draw T.g_law_draw hr (by decide) (by rfl) pD (pa_cons (pv 0) (pa_cons pe_int pa_nil))) (pa_cons (q_call (ok_law_draw T) bd_law_draw T.g_law_draw hr (by decide) (by rfl) pD (pa_cons (pv 0) (pa_cons pe_int pa_nil))) pa_nil))))))) pa_nil))))), pure_law_byte T.toTxK ⟨a0, rfl, h⟩⟩
def sp_law_row (K : PySem.W.Frag) : Sp := Sp2 fun s x H Q _ => ∃ t c m, s = .ref t ∧ x = .int m ∧ TownAt H t c ∧ 0 ≤ m ∧ m ≤ 1000 ∧
  ∀ p (ns : List Int) H', H p = none → Kp (Two t c) H H' → TownAt H' t c → H' p = some (.lst (ns.map V.int)) → (ns.length : Int) ≤ m → IsB ns → Q (.ref p) H'
def t_law_row (K : PySem.W.Frag) (E : XK) : TS := (tRet (tLc (iRng1 (tCons (tCall (sp_law_draw K) [] E (tCons (tVar 0) (tCons (tOp qAdd (tVar 1) (tC (.int 1))) tNil))) tNil)) (gName 2) tYes (tCall (sp_law_byte K) [] E0 (tCons (tVar 0) tNil)) [2]))
theorem pure_law_row {K : PySem.W.Frag} (T : TxK K) {a0 a1 : V} {H : Hp} {Q : VK} {E : XK} (h : sp_law_row K [a0, a1] H Q E) : t_law_row K E { nx := fun _ H' => Q .non H', rt := Q } [some a0, some a1, none] H := by
  obtain ⟨_, _, e, t, c, m, rfl, rfl, ht, hm, hm2, q⟩ := h
  cases e
  unfold t_law_row
  walk_at "go"
  refine s_2 ⟨t, c, m + 1, rfl, rfl, ht, by omega, by omega, fun r H0 h0 h1 k0 ht0 => ?_⟩
  walk_at "go"
  refine lci_range h0 (by omega) (fun i acc H' => Kp (Two t c) H0 H' ∧ TownAt H' t c ∧ ∃ ns : List Int, acc = ns.map V.int ∧ ns.length = i ∧ IsB ns) (fun H2 k2 => ⟨k2.no, ht0.no k2, [], rfl, rfl, fun _ h => by cases h⟩) ?_ ?_ ?_ ?_ ?_ ?_
  · rintro i acc H' ⟨_, _, ns, rfl, rfl, _⟩
    rw [List.length_map]
    exact Nat.le_refl _
  · rintro i acc Dl H' hi hD e ⟨k, ht', ns, rfl, hl, hb⟩
    walk_at "go"
    refine ⟨rfl, ?_⟩
    walk_at "go"
    refine s_1 ⟨t, c, rfl, ht', fun b H4 b0 b1 k4 ht4 => ?_⟩
    have nD : ¬ Two t c Dl := ht0.new hD
    refine ⟨k4.keep _ _ e nD, fun H5 k5 => ⟨((k.trans k4).fresh k5 fun x z => ?_), ht4.keep k5 (fun z => nD (.inl (show t = Dl from z).symm)) (fun z => nD (.inr (show c = Dl from z).symm)), ns ++ [b], by rw [List.map_append]; rfl, by rw [List.length_append, hl]; rfl, ?_⟩⟩
    · rw [show x = Dl from z]
      exact .inr hD
    · intro y hy
      rcases List.mem_append.mp hy with hy | hy
      · exact hb y hy
      · rw [List.mem_singleton.mp hy]
        exact ⟨b0, b1⟩
  · rintro σ2 H2 R R' hr ⟨v, e1, a, e2, t, c, e3, e4, e5⟩
    exact ⟨v, e1, a, e2, t, c, e3, e4, fun b H' h1 h2 h3 h4 => hr _ _ (e5 b H' h1 h2 h3 h4)⟩
  · exact fun _ _ R R' hr h => hr _ _ h
  · exact fun _ _ _ R R' hr h => hr _ _ h
  · rintro p acc H' hp e ⟨k, ht', ns, rfl, hl, hb⟩
    exact q p ns H' (k0.free _ hp) (k0.trans k) ht' e (by omega) hb
theorem sc_law_row : FnScope ["town", "most", "k"] ["town", "most"] (defScope s_law_row) := ⟨rfl, rfl, rfl, by decide +kernel, rfl, by decide +kernel, by decide +kernel⟩
theorem bd_law_row {K : PySem.W.Frag} : Bd K d_law_row ["town", "most"] [] := fun fd F => ⟨[], .nil, FunD.bindsN F fun _ _ _ _ _ _ us hl => match us, hl with | [_, _], _ => rfl⟩
theorem ok_law_row {P : Program} {w : World} {K : PySem.W.Frag} {mg : Str → Option Value} {base : Heap} (T : Txt K mg) : Ok P w K mg base d_law_row 4 ["town", "most"] (sp_law_row K) := by
  refine Ok.of (k := 3) T.d_law_row sc_law_row (fun vs H Q E h => ?_) (fun cdv A outer s H vs Q E hr h => ?_)
  · obtain ⟨a0, a1, rfl, h⟩ := h
    rfl
  · obtain ⟨a0, a1, rfl, h⟩ := h
    exact ⟨t_law_row K E, (pss_one (ps_ret (pe_lc (own := [("k", 2)]) rfl sc_law_row.nd (pi_range1 rfl T.f_range (pa_cons (q_call (ok_law_draw T) bd_law_draw T.g_law_draw hr (by decide) (by rfl) pD (pa_cons (pv 0) (pa_cons (pe_op op_add (pv 1) pe_int) pa_nil))) pa_nil)) (blkOk_by (N := ["town", "most", "k"]) (sc := defScope s_law_row) (by decide +kernel)) (fun _ _ _ _ _ => (pg_name (i := 2) sc_law_row.nd rfl (Or.inl rfl))) (fun _ _ _ _ _ => pts_nil) (fun _ _ _ _ _ => (q_call (ok_law_byte T) bd_law_byte T.g_law_byte hr (by decide) (by rfl) passL (pa_cons (pv 0) pa_nil)))))), pure_law_row T.toTxK ⟨a0, a1, rfl, h⟩⟩
def sp_law_asked (K : PySem.W.Frag) : Sp := Sp4 fun kd s x y H Q _ => ∃ p l ns, s = .ref p ∧ FileAt K H p l ns ∧ Thing H x ∧ Thing H y ∧
  ((kd = .int 0 ∧ (∀ l' a ms H', isW x 0 ns.length = true → y = .ref a → H a = some (.lst (ms.map V.int)) → ms.length ≤ 200 → IsB ms → Kp (One p) H H' → (∃ ns', FileAt K H' p l' ns') → Q (.str "told") H') ∧
      (isW x 0 ns.length = false → ∀ H', Kp No H H' → Q (.str "number") H') ∧ (isW x 0 ns.length = true → ¬ IsRow H y 200 → ∀ H', Kp No H H' → Q (.str "bytes") H')) ∨
   (kd = .int 1 ∧ (isW x 0 ns.length = true → isW y 1 200 = true → ∀ H', Kp No H H' → Q (.str "told") H') ∧ (isW x 0 ns.length = false ∨ isW y 1 200 = false → ∀ H', Kp No H H' → Q (.str "number") H')))
def t_law_asked (K : PySem.W.Frag) (E : XK) : TS := (tSeq (tAsg (tC .non) (gName 4)) (tSeq (tKeep K (.ref (He.ga K "HouseError")) 5 4 (fun W => (tIfS (tTest (tOp rEq (tVar 0) (tC (.int 0)))) (tDrop (tMethS (He.ga K "File") "put_at" (sp_File_put_at K) (WE W) (tVar 1) (tCons (tVar 2) (tCons (tVar 3) tNil)))) (tDrop (tMethS (He.ga K "File") "take_at" (sp_File_take_at K) (WE W) (tVar 1) (tCons (tVar 2) (tCons (tVar 3) tNil))))))) (tRet (tIf (tTest (tOp rIsN (tVar 4) (tC .non))) (tC (.str "told")) (tCall (sp_law_refusal K) [] E (tCons (tVar 4) tNil))))))
theorem pure_law_asked {K : PySem.W.Frag} (T : TxK K) {a0 a1 a2 a3 : V} {H : Hp} {Q : VK} {E : XK} (h : sp_law_asked K [a0, a1, a2, a3] H Q E) : t_law_asked K E { nx := fun _ H' => Q .non H', rt := Q } [some a0, some a1, some a2, some a3, none, none] H := by
  obtain ⟨_, _, _, _, e, p, l, ns, rfl, P, hx, hy, hq⟩ := h
  cases e
  obtain ⟨dx, hp⟩ := P.ins
  obtain ⟨n1, t1⟩ := hx.tg
  obtain ⟨n2, t2⟩ := hy.tg
  unfold t_law_asked
  walk_at "go"
  have number : ∀ H', Kp No H H' → (∀ H2, Kp No H H2 → Q (.str "number") H2) → wKeep K (.ref (He.ga K "HouseError")) 5 4 { nx := tRet (tIf (tTest (tOp rIsN (tVar 4) (tC .non))) (tC (.str "told")) (tCall (sp_law_refusal K) [] E (tCons (tVar 4) tNil))) { nx := fun _ H' => Q .non H', rt := Q }, rt := Q } (.ref (He.ga K "BadNumber")) none [some a0, some (.ref p), some a2, some a3, some .non, none] H' := fun H' k q => by
    refine ⟨T.z_BadNumber, fun a ha => ?_⟩
    walk_at "go"
    refine ⟨rfl, ?_⟩
    walk_at "go"
    refine r_F ?_
    walk_at "go"
    refine s_1 ⟨a, _, _, 5, rfl, upd_same, rfl, T.e_BadNumber, T.i_BadNumber, fun H2 k2 => q H2 ((k.trans (Kp.new ha)).trans k2)⟩
  have bytes : ∀ H', Kp No H H' → (∀ H2, Kp No H H2 → Q (.str "bytes") H2) → wKeep K (.ref (He.ga K "HouseError")) 5 4 { nx := tRet (tIf (tTest (tOp rIsN (tVar 4) (tC .non))) (tC (.str "told")) (tCall (sp_law_refusal K) [] E (tCons (tVar 4) tNil))) { nx := fun _ H' => Q .non H', rt := Q }, rt := Q } (.ref (He.ga K "BadBytes")) none [some a0, some (.ref p), some a2, some a3, some .non, none] H' := fun H' k q => by
    refine ⟨T.z_BadBytes, fun a ha => ?_⟩
    walk_at "go"
    refine ⟨rfl, ?_⟩
    walk_at "go"
    refine r_F ?_
    walk_at "go"
    refine s_1 ⟨a, _, _, 4, rfl, upd_same, rfl, T.e_BadBytes, T.i_BadBytes, fun H2 k2 => q H2 ((k.trans (Kp.new ha)).trans k2)⟩
  have told : ∀ H', Q (.str "told") H' → tRet (tIf (tTest (tOp rIsN (tVar 4) (tC .non))) (tC (.str "told")) (tCall (sp_law_refusal K) [] E (tCons (tVar 4) tNil))) { nx := fun _ H' => Q .non H', rt := Q } [some a0, some (.ref p), some a2, some a3, some .non, none] H' := fun H' q => by
    walk_at "go"
    refine ⟨rfl, ?_⟩
    walk_at "go"
    exact q
  rcases hq with ⟨rfl, q1, q2, q3⟩ | ⟨rfl, q1, q2⟩
  · refine r_eq rfl ?_
    walk_at "go"
    refine r_T ?_
    walk_at "go"
    refine m_at hp (by walk_at "lk") ?_
    walk_at "go"
    exact s_3 ⟨p, l, ns, n1, n2, rfl, P, t1, t2, hy.it, fun i a ms l' H' ei h0 h1 ea ha hl hb hl' k P' => told H' (q1 l' a ms H' (by rw [ei]; exact isW_of h0 h1) ea ha hl hb k ⟨_, P'⟩), fun hn => number H Kp.refl (q2 hn), fun hw hn H' k => bytes H' k (q3 hw hn)⟩
  · refine r_eq rfl ?_
    walk_at "go"
    refine r_F ?_
    walk_at "go"
    refine m_at hp (by walk_at "lk") ?_
    walk_at "go"
    exact s_3 ⟨p, l, ns, n1, n2, rfl, P, t1, t2, fun i j q H' ei h0 h1 ej h2 h3 hq k e => told H' (q1 (by rw [ei]; exact isW_of h0 h1) (by rw [ej]; exact isW_of h2 h3) H' k), fun hn => number H Kp.refl (q2 hn)⟩
theorem sc_law_asked : FnScope ["kind", "file", "one", "other", "caught", "e"] ["kind", "file", "one", "other"] (defScope s_law_asked) := ⟨rfl, rfl, rfl, by decide +kernel, rfl, by decide +kernel, by decide +kernel⟩
theorem bd_law_asked {K : PySem.W.Frag} : Bd K d_law_asked ["kind", "file", "one", "other"] [] := fun fd F => ⟨[], .nil, FunD.bindsN F fun _ _ _ _ _ _ us hl => match us, hl with | [_, _, _, _], _ => rfl⟩
theorem ok_law_asked {P : Program} {w : World} {K : PySem.W.Frag} {mg : Str → Option Value} {base : Heap} (T : Txt K mg) : Ok P w K mg base d_law_asked 4 ["kind", "file", "one", "other"] (sp_law_asked K) := by
  refine Ok.of (k := 3) T.d_law_asked sc_law_asked (fun vs H Q E h => ?_) (fun cdv A outer s H vs Q E hr h => ?_)
  · obtain ⟨a0, a1, a2, a3, rfl, h⟩ := h
    rfl
  · obtain ⟨a0, a1, a2, a3, rfl, h⟩ := h
    exact ⟨t_law_asked K E, (pss_cons (ps_set (i := 4) sc_law_asked.nd rfl (Or.inl rfl) pe_non) (pss_cons (q_keep (i := 5) (j := 4) sc_law_asked.nd T.g_HouseError (fun W pn xe tk _ => (pss_one (ps_if (pt_cmpR op_eq (pv 0) pe_int (nomark _)) (pss_one (ps_expr (q_methS (ok_File_put_at T) (pv 1) T.c_File T.m_File_put_at bd_File_put_at hr (by decide) tk (pa_cons (pv 2) (pa_cons (pv 3) pa_nil))))) (pss_one (ps_expr (q_methS (ok_File_take_at T) (pv 1) T.c_File T.m_File_take_at bd_File_take_at hr (by decide) tk (pa_cons (pv 2) (pa_cons (pv 3) pa_nil))))))))) (pss_one (ps_ret (pe_ifExp (pt_cmpR op_isN1 (pv 4) pe_non (nomark _)) pe_str (q_call (ok_law_refusal T) bd_law_refusal T.g_law_refusal hr (by decide) (by rfl) pD (pa_cons (pv 4) pa_nil))))))), pure_law_asked T.toTxK ⟨a0, a1, a2, a3, rfl, h⟩⟩
def sp_law (K : PySem.W.Frag) : Sp := Sp1 fun s H Q _ => ∃ (a : Addr) (ns : List Int), s = .ref a ∧ SqL K H a (ns.map V.int) ∧ ns.length ≤ 63 ∧ ∀ H', Q (.bl true) H'
def t_law_b1 (K : PySem.W.Frag) (E : XK) : TS := (tSeq (tAsg (tLst (tCons (tCall (sp_law_asked K) [] E (tCons (tC (.int 0)) (tCons (tVar 2) (tCons (tVar 6) (tCons (tVar 5) tNil))))) (tCons (tCall (sp_law_asked K) [] E (tCons (tC (.int 0)) (tCons (tVar 2) (tCons (tVar 6) (tCons (tLst tNil) tNil))))) (tCons (tCall (sp_law_asked K) [] E (tCons (tC (.int 1)) (tCons (tVar 2) (tCons (tVar 6) (tCons (tC (.int 1)) tNil))))) tNil)))) (gName 9)) (tIfS (tOr (tTest (tOp (rNeD K) (tVar 9) (tOp rRep (tLst (tCons (tC (.str "number")) tNil)) (tC (.int 3))))) (tTest (tOp (rNeD K) (tMeth (He.ga K "File") "held" (sp_File_held K) [] E (tVar 2) tNil) (tVar 3)))) (tRet (tC (.bl false))) tNext))
def t_law_b2 (K : PySem.W.Frag) (E : XK) : TS := (tIfS (tOr (tTest (tOp rNe (tCall (sp_law_asked K) [] E (tCons (tC (.int 0)) (tCons (tVar 2) (tCons (tVar 4) (tCons (tVar 7) tNil))))) (tC (.str "bytes")))) (tTest (tOp (rNeD K) (tMeth (He.ga K "File") "held" (sp_File_held K) [] E (tVar 2) tNil) (tVar 3)))) (tRet (tC (.bl false))) tNext)
def t_law_b3 (K : PySem.W.Frag) (E : XK) : TS := (tIfS (tTest (tOp rNe (tCall (sp_law_asked K) [] E (tCons (tC (.int 1)) (tCons (tVar 2) (tCons (tVar 4) (tCons (tVar 8) tNil))))) (tC (.str "number")))) (tRet (tC (.bl false))) tNext)
def t_law_r1 (K : PySem.W.Frag) (E : XK) : TS := (tRet (tAndV (tOp rEq (tCall (sp_law_asked K) [] E (tCons (tC (.int 1)) (tCons (tVar 2) (tCons (tCB (rLenS K) (tCons (tVar 3) tNil)) (tCons (tC (.int 200)) tNil))))) (tC (.str "told"))) (tOp rEq (tCall (sp_law_asked K) [] E (tCons (tC (.int 0)) (tCons (tVar 2) (tCons (tVar 4) (tCons (tOp rRep (tLst (tCons (tC (.int 0)) tNil)) (tC (.int 200))) tNil))))) (tC (.str "told")))))
def t_law_r2 (K : PySem.W.Frag) (E : XK) : TS := (tSeq (tFor (iList K (tLst (tCons (tC (.int 0)) (tCons (tC (.int 201)) (tCons (tOp qSub (tC (.int 0)) (tC (.int 1))) (tCons (tC (.bl true)) (tCons (tC .non) (tCons (tC (.str "1")) (tCons (tLst (tCons (tC (.int 1)) tNil)) tNil))))))))) (gName 8) (t_law_b3 K E)) (t_law_r1 K E))
def t_law_r3 (K : PySem.W.Frag) (E : XK) : TS := (tSeq (tFor (iList K (tLst (tCons (tVar 5) (tCons (tCB (rTupS K) (tCons (tVar 3) tNil)) (tCons (tC .non) (tCons (tC (.int 5)) (tCons (tC (.str "")) (tCons tDNewK (tCons (tOp rRep (tLst (tCons (tC (.int 0)) tNil)) (tC (.int 201))) tNil))))))))) (gName 7) (t_law_b2 K E)) (t_law_r2 K E))
def t_law (K : PySem.W.Frag) (E : XK) : TS := (tSeq (tAsg (tCall (sp_law_town K) [] E (tCons (tVar 0) tNil)) (gName 1)) (tSeq (tAsg (tMake (He.ga K "File") (sp_File_init K) [] E tNil) (gName 2)) (tSeq (tAsg (tCall (sp_law_row K) [] E (tCons (tVar 1) (tCons (tC (.int 6)) tNil))) (gName 3)) (tSeq (tDrop (tMeth (He.ga K "File") "put_at" (sp_File_put_at K) [] E (tVar 2) (tCons (tC (.int 0)) (tCons (tVar 3) tNil)))) (tSeq (tAsg (tCall (sp_law_draw K) [] E (tCons (tVar 1) (tCons (tOp qAdd (tCB (rLenS K) (tCons (tVar 3) tNil)) (tC (.int 1))) tNil))) (gName 4)) (tSeq (tAsg (tOp rCat (tOp rCat (tSl (rSlL K) (tVar 3) tNoPart (tPart (tVar 4))) (tLst (tCons (tCall (sp_law_pick K) [] E (tCons (tVar 1) (tCons (tLst (tCons (tC (.int 256)) (tCons (tOp qSub (tC (.int 0)) (tC (.int 1))) (tCons (tC (.bl true)) (tCons (tC .non) (tCons (tC (.str "0")) (tCons (tLst (tCons (tC (.int 1)) tNil)) tNil))))))) tNil))) tNil))) (tSl (rSlL K) (tVar 3) (tPart (tVar 4)) tNoPart)) (gName 5)) (tSeq (tFor (iList K (tLst (tCons (tOp qAdd (tCB (rLenS K) (tCons (tVar 3) tNil)) (tC (.int 1))) (tCons (tOp qSub (tC (.int 0)) (tC (.int 1))) (tCons (tC (.bl true)) (tCons (tC .non) (tCons (tC (.str "0")) (tCons (tLst (tCons (tC (.int 0)) tNil)) (tCons (tC (.int 201)) tNil))))))))) (gName 6) (t_law_b1 K E)) (t_law_r3 K E))))))))
section
variable {K : PySem.W.Frag} {E : XK} {a t p b l w : Addr} {at_ : Int} {ms : List Int}
def sl4 (a t p b : Addr) (at_ : Int) (w : Addr) (o6 o7 o8 o9 : Option V) : L2.St := [some (.ref a), some (.ref t), some (.ref p), some (.ref b), some (.int at_), some (.ref w), o6, o7, o8, o9]
theorem held_same4 (T : TxK K) {D : Ends} {H : Hp} {o6 o7 o8 o9 : Option V} (P : FileAt K H p l ms) (hb : H b = some (.lst (ms.map V.int))) (q : ∀ H', Kp No H H' → D.nx (sl4 a t p b at_ w o6 o7 o8 o9) H') :
    tTest (tOp (rNeD K) (tMeth (He.ga K "File") "held" (sp_File_held K) [] E (tVar 2) tNil) (tVar 3)) (sl4 a t p b at_ w o6 o7 o8 o9) H fun c H1 => if c = true then tRet (tC (.bl false)) D (sl4 a t p b at_ w o6 o7 o8 o9) H1 else tNext D (sl4 a t p b at_ w o6 o7 o8 o9) H1 := by
  obtain ⟨dx, hp⟩ := P.ins
  walk_at "go"
  refine m_at hp (by walk_at "lk") ?_
  walk_at "go"
  refine s_1 ⟨p, l, ms, rfl, P, fun q1 H1 hq1 k1 e1 => ?_⟩
  walk_at "go"
  refine r_neL (SqL.of e1) (SqL.of (k1.keep _ _ hb fun z => z)) ?_
  rw [decide_eq_true rfl]
  walk_at "go"
  refine r_F ?_
  exact q H1 k1
end
theorem IsRow.back {H H2 : Hp} {x : V} {m : Int} (h : IsRow H2 x m) (t : Thing H x) (k : Kp No H H2) : IsRow H x m := by
  obtain ⟨y, ns, rfl, h1, h2⟩ := h
  obtain ⟨n, hn⟩ := t.tg
  refine ⟨y, ns, rfl, ?_, h2⟩
  have : ∃ o, H y = some o := by
    cases hn with
    | lst h => exact ⟨_, h⟩
    | tup h => exact ⟨_, h⟩
    | dK h => exact ⟨_, h⟩
  obtain ⟨o, ho⟩ := this
  rw [k.keep _ _ ho fun z => z] at h1
  rw [ho, h1]
theorem pure_law {K : PySem.W.Frag} (T : TxK K) {a0 : V} {H : Hp} {Q : VK} {E : XK} (h : sp_law K [a0] H Q E) : t_law K E { nx := fun _ H' => Q .non H', rt := Q } [some a0, none, none, none, none, none, none, none, none, none] H := by
  obtain ⟨_, e, a, ns, rfl, hs, hl, q⟩ := h
  cases e
  unfold t_law
  walk_at "go"
  refine s_1 ⟨a, ns, rfl, hs, hl, fun t c H1 nt nc k1 ht1 => ?_⟩
  walk_at "go"
  refine k_at fun p dx H3 hp hdx ne k3 e3 _ => ?_
  refine s_1 ⟨p, dx, rfl, e3, fun l H4 hl4 k4 P4 => ⟨rfl, ?_⟩⟩
  have ht3 := ht1.no k3
  have ht4 := ht3.at_ k4 (ht1.new hp)
  have nl : ¬ Two t c l := ht3.new hl4
  walk_at "go"
  refine s_2 ⟨t, c, 6, rfl, rfl, ht4, by decide, by decide, fun b ms H5 hb k5 ht5 e5 hl5 hB5 => ?_⟩
  obtain ⟨dx4, hp4⟩ := P4.ins
  have P5 := P4.keep k5 (ht4.ins hp4) nl
  obtain ⟨dx5, hp5⟩ := P5.ins
  walk_at "go"
  refine m_at hp5 (by walk_at "lk") ?_
  walk_at "go"
  refine s_3 ⟨p, l, [], "int", "list", rfl, P5, .int 0, .lst e5, items_ints e5, fun i a' ms' l' H6 ei _ _ ea hm' _ _ hl' k6 P6 => ?_, fun hn => (by cases hn), fun _ hn => absurd ⟨b, ms, rfl, e5, by omega, hB5⟩ hn⟩
  cases ei
  cases ea
  rw [e5] at hm'
  have hm2 : ms = ms' := ints_inj hm'
  subst hm2
  have ef : wrote [] (0 : Int).toNat ms = ms := by
    show ([] : List Int).take 0 ++ ms.take 200 ++ ([] : List Int).drop _ = ms
    rw [List.take_nil, List.drop_nil, List.nil_append, List.append_nil]
    exact List.take_of_length_le (by omega)
  rw [ef] at P6
  have ht6 := ht5.at_ k6 (ht5.ins hp5)
  have e6 : H6 b = _ := k6.keep _ _ e5 (ne_of e5 hp5 (by intro z; cases z))
  have nl' : ¬ Two t c l' := ht5.new hl'
  walk_at "go"
  refine r_len (SqL.of e6) ?_
  walk_at "go"
  rw [List.length_map]
  refine s_2 ⟨t, c, ms.length + 1, rfl, rfl, ht6, by omega, by omega, fun at_ H7 h70 h71 k7 ht7 => ?_⟩
  obtain ⟨dx6, hp6⟩ := P6.ins
  have P7 := P6.keep k7 (ht6.ins hp6) nl'
  have nb : ¬ Two t c b := ht4.new hb
  have e7 : H7 b = _ := k7.keep _ _ e6 nb
  walk_at "go"
  refine r_slL (SqL.of e7) fun b8 H8 hb8 k8 e8 => ?_
  rw [cut_to h70, ← List.map_take] at e8
  walk_at "go"
  refine n_lst (by show 1 ≤ 100000; decide) fun b9 H9 hb9 k9 e9 => ?_
  walk_at "go"
  refine n_lst (by show 6 ≤ 100000; decide) fun b10 H10 hb10 k10 e10 => ?_
  have ht9 := (ht7.no k8).no k9
  walk_at "go"
  refine s_2 ⟨t, c, b10, _, rfl, rfl, ht9.no k10, SqL.of e10, ht9.new hb10, by show 1 ≤ 6; decide, by show 6 < 1000000; decide, fun odd H11 hv k11 ht11 => ?_⟩
  have e911 : H11 b9 = some (.lst [.int 1]) := k11.keep _ _ (k10.keep _ _ e9 fun z => z) ((ht7.no k8).new hb9)
  have e811 : H11 b8 = _ := k11.keep _ _ (k10.keep _ _ (k9.keep _ _ e8 fun z => z) fun z => z) (ht7.new hb8)
  obtain ⟨hod, no, hno⟩ : isW odd 0 255 = false ∧ ∃ n, Tg H11 odd n := by
    simp only [List.mem_cons, List.not_mem_nil, or_false] at hv
    rcases hv with rfl | rfl | rfl | rfl | rfl | rfl
    · exact ⟨rfl, _, .int _⟩
    · exact ⟨rfl, _, .int _⟩
    · exact ⟨rfl, _, .bl _⟩
    · exact ⟨rfl, _, .non⟩
    · exact ⟨rfl, _, .str _⟩
    · exact ⟨rfl, _, .lst e911⟩
  have k7_11 : Kp (Two t c) H7 H11 := ((k8.no.trans k9.no).trans k10.no).trans k11
  obtain ⟨dx7, hp7⟩ := P7.ins
  have P11 := P7.keep k7_11 (ht7.ins hp7) nl'
  have e11 : H11 b = _ := k7_11.keep _ _ e7 nb
  walk_at "go"
  refine n_lst (by show 1 ≤ 100000; decide) fun b12 H12 hb12 k12 e12 => ?_
  walk_at "go"
  refine r_cat (k12.keep _ _ e811 fun z => z) e12 (lt_line (by rw [List.length_map, List.length_take, List.length_singleton]; omega)) fun b13 H13 hb13 k13 e13 => ?_
  walk_at "go"
  refine r_slL (SqL.of (k13.keep _ _ (k12.keep _ _ e11 fun z => z) fun z => z)) fun b14 H14 hb14 k14 e14 => ?_
  rw [cut_from h70, ← List.map_drop] at e14
  walk_at "go"
  refine r_cat (k14.keep _ _ e13 fun z => z) e14 (lt_line (by rw [List.length_append, List.length_map, List.length_take, List.length_singleton, List.length_map, List.length_drop]; omega)) fun w H15 hw15 k15 e15 => ?_
  have kk : Kp No H11 H15 := ((k12.trans k13).trans k14).trans k15
  have P15 := P11.keep kk (fun z => z) (fun z => z)
  have eb15 := kk.keep _ _ e11 fun z => z
  have ho15 := hno.no kk
  have hwT : Thing H15 (.ref w) := th_lst e15 fun y hy => by
    rcases List.mem_append.mp hy with hy | hy
    · rcases List.mem_append.mp hy with hy | hy
      · obtain ⟨z, _, rfl⟩ := List.mem_map.mp hy
        exact ⟨_, .int z⟩
      · rw [List.mem_singleton.mp hy]
        exact ⟨_, ho15⟩
    · obtain ⟨z, _, rfl⟩ := List.mem_map.mp hy
      exact ⟨_, .int z⟩
  have hwR : ¬ IsRow H15 (.ref w) 200 := no_row_it (y := odd) e15 (by simp) hod
  clear k1 k3 k4 k5 k6 k7 k8 k9 k10 k11 k12 k13 k14 k15 kk k7_11 hv e811 e911
  walk_at "go"
  -- places that are none
  refine r_len (SqL.of eb15) ?_
  walk_at "go"
  refine n_lst (by show 1 ≤ 100000; decide) fun c1 J1 hc1 j1 f1 => ?_
  walk_at "go"
  refine n_lst (by show 7 ≤ 100000; decide) fun c2 J2 hc2 j2 f2 => ?_
  walk_at "go"
  have f12 := j2.keep _ _ f1 fun z => z
  have jj := j1.trans j2
  have P16 := P15.keep jj (fun z => z) (fun z => z)
  have e16 := jj.keep _ _ eb15 fun z => z
  refine for_l (fun i σ' H' => ∃ o6 o9, σ' = sl4 a t p b at_ w o6 none none o9 ∧ Kp No J2 H') ⟨none, none, rfl, Kp.refl⟩ (fun i σ' H' _ h => by obtain ⟨_, _, _, k⟩ := h; exact SqL.of (k.keep _ _ f2 fun z => z)) (fun i x σ' H' hi h => ?_) (fun σ' H' h => ?_)
  · obtain ⟨o6, o9, rfl, k⟩ := h
    have hx := List.mem_of_getElem? hi
    obtain ⟨hw, hT⟩ : isW x 0 ms.length = false ∧ Thing H' x := by
      simp only [List.mem_cons, List.not_mem_nil, or_false] at hx
      rcases hx with rfl | rfl | rfl | rfl | rfl | rfl | rfl
      · refine ⟨?_, th_int _⟩
        rw [List.length_map]
        exact isW_no (by omega)
      · exact ⟨rfl, th_int _⟩
      · exact ⟨rfl, th_bl _⟩
      · exact ⟨rfl, th_non⟩
      · exact ⟨rfl, th_str _⟩
      · exact ⟨rfl, th_ints (ns := [0]) (k.keep _ _ f12 fun z => z)⟩
      · refine ⟨?_, th_int _⟩
        exact isW_no (by omega)
    walk_at "go"
    unfold t_law_b1
    walk_at "go"
    have P' := P16.keep k (fun z => z) (fun z => z)
    refine s_4 ⟨p, l', ms, rfl, P', hT, (hwT.no jj).no k, .inl ⟨rfl, fun _ _ _ _ h => (by rw [hw] at h; cases h), fun _ H2 k2 => ?_, fun h => (by rw [hw] at h; cases h)⟩⟩
    walk_at "go"
    refine n_lst (by show 0 ≤ 100000; decide) fun c3 H3 hc3 k3 f3 => ?_
    walk_at "go"
    have P3 := (P'.keep k2 (fun z => z) (fun z => z)).keep k3 (fun z => z) (fun z => z)
    refine s_4 ⟨p, l', ms, rfl, P3, (hT.no k2).no k3, th_ints (ns := []) f3, .inl ⟨rfl, fun _ _ _ _ h => (by rw [hw] at h; cases h), fun _ H4 k4 => ?_, fun h => (by rw [hw] at h; cases h)⟩⟩
    walk_at "go"
    have P4 := P3.keep k4 (fun z => z) (fun z => z)
    refine s_4 ⟨p, l', ms, rfl, P4, ((hT.no k2).no k3).no k4, th_int 1, .inr ⟨rfl, fun h => (by rw [hw] at h; cases h), fun _ H5 k5 => ?_⟩⟩
    walk_at "go"
    refine n_lst (by show 3 ≤ 100000; decide) fun c6 H6 hc6 k6 f6 => ?_
    walk_at "go"
    refine n_lst (by show 1 ≤ 100000; decide) fun c7 H7 hc7 k7 f7 => ?_
    walk_at "go"
    refine r_rep f7 (by decide) (by decide) (by show 1 * 3 ≤ _; decide) fun c8 H8 hc8 k8 f8 => ?_
    have f8 : H8 c8 = some (.lst [.str "number", .str "number", .str "number"]) := f8
    walk_at "go"
    have dp : ∀ {x : Addr} {H : Hp}, H x = some (.lst [.str "number", .str "number", .str "number"]) → Dp K H (.ref x) (.list [.str "number", .str "number", .str "number"]) := fun h => .lst (SqL.of h) (.cons (.str _) (.cons (.str _) (.cons (.str _) .nil)))
    refine r_neS (dp (k8.keep _ _ (k7.keep _ _ f6 fun z => z) fun z => z)) (dp f8) ((fine_list (n := 0) fun d hd => ?_).mono (by decide)) ?_
    · simp only [List.mem_cons, List.not_mem_nil, or_false, or_self] at hd
      subst hd
      exact fine_str (by decide +kernel)
    have kA : Kp No H' H8 := (((((k2.trans k3).trans k4).trans k5).trans k6).trans k7).trans k8
    refine ⟨_, rfl, r_F ?_⟩
    exact held_same4 (o6 := some x) (o9 := some (.ref c6)) T (P'.keep kA (fun z => z) (fun z => z)) (kA.keep _ _ (k.keep _ _ e16 fun z => z) fun z => z) fun H9 k9 => ⟨some x, some (.ref c6), rfl, (k.trans kA).trans k9⟩
  obtain ⟨o6, o9, rfl, k17⟩ := h
  show t_law_r3 K E _ _ H'
  unfold t_law_r3
  have P17 := P16.keep k17 (fun z => z) (fun z => z)
  have e17 := k17.keep _ _ e16 fun z => z
  have hw17 := (hwT.no jj).no k17
  have hwR17 : ¬ IsRow H' (.ref w) 200 := fun h => hwR (h.back hwT (jj.trans k17))
  have hat : isW (.int at_) 0 ms.length = true := isW_of h70 (by omega)
  clear P16 e16 k17 jj j1 j2 f12 f1 f2
  walk_at "go"
  -- rows that are none
  refine r_tuple (SqL.of e17) fun c6 L6 hc6 l6 g6 => ?_
  walk_at "go"
  refine r_dnew fun c7 L7 hc7 l7 g7 => ?_
  walk_at "go"
  refine n_lst (by show 1 ≤ 100000; decide) fun c8 L8 hc8 l8 g8 => ?_
  walk_at "go"
  refine r_rep g8 (by decide) (by decide) (by show 1 * 201 ≤ _; decide) fun c9 L9 hc9 l9 g9 => ?_
  walk_at "go"
  refine n_lst (by show 7 ≤ 100000; decide) fun c10 L10 hc10 l10 g10 => ?_
  walk_at "go"
  have kA : Kp No H' L10 := (((l6.trans l7).trans l8).trans l9).trans l10
  have g6' := l10.keep _ _ (l9.keep _ _ (l8.keep _ _ (l7.keep _ _ g6 fun z => z) fun z => z) fun z => z) fun z => z
  have g7' := l10.keep _ _ (l9.keep _ _ (l8.keep _ _ g7 fun z => z) fun z => z) fun z => z
  have g9' := l10.keep _ _ g9 fun z => z
  have P20 := P17.keep kA (fun z => z) (fun z => z)
  have e20 := kA.keep _ _ e17 fun z => z
  have hw20 := hw17.no kA
  have hwR20 : ¬ IsRow L10 (.ref w) 200 := fun h => hwR17 (h.back hw17 kA)
  refine for_l (fun i σ' H' => ∃ o7, σ' = sl4 a t p b at_ w o6 o7 none o9 ∧ Kp No L10 H') ⟨none, rfl, Kp.refl⟩ (fun i σ' H' _ h => by obtain ⟨_, _, k⟩ := h; exact SqL.of (k.keep _ _ g10 fun z => z)) (fun i x σ' H' hi h => ?_) (fun σ' H' h => ?_)
  · obtain ⟨o7, rfl, k⟩ := h
    have hx := List.mem_of_getElem? hi
    obtain ⟨hw, hT⟩ : ¬ IsRow L10 x 200 ∧ Thing L10 x := by
      simp only [List.mem_cons, List.not_mem_nil, or_false] at hx
      rcases hx with rfl | rfl | rfl | rfl | rfl | rfl | rfl
      · exact ⟨hwR20, hw20⟩
      · exact ⟨no_row fun _ _ e h => (by cases e; rw [g6'] at h; cases h), th_tup g6'⟩
      · exact ⟨no_row fun _ _ e h => (by cases e), th_non⟩
      · exact ⟨no_row fun _ _ e h => (by cases e), th_int _⟩
      · exact ⟨no_row fun _ _ e h => (by cases e), th_str _⟩
      · exact ⟨no_row fun _ _ e h => (by cases e; rw [g7'] at h; cases h), th_dK g7'⟩
      · exact ⟨no_row_len g9' (by decide), th_ints (ns := List.replicate 201 0) g9'⟩
    have hw2 : ¬ IsRow H' x 200 := fun hr => hw (hr.back hT k)
    walk_at "go"
    unfold t_law_b2
    walk_at "go"
    have P' := P20.keep k (fun z => z) (fun z => z)
    refine s_4 ⟨p, l', ms, rfl, P', th_int _, hT.no k, .inl ⟨rfl, fun _ a' ms' H2 _ ea h1 hlen h3 k2 _ => ?_, fun h => (by rw [hat] at h; cases h), fun _ _ H2 k2 => ?_⟩⟩
    · exact absurd ⟨a', ms', ea, h1, by omega, h3⟩ hw2
    walk_at "go"
    refine r_ne rfl ?_
    walk_at "go"
    refine r_F ?_
    exact held_same4 (o7 := some x) T (P'.keep k2 (fun z => z) (fun z => z)) (k2.keep _ _ (k.keep _ _ e20 fun z => z) fun z => z) fun H3 k3 => ⟨some x, rfl, (k.trans k2).trans k3⟩
  obtain ⟨o7, rfl, k21⟩ := h
  show t_law_r2 K E _ _ H'
  unfold t_law_r2
  have P21 := P20.keep k21 (fun z => z) (fun z => z)
  have e21 := k21.keep _ _ e20 fun z => z
  walk_at "go"
  refine n_lst (by show 1 ≤ 100000; decide) fun c1 J1 hc1 j1 f1 => ?_
  walk_at "go"
  refine n_lst (by show 7 ≤ 100000; decide) fun c2 J2 hc2 j2 f2 => ?_
  walk_at "go"
  have f12 := j2.keep _ _ f1 fun z => z
  have jj := j1.trans j2
  have P22 := P21.keep jj (fun z => z) (fun z => z)
  have e22 := jj.keep _ _ e21 fun z => z
  refine for_l (fun i σ' H' => ∃ o8, σ' = sl4 a t p b at_ w o6 o7 o8 o9 ∧ Kp No J2 H') ⟨none, rfl, Kp.refl⟩ (fun i σ' H' _ h => by obtain ⟨_, _, k⟩ := h; exact SqL.of (k.keep _ _ f2 fun z => z)) (fun i x σ' H' hi h => ?_) (fun σ' H' h => ?_)
  · obtain ⟨o8, rfl, k⟩ := h
    have hx := List.mem_of_getElem? hi
    obtain ⟨hw, hT⟩ : isW x 1 200 = false ∧ Thing H' x := by
      simp only [List.mem_cons, List.not_mem_nil, or_false] at hx
      rcases hx with rfl | rfl | rfl | rfl | rfl | rfl | rfl
      · exact ⟨rfl, th_int _⟩
      · exact ⟨rfl, th_int _⟩
      · exact ⟨rfl, th_int _⟩
      · exact ⟨rfl, th_bl _⟩
      · exact ⟨rfl, th_non⟩
      · exact ⟨rfl, th_str _⟩
      · exact ⟨rfl, th_ints (ns := [1]) (k.keep _ _ f12 fun z => z)⟩
    walk_at "go"
    unfold t_law_b3
    walk_at "go"
    refine s_4 ⟨p, l', ms, rfl, P22.keep k (fun z => z) (fun z => z), th_int _, hT, .inr ⟨rfl, fun _ h => (by rw [hw] at h; cases h), fun _ H2 k2 => ?_⟩⟩
    walk_at "go"
    refine r_ne rfl ?_
    walk_at "go"
    refine r_F ?_
    exact ⟨some x, rfl, k.trans k2⟩
  obtain ⟨o8, rfl, k23⟩ := h
  show t_law_r1 K E _ _ H'
  unfold t_law_r1
  have P23 := P22.keep k23 (fun z => z) (fun z => z)
  have e23 := k23.keep _ _ e22 fun z => z
  walk_at "go"
  refine r_len (SqL.of e23) ?_
  walk_at "go"
  rw [List.length_map]
  refine s_4 ⟨p, l', ms, rfl, P23, th_int _, th_int 200, .inr ⟨rfl, fun _ _ H2 k2 => ?_, fun h => ?_⟩⟩
  rotate_left
  · rw [isW_of (by omega) (by omega)] at h
    rcases h with h | h <;> cases h
  walk_at "go"
  refine r_eq rfl ?_
  walk_at "go"
  refine r_T ?_
  walk_at "go"
  refine n_lst (by show 1 ≤ 100000; decide) fun b3 H3 hb3 k3 f3 => ?_
  walk_at "go"
  refine r_rep f3 (by decide) (by decide) (by show 1 * 200 ≤ _; decide) fun b4 H4 hb4 k4 f4 => ?_
  have f4 : H4 b4 = some (.lst ((List.replicate 200 (0 : Int)).map V.int)) := f4
  walk_at "go"
  have P4 := ((P23.keep k2 (fun z => z) (fun z => z)).keep k3 (fun z => z) (fun z => z)).keep k4 (fun z => z) (fun z => z)
  refine s_4 ⟨p, l', ms, rfl, P4, th_int _, th_ints f4, .inl ⟨rfl, fun _ _ _ H5 _ _ _ _ _ _ _ => ?_, fun h => (by rw [hat] at h; cases h), fun _ hn => absurd ⟨b4, List.replicate 200 0, rfl, f4, by decide, fun z hz => by rw [List.eq_of_mem_replicate hz]; decide⟩ hn⟩⟩
  walk_at "go"
  refine r_eq rfl ?_
  exact q _
theorem sc_law : FnScope ["script", "town", "file", "row", "at", "worse", "place", "thing", "most", "found"] ["script"] (defScope s_law) := ⟨rfl, rfl, rfl, by decide +kernel, rfl, by decide +kernel, by decide +kernel⟩
theorem bd_law {K : PySem.W.Frag} : Bd K d_law ["script"] [] := fun fd F => ⟨[], .nil, FunD.bindsN F fun _ _ _ _ _ _ us hl => match us, hl with | [_], _ => rfl⟩
theorem ok_law {P : Program} {w : World} {K : PySem.W.Frag} {mg : Str → Option Value} {base : Heap} (T : Txt K mg) : Ok P w K mg base d_law 5 ["script"] (sp_law K) := by
  refine Ok.of (k := 4) T.d_law sc_law (fun vs H Q E h => ?_) (fun cdv A outer s H vs Q E hr h => ?_)
  · obtain ⟨a0, rfl, h⟩ := h
    rfl
  · obtain ⟨a0, rfl, h⟩ := h
    exact ⟨t_law K E, (pss_cons (ps_set (i := 1) sc_law.nd rfl (Or.inl rfl) (q_call (ok_law_town T) bd_law_town T.g_law_town hr (by decide) (by rfl) pD (pa_cons (pv 0) pa_nil))) (pss_cons (ps_set (i := 2) sc_law.nd rfl (Or.inl rfl) (q_make0 (ok_File_init T) T.n_File bd_File_init T.g_File hr (by decide) (by rfl) pD)) (pss_cons (ps_set (i := 3) sc_law.nd rfl (Or.inl rfl) (q_call (ok_law_row T) bd_law_row T.g_law_row hr (by decide) (by rfl) pD (pa_cons (pv 1) (pa_cons pe_int pa_nil)))) (pss_cons (ps_expr (q_meth (ok_File_put_at T) (pv 2) T.c_File T.m_File_put_at bd_File_put_at hr (by decide) pD (pa_cons pe_int (pa_cons (pv 3) pa_nil)))) (pss_cons (ps_set (i := 4) sc_law.nd rfl (Or.inl rfl) (q_call (ok_law_draw T) bd_law_draw T.g_law_draw hr (by decide) (by rfl) pD (pa_cons (pv 1) (pa_cons (pe_op op_add (pe_callB c_len (by rfl) T.f_len PySem.boot_len (pa_cons (pv 3) pa_nil)) pe_int) pa_nil)))) (pss_cons (ps_set (i := 5) sc_law.nd rfl (Or.inl rfl) (pe_op op_cat (pe_op op_cat (pe_slice sl_list (pv 3) po_none (po_some (pv 4))) (pe_lst (pa_cons (q_call (ok_law_pick T) bd_law_pick T.g_law_pick hr (by decide) (by rfl) pD (pa_cons (pv 1) (pa_cons (pe_lst (pa_cons pe_int (pa_cons (pe_op op_sub pe_int pe_int) (pa_cons pe_bl (pa_cons pe_non (pa_cons pe_str (pa_cons (pe_lst (pa_cons pe_int pa_nil)) pa_nil))))))) pa_nil))) pa_nil))) (pe_slice sl_list (pv 3) (po_some (pv 4)) po_none))) (pss_cons (ps_for pO rfl (pi_list (pe_lst (pa_cons (pe_op op_add (pe_callB c_len (by rfl) T.f_len PySem.boot_len (pa_cons (pv 3) pa_nil)) pe_int) (pa_cons (pe_op op_sub pe_int pe_int) (pa_cons pe_bl (pa_cons pe_non (pa_cons pe_str (pa_cons (pe_lst (pa_cons pe_int pa_nil)) (pa_cons pe_int pa_nil))))))))) (pg_name (i := 6) sc_law.nd rfl (Or.inl rfl)) (pss_cons (ps_set (i := 9) sc_law.nd rfl (Or.inl rfl) (pe_lst (pa_cons (q_call (ok_law_asked T) bd_law_asked T.g_law_asked hr (by decide) (by rfl) pD (pa_cons pe_int (pa_cons (pv 2) (pa_cons (pv 6) (pa_cons (pv 5) pa_nil))))) (pa_cons (q_call (ok_law_asked T) bd_law_asked T.g_law_asked hr (by decide) (by rfl) pD (pa_cons pe_int (pa_cons (pv 2) (pa_cons (pv 6) (pa_cons (pe_lst pa_nil) pa_nil))))) (pa_cons (q_call (ok_law_asked T) bd_law_asked T.g_law_asked hr (by decide) (by rfl) pD (pa_cons pe_int (pa_cons (pv 2) (pa_cons (pv 6) (pa_cons pe_int pa_nil))))) pa_nil))))) (pss_one (ps_if (PW.pt (pw_or (pt_cmpR (op_neD hr.units) (pv 9) (pe_op op_rep (pe_lst (pa_cons pe_str pa_nil)) pe_int) (nomark _)) (pw_or1 (pt_cmpR (op_neD hr.units) (q_meth0 (ok_File_held T) (pv 2) T.c_File T.m_File_held bd_File_held hr (by decide) pD) (pv 3) (nomark _))))) (pss_one (ps_ret pe_bl)) pss_nil)))) (pss_cons (ps_for pO rfl (pi_list (pe_lst (pa_cons (pv 5) (pa_cons (pe_callTy c_tuple (by rfl) T.f_tuple (by decide +kernel) (pa_cons (pv 3) pa_nil)) (pa_cons pe_non (pa_cons pe_int (pa_cons pe_str (pa_cons pe_dnewK (pa_cons (pe_op op_rep (pe_lst (pa_cons pe_int pa_nil)) pe_int) pa_nil))))))))) (pg_name (i := 7) sc_law.nd rfl (Or.inl rfl)) (pss_one (ps_if (PW.pt (pw_or (pt_cmpR op_ne (q_call (ok_law_asked T) bd_law_asked T.g_law_asked hr (by decide) (by rfl) pD (pa_cons pe_int (pa_cons (pv 2) (pa_cons (pv 4) (pa_cons (pv 7) pa_nil))))) pe_str (nomark _)) (pw_or1 (pt_cmpR (op_neD hr.units) (q_meth0 (ok_File_held T) (pv 2) T.c_File T.m_File_held bd_File_held hr (by decide) pD) (pv 3) (nomark _))))) (pss_one (ps_ret pe_bl)) pss_nil))) (pss_cons (ps_for pO rfl (pi_list (pe_lst (pa_cons pe_int (pa_cons pe_int (pa_cons (pe_op op_sub pe_int pe_int) (pa_cons pe_bl (pa_cons pe_non (pa_cons pe_str (pa_cons (pe_lst (pa_cons pe_int pa_nil)) pa_nil))))))))) (pg_name (i := 8) sc_law.nd rfl (Or.inl rfl)) (pss_one (ps_if (pt_cmpR op_ne (q_call (ok_law_asked T) bd_law_asked T.g_law_asked hr (by decide) (by rfl) pD (pa_cons pe_int (pa_cons (pv 2) (pa_cons (pv 4) (pa_cons (pv 8) pa_nil))))) pe_str (nomark _)) (pss_one (ps_ret pe_bl)) pss_nil))) (pss_one (ps_ret (pe_and (pe_cmpR op_eq (q_call (ok_law_asked T) bd_law_asked T.g_law_asked hr (by decide) (by rfl) pD (pa_cons pe_int (pa_cons (pv 2) (pa_cons (pe_callB c_len (by rfl) T.f_len PySem.boot_len (pa_cons (pv 3) pa_nil)) (pa_cons pe_int pa_nil))))) pe_str (nomark _)) (pe_one (pe_cmpR op_eq (q_call (ok_law_asked T) bd_law_asked T.g_law_asked hr (by decide) (by rfl) pD (pa_cons pe_int (pa_cons (pv 2) (pa_cons (pv 4) (pa_cons (pe_op op_rep (pe_lst (pa_cons pe_int pa_nil)) pe_int) pa_nil))))) pe_str (nomark _))))))))))))))), pure_law T.toTxK ⟨a0, rfl, h⟩⟩
theorem law_at {P : Program} {w : World} {K : PySem.W.Frag} {mg : Str → Option Value} {base : Heap} {fd : FuncData} (T : Txt K mg) (F : DFun K d_law fd) : FnOk P w K mg base (L2.CX P w) 5 (He.fAd K d_law.at_) fd ["script"] (sp_law K) := by
  obtain ⟨fd2, F2, G⟩ := (ok_law (P := P) (w := w) (base := base) T).ex
  have e : fd2 = fd := fd_same F2 F
  exact e ▸ G
end Ph
namespace Ph
open PySem PySem.Spec PyProof.Rows L2
def fn : List He.DefD := ([d_is_whole, d_look_number, d_look_bytes, d_File_init, d_File_put_at, d_File_take_at, d_File_held, d_law_town, d_law_draw, d_law_pick, d_law_refusal, d_law_byte, d_law_row, d_law_asked, d_law] : List He.DefD)
def fa : List He.Fa := ([.glo "is_whole", .glo "look_number", .glo "look_bytes", .glo "_law_town", .glo "_law_draw", .glo "_law_pick", .glo "_law_refusal", .glo "_law_byte", .glo "_law_row", .glo "_law_asked", .int "MOST_BYTES" 200, .free "len", .free "list", .free "isinstance", .free "int", .free "bool", .free "all", .free "range", .free "tuple", .free "ValueError"] : List He.Fa) ++ ([.glo "HouseError", .exc "HouseError", .glo "NoTask", .exc "NoTask", .glo "Busy", .exc "Busy", .glo "NoDoor", .exc "NoDoor", .glo "WrongDoor", .exc "WrongDoor", .glo "BadBytes", .exc "BadBytes", .glo "BadNumber", .exc "BadNumber", .glo "BadName", .exc "BadName", .glo "TooMany", .exc "TooMany", .glo "Broken", .glo "NotAble"] : List He.Fa) ++ ([.exc "NotAble", .glo "File", .cls "File", .mkr "File", .meth "File" "put_at", .meth "File" "take_at", .meth "File" "held", .meth "File" "__len__", .noat "File" "some", .exm "NoTask" "HouseError" true, .exm "Busy" "HouseError" true, .exm "NoDoor" "HouseError" true, .exm "WrongDoor" "HouseError" true, .exm "BadBytes" "HouseError" true, .exm "BadNumber" "HouseError" true, .exm "BadName" "HouseError" true, .exm "TooMany" "HouseError" true, .exm "NotAble" "HouseError" true, .glo "law"] : List He.Fa)
def ex : PySem.W.Frag → Bool := exAll (([fun K => excCB K (He.ga K "NoTask"), fun K => kitsB K (He.ga K "NoTask") (refKits 0), fun K => excCB K (He.ga K "Busy"), fun K => kitsB K (He.ga K "Busy") (refKits 1), fun K => excCB K (He.ga K "NoDoor"), fun K => kitsB K (He.ga K "NoDoor") (refKits 2), fun K => excCB K (He.ga K "WrongDoor"), fun K => kitsB K (He.ga K "WrongDoor") (refKits 3), fun K => excCB K (He.ga K "BadBytes"), fun K => kitsB K (He.ga K "BadBytes") (refKits 4), fun K => excCB K (He.ga K "BadNumber"), fun K => kitsB K (He.ga K "BadNumber") (refKits 5), fun K => excCB K (He.ga K "BadName"), fun K => kitsB K (He.ga K "BadName") (refKits 6), fun K => excCB K (He.ga K "TooMany"), fun K => kitsB K (He.ga K "TooMany") (refKits 7), fun K => excCB K (He.ga K "NotAble"), fun K => kitsB K (He.ga K "NotAble") (refKits 9)] : List (PySem.W.Frag → Bool)))
def names : List Str := (["__name__", "HouseError", "NoTask", "Busy", "NoDoor", "WrongDoor", "BadBytes", "BadNumber", "BadName", "TooMany", "Broken", "NotAble", "is_whole", "look_number", "look_bytes", "MOST_BYTES", "File", "_law_town", "_law_draw", "_law_pick"] : List Str) ++ (["_law_refusal", "_law_byte", "_law_row", "_law_asked"] : List Str)
theorem txk_of {K : PySem.W.Frag} (c : SaysP fa fn ex K) : TxK K where
  x_HouseError := xok (He.exc_ok (c.d.fact 21 rfl))
  x_NoTask := xok (He.exc_ok (c.d.fact 23 rfl))
  x_Busy := xok (He.exc_ok (c.d.fact 25 rfl))
  x_NoDoor := xok (He.exc_ok (c.d.fact 27 rfl))
  x_WrongDoor := xok (He.exc_ok (c.d.fact 29 rfl))
  x_BadBytes := xok (He.exc_ok (c.d.fact 31 rfl))
  x_BadNumber := xok (He.exc_ok (c.d.fact 33 rfl))
  x_BadName := xok (He.exc_ok (c.d.fact 35 rfl))
  x_TooMany := xok (He.exc_ok (c.d.fact 37 rfl))
  x_NotAble := xok (He.exc_ok (c.d.fact 40 rfl))
  c_File := He.cls_ok (c.d.fact 42 rfl)
  n_File := He.mkr_ok (c.d.fact 43 rfl)
  m_File_put_at := He.meth_ok (c.d.fact 44 rfl)
  m_File_take_at := He.meth_ok (c.d.fact 45 rfl)
  m_File_held := He.meth_ok (c.d.fact 46 rfl)
  m_File_len := He.meth_ok (c.d.fact 47 rfl)
  a_File_some := He.noat_ok (c.d.fact 48 rfl)
  e_NoTask := excCB_ok (exAll_at c.x 0 rfl)
  i_NoTask := kitsB_ok (exAll_at c.x 1 rfl)
  z_NoTask := He.exm_ok (c.d.fact 49 rfl)
  e_Busy := excCB_ok (exAll_at c.x 2 rfl)
  i_Busy := kitsB_ok (exAll_at c.x 3 rfl)
  z_Busy := He.exm_ok (c.d.fact 50 rfl)
  e_NoDoor := excCB_ok (exAll_at c.x 4 rfl)
  i_NoDoor := kitsB_ok (exAll_at c.x 5 rfl)
  z_NoDoor := He.exm_ok (c.d.fact 51 rfl)
  e_WrongDoor := excCB_ok (exAll_at c.x 6 rfl)
  i_WrongDoor := kitsB_ok (exAll_at c.x 7 rfl)
  z_WrongDoor := He.exm_ok (c.d.fact 52 rfl)
  e_BadBytes := excCB_ok (exAll_at c.x 8 rfl)
  i_BadBytes := kitsB_ok (exAll_at c.x 9 rfl)
  z_BadBytes := He.exm_ok (c.d.fact 53 rfl)
  e_BadNumber := excCB_ok (exAll_at c.x 10 rfl)
  i_BadNumber := kitsB_ok (exAll_at c.x 11 rfl)
  z_BadNumber := He.exm_ok (c.d.fact 54 rfl)
  e_BadName := excCB_ok (exAll_at c.x 12 rfl)
  i_BadName := kitsB_ok (exAll_at c.x 13 rfl)
  z_BadName := He.exm_ok (c.d.fact 55 rfl)
  e_TooMany := excCB_ok (exAll_at c.x 14 rfl)
  i_TooMany := kitsB_ok (exAll_at c.x 15 rfl)
  z_TooMany := He.exm_ok (c.d.fact 56 rfl)
  e_NotAble := excCB_ok (exAll_at c.x 16 rfl)
  i_NotAble := kitsB_ok (exAll_at c.x 17 rfl)
  z_NotAble := He.exm_ok (c.d.fact 57 rfl)
theorem txt_of {K : PySem.W.Frag} {h : Heap} {mg : Str → Option Value} (X : K.In h) (G : h.Ns mainGlobals mg) (c : SaysP fa fn ex K) : Txt K mg where
  toTxK := txk_of c
  d_is_whole := c.d.def_ 0 rfl
  g_is_whole := He.glo_ok X G (c.d.fact 0 rfl)
  d_look_number := c.d.def_ 1 rfl
  g_look_number := He.glo_ok X G (c.d.fact 1 rfl)
  d_look_bytes := c.d.def_ 2 rfl
  g_look_bytes := He.glo_ok X G (c.d.fact 2 rfl)
  d_File_init := c.d.def_ 3 rfl
  d_File_put_at := c.d.def_ 4 rfl
  d_File_take_at := c.d.def_ 5 rfl
  d_File_held := c.d.def_ 6 rfl
  d_law_town := c.d.def_ 7 rfl
  g_law_town := He.glo_ok X G (c.d.fact 3 rfl)
  d_law_draw := c.d.def_ 8 rfl
  g_law_draw := He.glo_ok X G (c.d.fact 4 rfl)
  d_law_pick := c.d.def_ 9 rfl
  g_law_pick := He.glo_ok X G (c.d.fact 5 rfl)
  d_law_refusal := c.d.def_ 10 rfl
  g_law_refusal := He.glo_ok X G (c.d.fact 6 rfl)
  d_law_byte := c.d.def_ 11 rfl
  g_law_byte := He.glo_ok X G (c.d.fact 7 rfl)
  d_law_row := c.d.def_ 12 rfl
  g_law_row := He.glo_ok X G (c.d.fact 8 rfl)
  d_law_asked := c.d.def_ 13 rfl
  g_law_asked := He.glo_ok X G (c.d.fact 9 rfl)
  d_law := c.d.def_ 14 rfl
  k_MOST_BYTES := con_int (He.int_ok X G (c.d.fact 10 rfl))
  f_len := He.free_ok X G (c.d.fact 11 rfl)
  f_list := He.free_ok X G (c.d.fact 12 rfl)
  f_isinstance := He.free_ok X G (c.d.fact 13 rfl)
  f_int := He.free_ok X G (c.d.fact 14 rfl)
  f_bool := He.free_ok X G (c.d.fact 15 rfl)
  f_all := He.free_ok X G (c.d.fact 16 rfl)
  f_range := He.free_ok X G (c.d.fact 17 rfl)
  f_tuple := He.free_ok X G (c.d.fact 18 rfl)
  f_ValueError := He.free_ok X G (c.d.fact 19 rfl)
  g_HouseError := He.glo_ok X G (c.d.fact 20 rfl)
  g_NoTask := He.glo_ok X G (c.d.fact 22 rfl)
  g_Busy := He.glo_ok X G (c.d.fact 24 rfl)
  g_NoDoor := He.glo_ok X G (c.d.fact 26 rfl)
  g_WrongDoor := He.glo_ok X G (c.d.fact 28 rfl)
  g_BadBytes := He.glo_ok X G (c.d.fact 30 rfl)
  g_BadNumber := He.glo_ok X G (c.d.fact 32 rfl)
  g_BadName := He.glo_ok X G (c.d.fact 34 rfl)
  g_TooMany := He.glo_ok X G (c.d.fact 36 rfl)
  g_Broken := He.glo_ok X G (c.d.fact 38 rfl)
  g_NotAble := He.glo_ok X G (c.d.fact 39 rfl)
  g_File := He.glo_ok X G (c.d.fact 41 rfl)
abbrev R : PySem.W.OpenRow := PySem.W.OpenLaw.row PySem.Challenge.rw_pipehouse_k04_files_refused
/-- what an object leads to, a class to its names alone -/
def kidsA (o : Obj) : List Addr :=
  match o.data with
  | .cls cd => [cd.ns] ++ o.dict.toList
  | _ => He.refsD o
def nextA (g : Addr → Option Obj) (as : List Addr) : List Addr := as.flatMap fun a => ((g a).map kidsA).getD []
/-- level by level, nothing twice looked at -/
def asA (g : Addr → Option Obj) : Nat → List Addr → List Addr
  | 0, as => as
  | n + 1, as => as ++ asA g n (nextA g as)
abbrev hk : PySem.W.Hook := hookP (fun g => asA g 5 [mainGlobals]) fa fn ex
def ob (s : PySem.W.SharedT) : AlP := obsP (fun g => asA g 5 [mainGlobals]) fa fn ex (HandSHeadRun.getT s)
theorem ob_eq (s : PySem.W.SharedT) : ob s = hk.obs s.abs := obsP_eq (HandSHeadRun.getT_eq s)
set_option maxHeartbeats 0 in
theorem run (w : World) : HandSHeadRun.RunEq R (PySem.W.view R.prog [26]) hk ob 13000 names w := by
  intro os
  kernel_rfl
theorem facts {P : Program} {w : World} {K : PySem.W.Frag} {h : Heap} {mg : Str → Option Value} {f : Addr} (X : K.In h) (G : h.Ns mainGlobals mg) (hfa : mg ("law" : Str) = some (.ref f)) (c : SaysP fa fn ex K) :
    ∃ fd : FuncData, (∀ (s : Shared) (v : Value), BindsTo s fd ⟨[v], []⟩ [("script", v)]) ∧ ∀ base : Heap, K.In base → base.Ns mainGlobals mg → FnOk P w K mg base CX0 5 f fd ["script"] (sp_law K) := by
  have T := txt_of X G c
  obtain ⟨fd, F⟩ := T.d_law
  have e := hfa.symm.trans (He.glo_ok X G (c.d.fact 58 (f := .glo "law") rfl))
  cases e
  have b := FunD.bindsA (ps := ["script"]) F fun _ _ _ _ _ _ us hl => match us, hl with | [_], _ => rfl
  refine ⟨fd, fun s v => b s [v] rfl, fun base _ _ => ?_⟩
  have sc := sc_law
  exact fn_calm (law_at T F) fun vs H Q E h => h
end Ph
open PySem PySem.W PySem.Calls PyProof.Rows in
set_option maxRecDepth 100000 in
set_option maxHeartbeats 0 in
theorem PySem.Challenge.cw_pipehouse_k04_files_refused_holds : PySem.Challenge.rw_pipehouse_k04_files_refused.Holds := by
  w_on; o_law
  refine HandSHeadRun.head_any (r := OpenLaw.row PySem.Challenge.rw_pipehouse_k04_files_refused) (q := view (OpenLaw.row PySem.Challenge.rw_pipehouse_k04_files_refused).prog [26]) (H := Ph.hk) (ob := Ph.ob) (M := 13000) (loose := Ph.names) (d := HandSHeadRun.topDef (OpenLaw.row PySem.Challenge.rw_pipehouse_k04_files_refused).prog 26) (kwd := []) Ph.ob_eq
    (by kernel_rfl) (fun s => by kernel_rfl) Ph.run (by kernel_rfl) (by kernel_rfl) (by kernel_rfl) (by rfl) (by first | assumption | decide +kernel) (by decide +kernel) ⟨rfl, rfl, rfl, rfl, rfl, by decide +kernel⟩ ?hw ?hc
  case hw => w_witness2
  case hc =>
    refine L2.walk_ofE (l := PySem.Challenge.rw_pipehouse_k04_files_refused) (n := 63) (k := 5) (x := "script") (CX := L2.CX0) rfl (by decide) (by kernel_rfl) ⟨rfl, by decide, by decide⟩ ?F (fun _ _ _ _ z => z)
    intro w mg fa h Y G hmg0
    obtain ⟨K, KX, c⟩ := Y
    have hmg : mg ("law" : PySem.Str) = some (.ref fa) := by
      have e : (HandSHeadRun.topDef (OpenLaw.row PySem.Challenge.rw_pipehouse_k04_files_refused).prog 26).name = ("law" : PySem.Str) := by kernel_rfl
      rw [← e]
      exact hmg0
    obtain ⟨fd, hb, hF⟩ := Ph.facts (P := (PySem.Challenge.rw_pipehouse_k04_files_refused).prog) (w := w) KX G hmg c
    exact ⟨K, fd, Ph.sp_law K, KX, hb, fun H a ns hl _ hS => ⟨_, rfl, a, ns, rfl, hS, hl, fun _ => rfl⟩, hF⟩
