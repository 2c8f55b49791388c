import PyProof.Rows.All
import Wide.All
import OpenK.AllK
import Wide.FinOn
import HandS.ForMost
import HandS.ForExc
import HandS.Defaults
import HandS.HeadHook1
import HandS.HeadHook2
import HandS.IsInst
import HandS.Steps
import HandS.MakeKw
import HandS.MakeKwOnly
import KE.KStateDown
import Lean
import HandS.More
import HandS.Head0
import HandS.Head1
import HandS.Head2
import HandS.HeadEnd
import PySem.Challenge.RW_pipehouse_k01_whole_pipes
set_option Elab.async false
set_option linter.all false
set_option maxRecDepth 100000
set_option maxHeartbeats 4000000
namespace Ph
open PySem PySem.Spec PyProof.Rows L2
/-! ### heaps that grow and change -/
/-- what F does not touch is kept; what is there stays there -/
structure Kp (F : Addr → Prop) (H H2 : Hp) : Prop where
  keep : ∀ b o, H b = some o → ¬ F b → H2 b = some o
  free : ∀ b, H2 b = none → H b = none
def No : Addr → Prop := fun _ => False
def One (a : Addr) : Addr → Prop := fun b => b = a
def Two (a c : Addr) : Addr → Prop := fun b => b = a ∨ b = c
theorem Kp.refl {F : Addr → Prop} {H : Hp} : Kp F H H := ⟨fun _ _ h _ => h, fun _ h => h⟩
theorem Kp.trans {F : Addr → Prop} {H H1 H2 : Hp} (a : Kp F H H1) (b : Kp F H1 H2) : Kp F H H2 :=
  ⟨fun x o h n => b.keep x o (a.keep x o h n) n, fun x h => a.free x (b.free x h)⟩
theorem Kp.mono {F G : Addr → Prop} {H H1 : Hp} (a : Kp F H H1) (h : ∀ b, F b → G b) : Kp G H H1 :=
  ⟨fun x o e n => a.keep x o e fun z => n (h x z), a.free⟩
theorem Kp.no {F : Addr → Prop} {H H1 : Hp} (a : Kp No H H1) : Kp F H H1 := a.mono fun _ z => z.elim
theorem Kp.new {F : Addr → Prop} {H : Hp} {p : Addr} {o : HO} (h : H p = none) : Kp F H (upd H p o) :=
  ⟨fun x u e _ => by rw [upd_ne (ne_of_none e h)]; exact e, fun x e => by
    by_cases z : x = p
    · rw [z]; exact h
    · rw [upd_ne z] at e; exact e⟩
theorem Kp.put {F : Addr → Prop} {H : Hp} {p : Addr} {o u : HO} (h : H p = some u) (hf : F p) : Kp F H (upd H p o) :=
  ⟨fun x w e n => by rw [upd_ne (fun z => n (by rw [z]; exact hf))]; exact e, fun x e => by
    by_cases z : x = p
    · rw [z, upd_same] at e; cases e
    · rw [upd_ne z] at e; exact e⟩
theorem Kp.put1 {H : Hp} {p : Addr} {o u : HO} (h : H p = some u) : Kp (One p) H (upd H p o) := Kp.put h rfl
/-- changes of what is new since H are none of H -/
theorem Kp.fresh {F G : Addr → Prop} {H H1 H2 : Hp} (a : Kp F H H1) (b : Kp G H1 H2) (h : ∀ x, G x → F x ∨ H x = none) : Kp F H H2 :=
  ⟨fun x o e n => b.keep x o (a.keep x o e n) fun z => (h x z).elim n fun q => (by rw [q] at e; cases e), fun x e => a.free x (b.free x e)⟩
theorem Kp.some {F : Addr → Prop} {H H1 : Hp} (a : Kp F H H1) {x : Addr} {o : HO} (h : H x = Option.some o) : ∃ u, H1 x = Option.some u := by
  cases e : H1 x with
  | none => rw [a.free x e] at h; cases h
  | some u => exact ⟨u, rfl⟩
theorem Kp.sq {K : PySem.W.Frag} {F : Addr → Prop} {H H1 : Hp} (k : Kp F H H1) {a : Addr} {xs : List V} (n : ¬ F a) (h : SqL K H a xs) : SqL K H1 a xs := by
  rcases h with (h | ⟨o, h⟩) | h
  · exact .inl (.inl (k.keep _ _ h n))
  · exact .inl (.inr ⟨o, k.keep _ _ h n⟩)
  · exact .inr h
theorem Kp.sqt {K : PySem.W.Frag} {F : Addr → Prop} {H H1 : Hp} (k : Kp F H H1) {a : Addr} {xs : List V} (n : ¬ F a) (h : SqT K H a xs) : SqT K H1 a xs := by
  rcases h with (h | ⟨o, h⟩) | h
  · exact .inl (.inl (k.keep _ _ h n))
  · exact .inl (.inr ⟨o, k.keep _ _ h n⟩)
  · exact .inr h
/-- a step at a goal over a new object: the heap by what is known of it -/
theorem new_at {H : Hp} {p : Addr} {o : HO} {G : Hp → Prop} (h : H p = none) (k : ∀ H2, Kp No H H2 → H2 p = some o → G H2) : G (upd H p o) := k _ (Kp.new h) upd_same
theorem put_at {H : Hp} {p : Addr} {o u : HO} {G : Hp → Prop} (h : H p = some u) (k : ∀ H2, Kp (One p) H H2 → H2 p = some o → G H2) : G (upd H p o) := k _ (Kp.put1 h) upd_same
theorem lt_line {n : Nat} (h : n ≤ 100000) : n ≤ sizeLine := Nat.le_trans h (by decide)
theorem lt_line1 {n : Nat} (h : n < 100000) : n < sizeLine := Nat.lt_of_lt_of_le h (by decide)

/-! ### readings, a step each -/
section
variable {D : Ends} {σ : L2.St} {H : Hp} {Q : VK} {ta tb te tc tv : TE} {t u : TS} {c c' : TT} {g : TG} {i : Nat} {v : V} {K : PySem.W.Frag} {r : R2} {E : XK} {sp : Sp}
theorem r_seq (h : t { D with nx := u D } σ H) : tSeq t u D σ H := h
theorem r_next (h : D.nx σ H) : tNext D σ H := h
theorem r_set (h : te σ H fun x H1 => D.nx (σ.set i (some x)) H1) : tAsg te (gName i) D σ H := h
theorem r_asg (h : te σ H fun x H1 => g x σ H1 D.nx) : tAsg te g D σ H := h
theorem r_drop (h : te σ H fun _ H1 => D.nx σ H1) : tDrop te D σ H := h
theorem r_ret (h : te σ H D.rt) : tRet te D σ H := h
theorem r_if (h : c σ H fun b H1 => if b = true then t D σ H1 else u D σ H1) : tIfS c t u D σ H := h
theorem r_var (h : σ[i]? = some (some v)) (q : Q v H) : tVar i σ H Q := ⟨v, h, q⟩
theorem r_c (q : Q v H) : tC v σ H Q := q
theorem r_op (h : ta σ H fun x H1 => tb σ H1 fun y H2 => r x y H2 Q) : tOp r ta tb σ H Q := h
theorem r_un {r : V → Hp → VK → Prop} (h : ta σ H fun x H1 => r x H1 Q) : tUn r ta σ H Q := h
theorem r_I0 {g : Int → Int → V} {i j : Int} (q : Q (g i j) H) : rI0 g (.int i) (.int j) H Q := ⟨i, j, rfl, rfl, q⟩
theorem r_I {C : Int → Int → Prop} {g : Int → Int → V} {i j : Int} (hc : C i j) (q : Q (g i j) H) : rI C g (.int i) (.int j) H Q := ⟨i, j, rfl, rfl, hc, q⟩
theorem r_eq {x y : V} (h : scal x y = true) (q : Q (.bl (decide (x = y))) H) : rEq x y H Q := ⟨h, q⟩
theorem r_ne {x y : V} (h : scal x y = true) (q : Q (.bl (!decide (x = y))) H) : rNe x y H Q := ⟨h, q⟩
theorem r_nil {Q : List V → Hp → Prop} (q : Q [] H) : tNil σ H Q := q
theorem r_cons {tr : TA} {Q : List V → Hp → Prop} (h : ta σ H fun x H1 => tr σ H1 fun xs H2 => Q (x :: xs) H2) : tCons ta tr σ H Q := h
theorem r_cb {r : List V → Hp → VK → Prop} {t : TA} (h : t σ H fun vs H1 => r vs H1 Q) : tCB r t σ H Q := h
theorem r_call {dvs : List V} {t : TA} (h : t σ H fun vs H1 => sp (vs ++ dvs) H1 Q E) : tCall sp dvs E t σ H Q := h
theorem r_B {Q : Bool → Hp → Prop} (h : te σ H fun x H1 => ∃ c, x = .bl c ∧ Q c H1) : tB te σ H Q := h
theorem r_test {Q : Bool → Hp → Prop} (h : te σ H fun x H1 => ∃ c, x = .bl c ∧ Q c H1) : tTest te σ H Q := h
theorem r_and {Q : Bool → Hp → Prop} (h : c σ H fun b H1 => if b = true then c' σ H1 Q else Q false H1) : tAnd c c' σ H Q := h
theorem r_or {Q : Bool → Hp → Prop} (h : c σ H fun b H1 => if b = true then Q true H1 else c' σ H1 Q) : tOr c c' σ H Q := h
theorem r_not {Q : Bool → Hp → Prop} (h : c σ H fun b H1 => Q (!b) H1) : tNot c σ H Q := h
theorem r_andV (h : ta σ H fun x H1 => ∃ c, x = .bl c ∧ if c = true then tb σ H1 Q else Q (.bl false) H1) : tAndV ta tb σ H Q := h
theorem r_orV (h : ta σ H fun x H1 => ∃ c, x = .bl c ∧ if c = true then Q (.bl true) H1 else tb σ H1 Q) : tOrV ta tb σ H Q := h
theorem r_notV (h : ta σ H fun x H1 => ∃ c, x = .bl c ∧ Q (.bl (!c)) H1) : tNotV ta σ H Q := h
theorem r_ifE (h : c σ H fun b H1 => if b = true then ta σ H1 Q else tb σ H1 Q) : tIf c ta tb σ H Q := h
/-- o.f of the value x -/
def fldQ (K : PySem.W.Frag) (f : Str) (Q : VK) (x : V) (H1 : Hp) : Prop := ∃ a C dx fs v, x = .ref a ∧ H1 a = some (.ins C dx fs) ∧ Cls K C ∧ NoAttr K C f ∧ fs.lookup f = some v ∧ Q v H1
theorem r_fld {f : Str} (h : ta σ H fun x H1 => fldQ K f Q x H1) : tFld K ta f σ H Q := h
theorem f_get {f : Str} {a C dx : Addr} {fs : List (Str × V)} (h : H a = some (.ins C dx fs)) (hc : Cls K C) (hn : NoAttr K C f) (hl : fs.lookup f = some v) (q : Q v H) : fldQ K f Q (.ref a) H := ⟨a, C, dx, fs, v, rfl, h, hc, hn, hl, q⟩
/-- o.f = y of the value x -/
def sfQ (K : PySem.W.Frag) (f : Str) (y : V) (N : Hp → Prop) (x : V) (H2 : Hp) : Prop := ∃ a C dx fs, x = .ref a ∧ H2 a = some (.ins C dx fs) ∧ Cls K C ∧ NoAttr K C f ∧ fs.length < 1000 ∧ N (upd H2 a (.ins C dx (putF f y fs)))
theorem r_sfld {f : Str} (h : tv σ H fun y H1 => ta σ H1 fun x H2 => sfQ K f y (D.nx σ) x H2) : sFld K ta tv f D σ H := h
theorem f_put {f : Str} {a C dx : Addr} {fs fs' : List (Str × V)} {N : Hp → Prop} (h : H a = some (.ins C dx fs)) (hc : Cls K C) (hn : NoAttr K C f) (hl : fs.length < 1000) (e : putF f v fs = fs') (q : ∀ H2, Kp (One a) H H2 → H2 a = some (.ins C dx fs') → N H2) : sfQ K f v N (.ref a) H :=
  ⟨a, C, dx, fs, rfl, h, hc, hn, hl, by rw [e]; exact q _ (Kp.put1 h) upd_same⟩
/-- a new list, a new tuple -/
def lstQ (Q : VK) (xs : List V) (H1 : Hp) : Prop := xs.length ≤ sizeLine ∧ ∀ p, H1 p = none → Q (.ref p) (upd H1 p (.lst xs))
def tupQ (Q : VK) (xs : List V) (H1 : Hp) : Prop := xs.length ≤ sizeLine ∧ ∀ p, H1 p = none → Q (.ref p) (upd H1 p (.tup xs))
theorem r_lst {t : TA} (h : t σ H fun xs H1 => lstQ Q xs H1) : tLst t σ H Q := h
theorem r_tup {t : TA} (h : t σ H fun xs H1 => tupQ Q xs H1) : tTup t σ H Q := h
theorem n_lst {xs : List V} (hz : xs.length ≤ 100000) (q : ∀ p H2, H p = none → Kp No H H2 → H2 p = some (.lst xs) → Q (.ref p) H2) : lstQ Q xs H := ⟨lt_line hz, fun p hp => q p _ hp (Kp.new hp) upd_same⟩
theorem n_tup {xs : List V} (hz : xs.length ≤ 100000) (q : ∀ p H2, H p = none → Kp No H H2 → H2 p = some (.tup xs) → Q (.ref p) H2) : tupQ Q xs H := ⟨lt_line hz, fun p hp => q p _ hp (Kp.new hp) upd_same⟩
theorem r_ixL {p : Addr} {xs : List V} {i : Int} (h : SqL K H p xs) (ha : atI xs i = some v) (q : Q v H) : rIxL K (.ref p) (.int i) H Q := ⟨p, xs, i, v, rfl, rfl, h, ha, q⟩
theorem r_ixT {p : Addr} {xs : List V} {i : Int} (h : SqT K H p xs) (ha : atI xs i = some v) (q : Q v H) : rIxT K (.ref p) (.int i) H Q := ⟨p, xs, i, v, rfl, rfl, h, ha, q⟩
/-- len of a list or a tuple -/
def rLenS (K : PySem.W.Frag) : List V → Hp → VK → Prop := fun xs H Q => ∃ p ys, xs = [.ref p] ∧ (SqL K H p ys ∨ SqT K H p ys) ∧ Q (.int ys.length) H
theorem c_len {X : Cx} : CallR X (.builtin "len") (rLenS X.K) := call_len_seq
theorem r_len {p : Addr} {xs : List V} (h : SqL K H p xs) (q : Q (.int xs.length) H) : rLenS K [.ref p] H Q := ⟨p, xs, rfl, .inl h, q⟩
theorem r_lenT {p : Addr} {xs : List V} (h : SqT K H p xs) (q : Q (.int xs.length) H) : rLenS K [.ref p] H Q := ⟨p, xs, rfl, .inr h, q⟩
abbrev qAdd : R2 := rI0 fun i j => .int (i + j)
abbrev qSub : R2 := rI0 fun i j => .int (i - j)
abbrev qMul : R2 := rI CMul fun i j => .int (i * j)
abbrev qDiv : R2 := rI CDiv fun i j => .int (i / j)
abbrev qMod : R2 := rI (fun _ j => 0 < j) fun i j => .int (i % j)
abbrev qPow : R2 := rI CPow fun i j => .int (i ^ j.toNat)
abbrev qLt : R2 := rI0 fun i j => .bl (decide (i < j))
abbrev qLe : R2 := rI0 fun i j => .bl (decide (i ≤ j))
abbrev qGt : R2 := rI0 fun i j => .bl (decide (j < i))
abbrev qGe : R2 := rI0 fun i j => .bl (decide (j ≤ i))
theorem r_setL {p : Addr} {xs : List V} {j k : Nat} {o i : TE} (h : o σ H fun x H1 => i σ H1 fun y H2 => rSetL x y v H2 fun H3 => D.nx σ H3) : gSub o i rSetL v σ H D.nx := h
theorem r_setIx {p : Addr} {xs : List V} {k : Int} {j : Nat} {Qh : Hp → Prop} (h : H p = some (.lst xs)) (hj : ixN xs.length k = some j) (q : ∀ H2, Kp (One p) H H2 → H2 p = some (.lst (xs.set j v)) → Qh H2) : rSetL (.ref p) (.int k) v H Qh :=
  ⟨p, xs, k, j, rfl, rfl, h, hj, q _ (Kp.put1 h) upd_same⟩
end
theorem lk_hit {f : Str} {v : V} {r : List (Str × V)} : List.lookup f ((f, v) :: r) = some v := by
  have h : (f == f) = true := beq_self_eq_true f
  simp only [List.lookup, h]
theorem lk_miss {f g : Str} {v : V} {r : List (Str × V)} (h : (f == g) = false) : List.lookup f ((g, v) :: r) = List.lookup f r := by
  simp only [List.lookup, h]
theorem pf_nil {f : Str} {v : V} : putF f v [] = [(f, v)] := rfl
theorem pf_hit {f : Str} {v x : V} {r : List (Str × V)} : putF f v ((f, x) :: r) = (f, v) :: r := by
  show (if f = f then _ else _) = _
  rw [if_pos rfl]
theorem pf_miss {f g : Str} {v x : V} {r : List (Str × V)} (h : ¬ g = f) : putF f v ((g, x) :: r) = (g, x) :: putF f v r := by
  show (if g = f then _ else _) = _
  rw [if_neg h]
theorem atI_of {α : Type} {xs : List α} {i : Int} {v : α} (h0 : 0 ≤ i) (h : xs[i.toNat]? = some v) : atI xs i = some v := by
  have e : i = (i.toNat : Int) := (Int.toNat_of_nonneg h0).symm
  rw [e]
  exact atI_nat h
theorem ixN_of {n : Nat} {i : Int} (h0 : 0 ≤ i) (h : i < (n : Int)) : ixN n i = some i.toNat := by
  unfold ixN
  rw [if_pos h0, if_pos h]
end Ph
namespace Ph
open PySem PySem.Spec PyProof.Rows L2
/-! ### defs by their promises -/
abbrev DFun (K : PySem.W.Frag) (d : He.DefD) (fd : FuncData) : Prop := FunD K d.name d.qual d.params d.body d.scope (d.dvs K) (d.kws K) (He.fAd K d.at_) fd
structure Ok (P : Program) (w : World) (K : PySem.W.Frag) (mg : Str → Option Value) (base : Heap) (d : He.DefD) (k : Nat) (ps : List Str) (sp : Sp) : Prop where
  ex : ∃ fd, DFun K d fd ∧ FnOk P w K mg base (L2.CX P w) k (He.fAd K d.at_) fd ps sp
def Bd (K : PySem.W.Frag) (d : He.DefD) (ps : List Str) (dvs : List V) : Prop := ∀ fd, DFun K d fd → ∃ ds, Vals dvs ds ∧ Binds K fd ps ds
theorem Ok.of {P : Program} {w : World} {K : PySem.W.Frag} {mg : Str → Option Value} {base : Heap} {d : He.DefD} {N ps : List Str} {k : Nat} {sp : Sp} (F : ∃ fd, DFun K d fd) (S : FnScope N ps d.scope) (len : ∀ vs H Q E, sp vs H Q E → vs.length = ps.length)
    (hbody : ∀ (cdv : Value) (A : Around) (outer : List Env) (s : Shared) (H : Hp) (vs : List V) (Q : VK) (E : XK), Room k (A.deeper (envOfC d.qual d.scope s.heap.objs.size (He.fAd K d.at_) cdv)) → sp vs H Q E →
      ∃ t, PSs (cxOf (L2.CX P w) P w K mg base N d.qual d.scope (He.fAd K d.at_) cdv A outer s H E) d.body t ∧ t { nx := fun _ H' => Q .non H', rt := Q } (start N vs) H) : Ok P w K mg base d (k + 1) ps sp := by
  obtain ⟨fd, F⟩ := F
  exact ⟨fd, F, F.ok S len hbody⟩
section
variable {P : Program} {w : World} {K : PySem.W.Frag} {mg : Str → Option Value} {base : Heap} {N : List Str} {qual : Str} {sc : Scope} {f : Addr} {cdv : Value} {A : Around} {outer : List Env} {s : Shared} {H : Hp} {E : XK}
theorem tD : Takes (cxOf (L2.CX P w) P w K mg base N qual sc f cdv A outer s H E) (fun cls d _ H => E cls d H) := takes_of rfl rfl rfl rfl
theorem pD : Passes (L2.CX P w) (cxOf (L2.CX P w) P w K mg base N qual sc f cdv A outer s H E) E := passes_call tD fun _ _ _ _ h => h
theorem pO : PassesOwn (model P w) (cxOf (L2.CX P w) P w K mg base N qual sc f cdv A outer s H E).A (cxOf (L2.CX P w) P w K mg base N qual sc f cdv A outer s H E).env (cxOf (L2.CX P w) P w K mg base N qual sc f cdv A outer s H E).xe := passes_of rfl
end
section
variable {X : Cx} {d : He.DefD} {k j : Nat} {C : Addr} {ps : List Str} {sp : Sp} {dvs : List V} {E : XK} {x m : Str} {p pos apos : Pos} {e o : Expr} {es : List Expr} {ta : TE} {t : TA}
theorem q_con {x : Str} {v : V} {pos : Pos} (hm : ∃ u, X.mg x = some u ∧ RelV v u) (hg : Gl X x) (hd : (x == ("__debug__" : Str)) = false := by decide) : PE X (.Name x pos) (tC v) := by
  obtain ⟨u, h1, h2⟩ := hm
  exact pe_glob hg h1 h2 hd
theorem q_glo {x : Str} {a : Addr} {pos : Pos} (hm : X.mg x = some (.ref a)) (hg : Gl X x) (hd : (x == ("__debug__" : Str)) = false := by decide) : PE X (.Name x pos) (tC (.ref a)) := pe_glob hg hm rfl hd
theorem q_ty {x : Str} {n : String} {pos : Pos} (hm : X.mg x = none) (hg : Gl X x) (hv : bootBuiltins x = some (.type n)) (hn : x ≠ "__name__" := by decide) (hd : (x == ("__debug__" : Str)) = false := by decide) : PE X (.Name x pos) (tC (.ty n)) := pe_bltn hg hm hv rfl hn hd
theorem q_call (c : Ok X.prog X.w X.K X.mg X.base d k ps sp) (b : Bd X.K d ps dvs) (hm : X.mg x = some (.ref (He.fAd X.K d.at_))) (hr : Room j X.A) (hk : k ≤ j) (hg : Gl X x) (hx : Passes (L2.CX X.prog X.w) X E) (ha : PA X (e :: es) t)
    (hdb : (x == ("__debug__" : Str)) = false := by decide) (he : starEach (e :: es) X.env = (false, eval e X.env) :: starEach es X.env := by rfl) (hpl : (backTo pos (starEach es X.env)).any (·.1) = false := by rfl) :
    PE X (.Call (.Name x p) (e :: es) [] pos) (tCall sp dvs E t) := by
  obtain ⟨fd, F, G⟩ := c.ex
  obtain ⟨ds, r, b⟩ := b fd F
  exact pe_call G (hr.mono hk) hg hm F.kp b r hx ha hdb he hpl
theorem q_call0 (c : Ok X.prog X.w X.K X.mg X.base d k ps sp) (b : Bd X.K d ps dvs) (hm : X.mg x = some (.ref (He.fAd X.K d.at_))) (hr : Room j X.A) (hk : k ≤ j) (hg : Gl X x) (hx : Passes (L2.CX X.prog X.w) X E)
    (hdb : (x == ("__debug__" : Str)) = false := by decide) : PE X (.Call (.Name x p) [] [] pos) (tCall sp dvs E tNil) := by
  obtain ⟨fd, F, G⟩ := c.ex
  obtain ⟨ds, r, b⟩ := b fd F
  exact pe_call0 G (hr.mono hk) hg hm F.kp b r hx hdb
theorem q_meth {pl : Sem Bool} (c : Ok X.prog X.w X.K X.mg X.base d k ps sp) (he : PE X o ta) (cl : Cls X.K C) (hm : Meth X.K C m (He.fAd X.K d.at_)) (b : Bd X.K d ps dvs) (hr : Room j X.A) (hk : k ≤ j) (hx : Passes (L2.CX X.prog X.w) X E) (ha : PA X (e :: es) t)
    (hst : starEach (e :: es) X.env = (false, eval e X.env) :: starEach es X.env := by rfl) (hpl : (backTo pos (starEach es X.env)).any (·.1) = false := by rfl)
    (ht : eval (.Call (.Attribute o m apos) (e :: es) [] pos) X.env = (do
      let ov ← eval o X.env
      standAt apos.atName
      let (f, first) ← holding [ov] (getMethod ov m pl)
      callWith pos f first (backTo pos (starEach (e :: es) X.env)) (backToKw pos (keywordEach [] X.env))) := by rfl) :
    PE X (.Call (.Attribute o m apos) (e :: es) [] pos) (tMeth C m sp dvs E ta t) := by
  obtain ⟨fd, F, G⟩ := c.ex
  obtain ⟨ds, r, b⟩ := b fd F
  exact pe_meth he cl hm G (hr.mono hk) b r hx ha hst hpl ht
theorem q_meth0 {pl : Sem Bool} (c : Ok X.prog X.w X.K X.mg X.base d k ps sp) (he : PE X o ta) (cl : Cls X.K C) (hm : Meth X.K C m (He.fAd X.K d.at_)) (b : Bd X.K d ps dvs) (hr : Room j X.A) (hk : k ≤ j) (hx : Passes (L2.CX X.prog X.w) X E)
    (ht : eval (.Call (.Attribute o m apos) [] [] pos) X.env = (do
      let ov ← eval o X.env
      standAt apos.atName
      let (f, first) ← holding [ov] (getMethod ov m pl)
      callWith pos f first (backTo pos (starEach [] X.env)) (backToKw pos (keywordEach [] X.env))) := by rfl) :
    PE X (.Call (.Attribute o m apos) [] [] pos) (tMeth C m sp dvs E ta tNil) := by
  obtain ⟨fd, F, G⟩ := c.ex
  obtain ⟨ds, r, b⟩ := b fd F
  exact pe_meth0 he cl hm G (hr.mono hk) b r hx ht
theorem q_make (c : Ok X.prog X.w X.K X.mg X.base d k ps sp) (M : Mk X.K C (He.fAd X.K d.at_)) (b : Bd X.K d ps dvs) (hm : X.mg x = some (.ref C)) (hr : Room j X.A) (hk : k + 1 ≤ j) (hg : Gl X x) (hx : Passes (L2.CX X.prog X.w) X E) (ha : PA X (e :: es) t)
    (hdb : (x == ("__debug__" : Str)) = false := by decide) (he : starEach (e :: es) X.env = (false, eval e X.env) :: starEach es X.env := by rfl) (hpl : (backTo pos (starEach es X.env)).any (·.1) = false := by rfl) :
    PE X (.Call (.Name x p) (e :: es) [] pos) (tMake C sp dvs E t) := by
  obtain ⟨fd, F, G⟩ := c.ex
  obtain ⟨ds, r, b⟩ := b fd F
  exact pe_make M G (hr.mono hk) hg hm b r hx ha hdb he hpl
theorem q_make0 (c : Ok X.prog X.w X.K X.mg X.base d k ps sp) (M : Mk X.K C (He.fAd X.K d.at_)) (b : Bd X.K d ps dvs) (hm : X.mg x = some (.ref C)) (hr : Room j X.A) (hk : k + 1 ≤ j) (hg : Gl X x) (hx : Passes (L2.CX X.prog X.w) X E)
    (hdb : (x == ("__debug__" : Str)) = false := by decide) : PE X (.Call (.Name x p) [] [] pos) (tMake C sp dvs E tNil) := by
  obtain ⟨fd, F, G⟩ := c.ex
  obtain ⟨ds, r, b⟩ := b fd F
  exact pe_make0 M G (hr.mono hk) hg hm b r hx hdb
def Bk (K : PySem.W.Frag) (d : He.DefD) (ps : List Str) (n : Nat) (ks : List Str) (gV : List V → List V → List V) : Prop := ∀ fd, DFun K d fd → ∃ g, KBn K fd ps n ks g gV
theorem q_makeK0 {n : Nat} {ks : List Str} {gV : List V → List V → List V} {kws : List Keyword} {tk : TA} (c : Ok X.prog X.w X.K X.mg X.base d k ps sp) (M : Mk X.K C (He.fAd X.K d.at_)) (b : Bk X.K d ps 1 ks gV) (hm : X.mg x = some (.ref C)) (hr : Room j X.A) (hk : k + 1 ≤ j) (hg : Gl X x) (hx : Passes (L2.CX X.prog X.w) X E) (hkw : PK X kws tk)
    (hall : (backToKw pos (keywordEach kws X.env)).all (·.1.isSome) = true := by rfl) (hks : (backToKw pos (keywordEach kws X.env)).filterMap (·.1) = ks := by rfl) (hdb : (x == ("__debug__" : Str)) = false := by decide)
    (hpl : ((backTo pos (starEach [] X.env)).any (·.1) || (backToKw pos (keywordEach kws X.env)).any (·.1.isNone)) = false := by rfl) : PE X (.Call (.Name x p) [] kws pos) (tMakeK C 0 ks.length sp gV E tNil tk) := by
  obtain ⟨fd, F, G⟩ := c.ex
  obtain ⟨g, b⟩ := b fd F
  exact pe_makeK0 M G (hr.mono hk) hg hm b hx hkw hall hks hdb hpl
theorem q_makeK {n : Nat} {ks : List Str} {gV : List V → List V → List V} {kws : List Keyword} {tk : TA} (c : Ok X.prog X.w X.K X.mg X.base d k ps sp) (M : Mk X.K C (He.fAd X.K d.at_)) (b : Bk X.K d ps (n + 1) ks gV) (hm : X.mg x = some (.ref C)) (hr : Room j X.A) (hk : k + 1 ≤ j) (hg : Gl X x) (hx : Passes (L2.CX X.prog X.w) X E) (ha : PA X (e :: es) t) (hkw : PK X kws tk)
    (hall : (backToKw pos (keywordEach kws X.env)).all (·.1.isSome) = true := by rfl) (hks : (backToKw pos (keywordEach kws X.env)).filterMap (·.1) = ks := by rfl) (hdb : (x == ("__debug__" : Str)) = false := by decide)
    (he : starEach (e :: es) X.env = (false, eval e X.env) :: starEach es X.env := by rfl) (hpl : ((backTo pos (starEach (e :: es) X.env)).any (·.1) || (backToKw pos (keywordEach kws X.env)).any (·.1.isNone)) = false := by rfl) :
    PE X (.Call (.Name x p) (e :: es) kws pos) (tMakeK C n ks.length sp gV E t tk) := by
  obtain ⟨fd, F, G⟩ := c.ex
  obtain ⟨g, b⟩ := b fd F
  exact pe_makeK M G (hr.mono hk) hg hm b hx ha hkw hall hks hdb he hpl
/-- raise X('..'): E is wished of the class -/
def tRz (E : XK) (C : Addr) : TS := fun _ _ H => E (.ref C) none H
structure XOk (K : PySem.W.Frag) (C : Addr) : Prop where
  e : PySem.W.excIn K C He.veBase "ValueError.__new__" = true
  k : PySem.W.keepIn K (.ref C) = true
  b : PySem.W.subIn K (.ref C) (.type "BaseException") = some true
  t : PySem.W.typeIn K (.ref C) = some (.type "type")
theorem q_raise {x m : Str} {j : Nat} {p p2 pos pos' : Pos} (T : XOk X.K C) (gC : X.mg x = some (.ref C)) (tk : Takes X (fun cls d _ H => E cls d H)) (hg : Gl X x) (hc : X.calm = true := by rfl) (hdb : (x == ("__debug__" : Str)) = false := by decide) :
    PS X (.Raise (some (.Call (.Name x p) [.Constant (.str m) j p2] [] pos')) none pos) (tRz E C) :=
  ps_raise hc tk (pmk_own PySem.F.excBase_ValueError T.e gC T.k (raises_own T.b T.t) hg hdb)
end
theorem fd_same {K : PySem.W.Frag} {d : He.DefD} {fd fd2 : FuncData} (F : DFun K d fd) (G : DFun K d fd2) : fd = fd2 := by
  obtain ⟨_, _, _, _, _, _, _, _, _, _, _, l1, _⟩ := F.ex
  obtain ⟨_, _, _, _, _, _, _, _, _, _, _, l2, _⟩ := G.ex
  rw [l1] at l2
  injection l2 with l2
  injection l2 with _ _ l3 _
  injection l3
/-- a def that lets nothing out -/
theorem fn_calm {P : Program} {w : World} {K : PySem.W.Frag} {mg : Str → Option Value} {base : Heap} {k : Nat} {f : Addr} {fd : FuncData} {ps : List Str} {sp : Sp} (F : FnOk P w K mg base (L2.CX P w) k f fd ps sp) (hE : ∀ vs H Q E, sp vs H Q E → sp vs H Q E0) : FnOk P w K mg base CX0 k f fd ps sp :=
  ⟨F.len, fun A outer s H args us vs Q E hr he hb hv hs => codeAny_mono (F.run A outer s H args us vs Q E0 hr he hb hv (hE _ _ _ _ hs)) fun r s' hq => by
    cases r with
    | error e =>
      obtain ⟨_, _, _, _, _, _, _, _, _, _, _, _, z⟩ := (show L2.CX P w outer H s E0 e s' from hq)
      exact z.elim
    | ok fl =>
      cases fl with
      | ret u => exact hq
      | next => exact hq
      | brk => exact hq
      | cont => exact hq⟩
theorem con_int {mg : Str → Option Value} {x : Str} {i : Int} (h : ∃ t, mg x = some (.int i t)) : ∃ u, mg x = some u ∧ RelV (.int i) u := let ⟨t, e⟩ := h; ⟨_, e, t, rfl⟩
theorem con_str {mg : Str → Option Value} {x z : Str} (h : ∃ t, mg x = some (.str z t)) : ∃ u, mg x = some u ∧ RelV (.str z) u := let ⟨t, e⟩ := h; ⟨_, e, t, rfl⟩
theorem xok {K : PySem.W.Frag} {C : Addr} (h : PySem.W.excIn K C He.veBase "ValueError.__new__" = true ∧ PySem.W.keepIn K (.ref C) = true ∧ PySem.W.subIn K (.ref C) (.type "BaseException") = some true ∧ PySem.W.typeIn K (.ref C) = some (.type "type")) : XOk K C := ⟨h.1, h.2.1, h.2.2.1, h.2.2.2⟩
/-! ### len of an own object -/
def rLenO (C : Addr) (sp : Sp) (E : XK) : List V → Hp → VK → Prop := fun xs H Q => ∃ a dx fs, xs = [.ref a] ∧ H a = some (.ins C dx fs) ∧ sp [.ref a] H (fun v H2 => ∃ n : Int, v = .int n ∧ 0 ≤ n ∧ n < 2 ^ 62 ∧ Q (.int n) H2) E
theorem c_lenO {X : Cx} {d : He.DefD} {k j : Nat} {C : Addr} {ps : List Str} {sp : Sp} {E : XK} (c : Ok X.prog X.w X.K X.mg X.base d k ps sp) (hm : Meth X.K C "__len__" (He.fAd X.K d.at_)) (b : Bd X.K d ps []) (hr : Room j X.A) (hk : k + 1 ≤ j) (hx : Passes (L2.CX X.prog X.w) X E) :
    CallR X (.builtin "len") (rLenO C sp E) := by
  intro pins s σ H xs us Q I r h
  obtain ⟨a, dx, fs, rfl, ha, hs⟩ := h
  obtain ⟨u, rfl, ru⟩ := vals1 r
  cases ru
  obtain ⟨fd, F, G⟩ := c.ex
  obtain ⟨ds, rd, b⟩ := b fd F
  cases rd
  obtain ⟨mA, O, _⟩ := ins_get I.hok ha
  obtain ⟨od, J, _⟩ := O.look
  obtain ⟨m, fr⟩ := I.fr
  refine PySem.W.len_K fr I.ok.mod.kin J hm.at_ hm.fn ?_
  have hl : ([Value.ref a] ++ []).length = ps.length := G.len _ _ _ _ hs
  refine wpAny_call (codeAny_mono (G.run X.A.in1 X.stack s H ⟨[.ref a], []⟩ [.ref a] [.ref a] _ E (hr.mono hk).in1 I.env0.in1 (b s [.ref a] I.kIn hl) (.cons rfl .nil) hs) fun r s' hq => ?_)
  cases r with
  | error e => exact hx pins σ H s e s' I hq
  | ok fl =>
    cases fl with
    | ret u =>
      obtain ⟨v, H2, I2, rv, n, rfl, h0, h1, q⟩ := I.after hq
      obtain ⟨t, rfl⟩ := rv
      exact ⟨⟨h0, by omega⟩, .int n, H2, I2.tok _, ⟨_, rfl⟩, q⟩
    | next => exact False.elim hq
    | brk => exact False.elim hq
    | cont => exact False.elim hq
/-! ### readings with names -/
section
variable {X : Cx} {σ : L2.St} {H : Hp} {Q : VK} {K : PySem.W.Frag} {v : V} {D : Ends}
def rMin2 : List V → Hp → VK → Prop := fun xs H Q => ∃ i j, xs = [.int i, .int j] ∧ Q (.int (if j < i then j else i)) H
theorem c_min2 (hc : X.calm = true) : CallR X (.builtin "min") rMin2 := call_min2 hc
theorem r_min2 {i j : Int} (q : Q (.int (if j < i then j else i)) H) : rMin2 [.int i, .int j] H Q := ⟨i, j, rfl, q⟩
def rListS (K : PySem.W.Frag) : List V → Hp → VK → Prop := fun xs H Q => ∃ p ys, xs = [.ref p] ∧ (SqL K H p ys ∨ SqT K H p ys) ∧ ∀ l, H l = none → Q (.ref l) (upd H l (.lst ys))
theorem c_list : CallR X (.type "list") (rListS X.K) := call_list_of
theorem r_list {p : Addr} {xs : List V} (h : SqL K H p xs) (q : ∀ l H2, H l = none → Kp No H H2 → H2 l = some (.lst xs) → Q (.ref l) H2) : rListS K [.ref p] H Q := ⟨p, xs, rfl, .inl h, fun l hl => q l _ hl (Kp.new hl) upd_same⟩
theorem r_listT {p : Addr} {xs : List V} (h : SqT K H p xs) (q : ∀ l H2, H l = none → Kp No H H2 → H2 l = some (.lst xs) → Q (.ref l) H2) : rListS K [.ref p] H Q := ⟨p, xs, rfl, .inr h, fun l hl => q l _ hl (Kp.new hl) upd_same⟩
theorem r_all {p : Addr} {bs : List Bool} (h : SqL K H p (bs.map V.bl)) (q : Q (.bl (bs.all id)) H) : rAll K [.ref p] H Q := ⟨p, bs, rfl, h, q⟩
theorem r_sum {p : Addr} {ns : List Int} (h : SqL K H p (ns.map V.int)) (q : Q (.int ns.sum) H) : rSum K [.ref p] H Q := ⟨p, ns, rfl, h, q⟩
theorem r_slL {p : Addr} {xs : List V} {lo hi : Option Int} (h : SqL K H p xs) (q : ∀ l H2, H l = none → Kp No H H2 → H2 l = some (.lst (cutV xs lo hi)) → Q (.ref l) H2) : rSlL K (.ref p) lo hi H Q :=
  ⟨p, xs, rfl, h, fun l hl => q l _ hl (Kp.new hl) upd_same⟩
theorem r_sl {r : V → Option Int → Option Int → Hp → VK → Prop} {te : TE} {tl th : TO} (h : te σ H fun x H1 => tl σ H1 fun l H2 => th σ H2 fun u H3 => r x l u H3 Q) : tSl r te tl th σ H Q := h
theorem r_noPart {Q : Option Int → Hp → Prop} (q : Q none H) : tNoPart σ H Q := q
theorem r_part {te : TE} {Q : Option Int → Hp → Prop} (h : te σ H fun x H1 => ∃ i, x = .int i ∧ Q (some i) H1) : tPart te σ H Q := h
theorem r_cat {l b : Addr} {xs zs : List V} (h1 : H l = some (.lst xs)) (h2 : H b = some (.lst zs)) (hz : xs.length + zs.length ≤ sizeLine) (q : ∀ p H2, H p = none → Kp No H H2 → H2 p = some (.lst (xs ++ zs)) → Q (.ref p) H2) : rCat (.ref l) (.ref b) H Q :=
  ⟨l, b, xs, zs, rfl, rfl, h1, h2, hz, fun p hp => q p _ hp (Kp.new hp) upd_same⟩
theorem r_append {l : Addr} {xs : List V} {y : V} (h : H l = some (.lst xs)) (hz : xs.length < sizeLine) (q : ∀ H2, Kp (One l) H H2 → H2 l = some (.lst (xs ++ [y])) → Q .non H2) : rAppend (.ref l) [y] H Q := ⟨l, xs, y, rfl, rfl, h, hz, q _ (Kp.put1 h) upd_same⟩
theorem r_extend {l b : Addr} {xs zs : List V} (h : H l = some (.lst xs)) (h2 : H b = some (.lst zs)) (hz : xs.length + zs.length ≤ sizeLine) (q : ∀ H2, Kp (One l) H H2 → H2 l = some (.lst (xs ++ zs)) → Q .non H2) : rExtend (.ref l) [.ref b] H Q :=
  ⟨l, b, xs, zs, rfl, rfl, h, h2, hz, q _ (Kp.put1 h) upd_same⟩
/-- a method of a built-in type: the receiver's type, then the arguments -/
def bmQ (K : PySem.W.Frag) (T : String) (r : V → List V → Hp → VK → Prop) (t : TA) (σ : L2.St) (Q : VK) (x : V) (H1 : Hp) : Prop := tyV K T x H1 ∧ t σ H1 fun xs H2 => r x xs H2 Q
theorem r_bm {T : String} {r : V → List V → Hp → VK → Prop} {to : TE} {t : TA} (h : to σ H fun x H1 => bmQ K T r t σ Q x H1) : tBM K T r to t σ H Q := h
theorem r_bm0 {T : String} {r : V → List V → Hp → VK → Prop} {to : TE} (h : to σ H fun x H1 => bmQ K T r tNil σ Q x H1) : tBM0 K T r to σ H Q := h
theorem b_lst {r : V → List V → Hp → VK → Prop} {t : TA} {a : Addr} {xs : List V} (h : H a = some (.lst xs)) (q : t σ H fun ys H2 => r (.ref a) ys H2 Q) : bmQ K "list" r t σ Q (.ref a) H := ⟨.inl ⟨rfl, _, SqL.of h⟩, q⟩
/-- a method of an own class -/
def mthQ (C : Addr) (m : Str) (sp : Sp) (dvs : List V) (E : XK) (t : TA) (σ : L2.St) (Q : VK) (x : V) (H1 : Hp) : Prop := ∃ a dx fs, x = .ref a ∧ H1 a = some (.ins C dx fs) ∧ fs.lookup m = none ∧ t σ H1 fun vs H2 => sp (x :: (vs ++ dvs)) H2 Q E
theorem r_meth {C : Addr} {m : Str} {sp : Sp} {dvs : List V} {E : XK} {ta : TE} {t : TA} (h : ta σ H fun x H1 => mthQ C m sp dvs E t σ Q x H1) : tMeth C m sp dvs E ta t σ H Q := h
theorem m_at {C : Addr} {m : Str} {sp : Sp} {dvs : List V} {E : XK} {t : TA} {a dx : Addr} {fs : List (Str × V)} (h : H a = some (.ins C dx fs)) (hl : fs.lookup m = none) (q : t σ H fun vs H2 => sp (.ref a :: (vs ++ dvs)) H2 Q E) : mthQ C m sp dvs E t σ Q (.ref a) H := ⟨a, dx, fs, rfl, h, hl, q⟩
/-- C(..) -/
def mkQ (C : Addr) (sp : Sp) (dvs : List V) (E : XK) (Q : VK) (vs : List V) (H1 : Hp) : Prop := ∀ x dx, H1 x = none → H1 dx = none → dx ≠ x → sp (.ref x :: (vs ++ dvs)) (upd (upd H1 dx (.own x)) x (.ins C dx [])) (fun v H2 => v = .non ∧ Q (.ref x) H2) E
theorem r_make {C : Addr} {sp : Sp} {dvs : List V} {E : XK} {t : TA} (h : t σ H fun vs H1 => mkQ C sp dvs E Q vs H1) : tMake C sp dvs E t σ H Q := h
theorem k_at {C : Addr} {sp : Sp} {dvs : List V} {E : XK} {vs : List V} (q : ∀ x dx H2, H x = none → H dx = none → dx ≠ x → Kp No H H2 → H2 x = some (.ins C dx []) → H2 dx = some (.own x) → sp (.ref x :: (vs ++ dvs)) H2 (fun v H3 => v = .non ∧ Q (.ref x) H3) E) : mkQ C sp dvs E Q vs H := by
  intro x dx hx hdx ne
  refine q x dx _ hx hdx ne ?_ upd_same (by rw [upd_ne ne]; exact upd_same)
  have a : Kp No H (upd H dx (.own x)) := Kp.new hdx
  exact a.trans (Kp.new (by rw [upd_ne (Ne.symm ne)]; exact hx))
/-- C(.., k = v) -/
def mkkQ (C : Addr) (n m : Nat) (sp : Sp) (gV : List V → List V → List V) (E : XK) (Q : VK) (vs zs : List V) (H2 : Hp) : Prop := vs.length = n ∧ zs.length = m ∧ ∀ x dx, H2 x = none → H2 dx = none → dx ≠ x → sp (gV (.ref x :: vs) zs) (upd (upd H2 dx (.own x)) x (.ins C dx [])) (fun v H3 => v = .non ∧ Q (.ref x) H3) E
theorem r_makeK {C : Addr} {n m : Nat} {sp : Sp} {gV : List V → List V → List V} {E : XK} {t tk : TA} (h : t σ H fun vs H1 => tk σ H1 fun zs H2 => mkkQ C n m sp gV E Q vs zs H2) : tMakeK C n m sp gV E t tk σ H Q := h
theorem kk_at {C : Addr} {n m : Nat} {sp : Sp} {gV : List V → List V → List V} {E : XK} {vs zs : List V} (h1 : vs.length = n) (h2 : zs.length = m) (q : ∀ x dx H2, H x = none → H dx = none → dx ≠ x → Kp No H H2 → H2 x = some (.ins C dx []) → H2 dx = some (.own x) → sp (gV (.ref x :: vs) zs) H2 (fun v H3 => v = .non ∧ Q (.ref x) H3) E) : mkkQ C n m sp gV E Q vs zs H := by
  refine ⟨h1, h2, ?_⟩
  intro x dx hx hdx ne
  refine q x dx _ hx hdx ne ?_ upd_same (by rw [upd_ne ne]; exact upd_same)
  have a : Kp No H (upd H dx (.own x)) := Kp.new hdx
  exact a.trans (Kp.new (by rw [upd_ne (Ne.symm ne)]; exact hx))
theorem r_rep {l : Addr} {k : Int} {xs : List V} (h : H l = some (.lst xs)) (h1 : -(2 ^ 63) ≤ k) (h2 : k < 2 ^ 63) (hz : xs.length * k.toNat ≤ sizeLine)
    (q : ∀ p H2, H p = none → Kp No H H2 → H2 p = some (.lst (List.replicate k.toNat xs).flatten) → Q (.ref p) H2) : rRep (.ref l) (.int k) H Q := by
  refine ⟨l, k, xs, rfl, rfl, h, h1, h2, hz, fun p hp => ?_⟩
  exact q p _ hp (Kp.new hp) upd_same
end
end Ph
namespace Ph
open PySem PySem.Spec PyProof.Rows L2
/-! ### promises by the number of arguments -/
def Sp0 (B : Hp → VK → XK → Prop) : Sp := fun vs H Q E => vs = [] ∧ B H Q E
def Sp1 (B : V → Hp → VK → XK → Prop) : Sp := fun vs H Q E => ∃ a, vs = [a] ∧ B a H Q E
def Sp2 (B : V → V → Hp → VK → XK → Prop) : Sp := fun vs H Q E => ∃ a b, vs = [a, b] ∧ B a b H Q E
def Sp3 (B : V → V → V → Hp → VK → XK → Prop) : Sp := fun vs H Q E => ∃ a b c, vs = [a, b, c] ∧ B a b c H Q E
def Sp4 (B : V → V → V → V → Hp → VK → XK → Prop) : Sp := fun vs H Q E => ∃ a b c d, vs = [a, b, c, d] ∧ B a b c d H Q E
def Sp5 (B : V → V → V → V → V → Hp → VK → XK → Prop) : Sp := fun vs H Q E => ∃ a b c d e, vs = [a, b, c, d, e] ∧ B a b c d e H Q E
def Sp6 (B : V → V → V → V → V → V → Hp → VK → XK → Prop) : Sp := fun vs H Q E => ∃ a b c d e f, vs = [a, b, c, d, e, f] ∧ B a b c d e f H Q E
theorem s_1 {B : V → Hp → VK → XK → Prop} {a : V} {H : Hp} {Q : VK} {E : XK} (h : B a H Q E) : Sp1 B [a] H Q E := ⟨a, rfl, h⟩
theorem s_2 {B : V → V → Hp → VK → XK → Prop} {a b : V} {H : Hp} {Q : VK} {E : XK} (h : B a b H Q E) : Sp2 B [a, b] H Q E := ⟨a, b, rfl, h⟩
theorem s_3 {B : V → V → V → Hp → VK → XK → Prop} {a b c : V} {H : Hp} {Q : VK} {E : XK} (h : B a b c H Q E) : Sp3 B [a, b, c] H Q E := ⟨a, b, c, rfl, h⟩
theorem s_4 {B : V → V → V → V → Hp → VK → XK → Prop} {a b c d : V} {H : Hp} {Q : VK} {E : XK} (h : B a b c d H Q E) : Sp4 B [a, b, c, d] H Q E := ⟨a, b, c, d, rfl, h⟩
theorem s_5 {B : V → V → V → V → V → Hp → VK → XK → Prop} {a b c d e : V} {H : Hp} {Q : VK} {E : XK} (h : B a b c d e H Q E) : Sp5 B [a, b, c, d, e] H Q E := ⟨a, b, c, d, e, rfl, h⟩
/-! ### things of a known type -/
inductive Tg (H : Hp) : V → String → Prop where
  | int (i : Int) : Tg H (.int i) "int"
  | bl (b : Bool) : Tg H (.bl b) "bool"
  | non : Tg H .non "NoneType"
  | str (x : Str) : Tg H (.str x) "str"
  | lst {a : Addr} {xs : List V} (h : H a = some (.lst xs)) : Tg H (.ref a) "list"
  | tup {a : Addr} {xs : List V} (h : H a = some (.tup xs)) : Tg H (.ref a) "tuple"
  | dK {a : Addr} {xs : List (Key × V)} (h : H a = some (.dK xs)) : Tg H (.ref a) "dict"
theorem Tg.ty {K : PySem.W.Frag} {H : Hp} {x : V} {n : String} (h : Tg H x n) : TyX K H x (.type n) := by
  cases h with
  | int i => exact .base (.int i)
  | bl b => exact .base (.bl b)
  | non => exact .base .non
  | str x => exact .base (.str x)
  | lst h => exact .base (.lst h)
  | tup h => exact .base (.tup h)
  | dK h => exact .base (.dK h)
theorem Tg.isL {H : Hp} {x : V} {n : String} (h : Tg H x n) (e : n = "list") : ∃ a xs, x = .ref a ∧ H a = some (.lst xs) := by
  cases h with
  | lst h => exact ⟨_, _, rfl, h⟩
  | int i => exact absurd e (by decide)
  | bl i => exact absurd e (by decide)
  | non => exact absurd e (by decide)
  | str i => exact absurd e (by decide)
  | tup i => exact absurd e (by decide)
  | dK i => exact absurd e (by decide)
def isTy (n c : String) : Bool := n == c || (n == "bool" && c == "int")
theorem Tg.kit {K : PySem.W.Frag} {H : Hp} {x : V} {n c : String} (h : Tg H x n) (hc : c = "int" ∨ c = "bool" ∨ c = "list" ∨ c = "str") : PySem.W.kitOne K (.type n) (.type c) = some (isTy n c) := by
  rcases hc with rfl | rfl | rfl | rfl <;> cases h <;> exact kit_ty (by decide +kernel)
theorem r_isi {K : PySem.W.Frag} {H : Hp} {Q : VK} {x : V} {n c : String} (h : Tg H x n) (hc : c = "int" ∨ c = "bool" ∨ c = "list" ∨ c = "str") (q : Q (.bl (isTy n c)) H) : rIsi K [x, .ty c] H Q :=
  ⟨x, .ty c, .type n, .type c, _, rfl, .ty c, h.ty, h.kit hc, q⟩
theorem Tg.mono {F : Addr → Prop} {H H2 : Hp} {x : V} {n : String} (h : Tg H x n) (k : Kp F H H2) (hn : ∀ a, x = .ref a → ¬ F a) : Tg H2 x n := by
  cases h with
  | int i => exact .int i
  | bl b => exact .bl b
  | non => exact .non
  | str x => exact .str x
  | lst h => exact .lst (k.keep _ _ h (hn _ rfl))
  | tup h => exact .tup (k.keep _ _ h (hn _ rfl))
  | dK h => exact .dK (k.keep _ _ h (hn _ rfl))
theorem Tg.no {H H2 : Hp} {x : V} {n : String} (h : Tg H x n) (k : Kp No H H2) : Tg H2 x n := h.mono k fun _ _ z => z
/-- a whole number within bounds -/
def isW (x : V) (lo hi : Int) : Bool := match x with
  | .int i => decide (lo ≤ i) && decide (i ≤ hi)
  | _ => false
theorem r_bl {b : Bool} {P : Bool → Prop} (q : P b) : ∃ c, V.bl b = V.bl c ∧ P c := ⟨b, rfl, q⟩
theorem r_int {i : Int} {P : Int → Prop} (q : P i) : ∃ c, V.int i = V.int c ∧ P c := ⟨i, rfl, q⟩
theorem r_T {A B : Prop} (h : A) : if true = true then A else B := by
  rw [if_pos rfl]; exact h
theorem r_F {A B : Prop} (h : B) : if false = true then A else B := by
  rw [if_neg Bool.false_ne_true]; exact h
theorem r_ite {b : Bool} {A B : Prop} (h1 : b = true → A) (h2 : b = false → B) : if b = true then A else B := by
  cases b with
  | true => rw [if_pos rfl]; exact h1 rfl
  | false => rw [if_neg Bool.false_ne_true]; exact h2 rfl
theorem r_d {p : Prop} [Decidable p] {A B : Prop} (h1 : p → A) (h2 : ¬ p → B) : if decide p = true then A else B :=
  r_ite (fun e => h1 (of_decide_eq_true e)) (fun e => h2 (of_decide_eq_false e))
theorem r_dn {p : Prop} [Decidable p] {A B : Prop} (h1 : ¬ p → A) (h2 : p → B) : if (!decide p) = true then A else B :=
  r_ite (fun e => h1 (by simpa using e)) (fun e => h2 (by simpa using e))
theorem r_chain {r r' : R2} {ta tb tc : TE} {σ : L2.St} {H : Hp} {Q : VK} (h : ta σ H fun x H1 => tb σ H1 fun y H2 => r x y H2 fun z H3 => ∃ k, z = .bl k ∧ (if k = true then tc σ H3 fun w' H4 => r' y w' H4 Q else Q (.bl false) H3)) : tChain r r' ta tb tc σ H Q := h
end Ph
namespace Ph
open PySem PySem.Spec PyProof.Rows L2
/-! ### loops and comprehensions -/
def lcQ (J : It) (g : TG) (tt : TT) (te : TE) (vs : List Nat) (σ : L2.St) (Q : VK) (H1 : Hp) : Prop := ∀ D, H1 D = none → ∃ W : Nat → Nat → Hp → Prop, (∃ m, W 0 m (upd H1 D (.lst []))) ∧ ∀ i m H, W i m H →
  (J.stop i H ∧ Q (.ref D) H) ∨ (J.go i H ∧ ∃ Nx : Hp → Prop, (∀ H', Nx H' → ∃ m', m' < m ∧ W (i + 1) m' H') ∧ ∀ x H', J.yld i H x H' → g x (wipe σ vs) H' fun σ2 H2 => wipe σ2 vs = wipe σ vs ∧ tt σ2 H2 fun b H3 =>
    if b = true then te σ2 H3 fun y H4 => ∃ acc, H4 D = some (.lst acc) ∧ acc.length < sizeLine ∧ Nx (upd H4 D (.lst (acc ++ [y]))) else Nx H3)
def forQ (J : It) (g : TG) (tb : TS) (D : Ends) (σ : L2.St) (H1 : Hp) : Prop := ∃ W : Nat → Nat → L2.St → Hp → Prop, (∃ m, W 0 m σ H1) ∧ ∀ i m σ H, W i m σ H →
  (J.stop i H ∧ D.nx σ H) ∨ (J.go i H ∧ ∃ N : L2.St → Hp → Prop, (∀ σ' H', N σ' H' → ∃ m', m' < m ∧ W (i + 1) m' σ' H') ∧ ∀ x H', J.yld i H x H' → g x σ H' fun σ2 H2 => tb { D with nx := N, ct := N, bk := D.nx } σ2 H2)
def iLQ (K : PySem.W.Frag) (R : It → Hp → Prop) (x : V) (H1 : Hp) : Prop := ∃ a, x = .ref a ∧ (∃ xs, SqL K H1 a xs) ∧ R (Itl K a) H1
def iTQ (K : PySem.W.Frag) (R : It → Hp → Prop) (x : V) (H1 : Hp) : Prop := ∃ a, x = .ref a ∧ (∃ xs, SqT K H1 a xs) ∧ R (Itt K a) H1
def iRQ (R : It → Hp → Prop) (vs : List V) (H1 : Hp) : Prop := ∃ j : Int, vs = [.int j] ∧ -(2 ^ 62) ≤ j ∧ j < 2 ^ 62 ∧ R (Itr 0 j.toNat) H1
section
variable {K : PySem.W.Frag} {σ : L2.St} {H : Hp} {Q : VK} {wi : TI} {g : TG} {tt : TT} {te tl : TE} {vs : List Nat} {tb : TS} {D : Ends} {R : It → Hp → Prop} {ta : TA}
theorem r_lc (h : wi σ H fun J H1 => lcQ J g tt te vs σ Q H1) : tLc wi g tt te vs σ H Q := h
theorem r_for (h : wi σ H fun J H1 => forQ J g tb D σ H1) : tFor wi g tb D σ H := h
theorem r_iL (h : tl σ H fun x H1 => iLQ K R x H1) : iList K tl σ H R := h
theorem r_iT (h : tl σ H fun x H1 => iTQ K R x H1) : iTup K tl σ H R := h
theorem r_iR (h : ta σ H fun vs H1 => iRQ R vs H1) : iRng1 ta σ H R := h
theorem r_gname {i : Nat} {v : V} {Qs : L2.St → Hp → Prop} (h : Qs (σ.set i (some v)) H) : gName i v σ H Qs := h
theorem r_yes {Qb : Bool → Hp → Prop} (h : Qb true H) : tYes σ H Qb := h
/-- a test, an element that change nothing: the filtered, the mapped list -/
def LcP (g : TG) (tt : TT) (te : TE) (vs : List Nat) (σ : L2.St) (H : Hp) (b : V → Bool) (f : V → V) (x : V) : Prop := ∀ H', Kp No H H' → ∀ (R : VK) (S : Hp → Prop), (b x = true → ∀ H2, Kp No H' H2 → R (f x) H2) → (b x = false → ∀ H2, Kp No H' H2 → S H2) →
  g x (wipe σ vs) H' fun σ2 H2 => wipe σ2 vs = wipe σ vs ∧ tt σ2 H2 fun bb H3 => if bb = true then te σ2 H3 R else S H3
theorem take_snoc {α : Type} {l : List α} {i : Nat} {x : α} (h : l[i]? = some x) : l.take (i + 1) = l.take i ++ [x] := by
  rw [List.take_add_one, h]; rfl
theorem lcp_step {b : V → Bool} {f : V → V} {xs : List V} {Dl : Addr} {i : Nat} {x : V} {H' : Hp} (hi : xs[i]? = some x) (hz : xs.length ≤ 100000) (hp : LcP g tt te vs σ H b f x) (hD : H Dl = none) (k : Kp No H H') (e : H' Dl = some (.lst (((xs.take i).filter b).map f))) :
    g x (wipe σ vs) H' fun σ2 H2 => wipe σ2 vs = wipe σ vs ∧ tt σ2 H2 fun bb H3 => if bb = true then te σ2 H3 fun y H4 => ∃ acc, H4 Dl = some (.lst acc) ∧ acc.length < sizeLine ∧ (Kp No H (upd H4 Dl (.lst (acc ++ [y]))) ∧ (upd H4 Dl (.lst (acc ++ [y]))) Dl = some (.lst (((xs.take (i + 1)).filter b).map f)))
      else (Kp No H H3 ∧ H3 Dl = some (.lst (((xs.take (i + 1)).filter b).map f))) := by
  have hl : i < xs.length := (List.getElem?_eq_some_iff.mp hi).1
  refine hp H' k _ _ (fun hb H2 k2 => ?_) (fun hb H2 k2 => ?_)
  · have e2 := k2.keep _ _ e (fun z => z)
    refine ⟨_, e2, ?_, ?_, ?_⟩
    · refine lt_line1 ?_
      have z := List.length_filter_le b (xs.take i)
      rw [List.length_map]
      have z2 := List.length_take_le i xs
      omega
    · exact ((k.trans k2).mono fun _ z => z.elim).fresh (G := One Dl) (Kp.put1 e2) fun x z => by
        rw [show x = Dl from z]; exact .inr hD
    · rw [upd_same, take_snoc hi, List.filter_append, List.map_append]
      have z : [x].filter b = [x] := by rw [List.filter_cons, if_pos hb]; rfl
      rw [z]; rfl
  · refine ⟨k.trans k2, ?_⟩
    rw [take_snoc hi, List.filter_append]
    have z : [x].filter b = [] := by rw [List.filter_cons, if_neg (by rw [hb]; exact Bool.false_ne_true)]; rfl
    rw [z, List.append_nil]
    exact k2.keep _ _ e (fun z => z)
theorem lcp_list {a : Addr} {xs : List V} (hx : SqL K H a xs) (hz : xs.length ≤ 100000) (b : V → Bool) (f : V → V) (hs : ∀ x, x ∈ xs → LcP g tt te vs σ H b f x)
    (q : ∀ p H', H p = none → Kp No H H' → H' p = some (.lst ((xs.filter b).map f)) → Q (.ref p) H') : iLQ K (fun J H1 => lcQ J g tt te vs σ Q H1) (.ref a) H := by
  refine ⟨a, rfl, ⟨xs, hx⟩, fun Dl hD => ?_⟩
  refine lc_list (K := K) (a := a) (xs := xs) (fun i H' => Kp No H H' ∧ H' Dl = some (.lst (((xs.take i).filter b).map f))) ⟨Kp.new hD, upd_same⟩ (fun i H' _ h => h.1.sq (fun z => z) hx) (fun i x H' hi h => ?_) (fun H' h => ?_)
  · exact lcp_step hi hz (hs x (List.mem_of_getElem? hi)) hD h.1 h.2
  · have e := h.2
    rw [List.take_length] at e
    exact q _ _ hD h.1 e
theorem lcp_tup {a : Addr} {xs : List V} (hx : SqT K H a xs) (hz : xs.length ≤ 100000) (b : V → Bool) (f : V → V) (hs : ∀ x, x ∈ xs → LcP g tt te vs σ H b f x)
    (q : ∀ p H', H p = none → Kp No H H' → H' p = some (.lst ((xs.filter b).map f)) → Q (.ref p) H') : iTQ K (fun J H1 => lcQ J g tt te vs σ Q H1) (.ref a) H := by
  refine ⟨a, rfl, ⟨xs, hx⟩, fun Dl hD => ?_⟩
  refine lc_tup (K := K) (a := a) (xs := xs) (fun i H' => Kp No H H' ∧ H' Dl = some (.lst (((xs.take i).filter b).map f))) ⟨Kp.new hD, upd_same⟩ (fun i H' _ h => h.1.sqt (fun z => z) hx) (fun i x H' hi h => ?_) (fun H' h => ?_)
  · exact lcp_step hi hz (hs x (List.mem_of_getElem? hi)) hD h.1 h.2
  · have e := h.2
    rw [List.take_length] at e
    exact q _ _ hD h.1 e
def rangeV (n : Nat) : List V := (List.range n).map fun (k : Nat) => V.int (k : Int)
theorem rangeV_at {n i : Nat} (h : i < n) : (rangeV n)[i]? = some (V.int (i : Int)) := by
  unfold rangeV
  rw [List.getElem?_map, List.getElem?_range h]; rfl
theorem lcp_range {j : Int} (h0 : 0 ≤ j) (hz : j ≤ 100000) (b : V → Bool) (f : V → V) (hs : ∀ (i : Nat), (i : Int) < j → LcP g tt te vs σ H b f (.int (i : Int)))
    (q : ∀ p H', H p = none → Kp No H H' → H' p = some (.lst (((rangeV j.toNat).filter b).map f)) → Q (.ref p) H') : iRQ (fun J H1 => lcQ J g tt te vs σ Q H1) [.int j] H := by
  refine ⟨j, rfl, by omega, by omega, fun Dl hD => ?_⟩
  have hl : (rangeV j.toNat).length = j.toNat := by unfold rangeV; rw [List.length_map, List.length_range]
  refine lc_range (lo := 0) (n := j.toNat) (fun i H' => Kp No H H' ∧ H' Dl = some (.lst ((((rangeV j.toNat).take i).filter b).map f))) ⟨Kp.new hD, upd_same⟩ (fun i H' hi h => ?_) (fun H' h => ?_)
  · rw [show (0 : Int) + (i : Int) = (i : Int) by omega]
    exact lcp_step (rangeV_at hi) (by rw [hl]; omega) (hs i (by omega)) hD h.1 h.2
  · have e := h.2
    rw [List.take_of_length_le (by rw [hl]; exact Nat.le_refl _)] at e
    exact q _ _ hD h.1 e
theorem for_l {a : Addr} {xs : List V} (Pv : Nat → L2.St → Hp → Prop) (h0 : Pv 0 σ H) (hl : ∀ i σ' H', i ≤ xs.length → Pv i σ' H' → SqL K H' a xs)
    (hs : ∀ i x σ' H', xs[i]? = some x → Pv i σ' H' → g x σ' H' fun σ2 H2 => tb { D with nx := Pv (i + 1), ct := Pv (i + 1), bk := D.nx } σ2 H2) (hd : ∀ σ' H', Pv xs.length σ' H' → D.nx σ' H') : iLQ K (fun J H1 => forQ J g tb D σ H1) (.ref a) H :=
  ⟨a, rfl, ⟨xs, hl 0 σ H (Nat.zero_le _) h0⟩, for_list Pv h0 hl hs hd⟩
theorem for_t {a : Addr} {xs : List V} (Pv : Nat → L2.St → Hp → Prop) (h0 : Pv 0 σ H) (hl : ∀ i σ' H', i ≤ xs.length → Pv i σ' H' → SqT K H' a xs)
    (hs : ∀ i x σ' H', xs[i]? = some x → Pv i σ' H' → g x σ' H' fun σ2 H2 => tb { D with nx := Pv (i + 1), ct := Pv (i + 1), bk := D.nx } σ2 H2) (hd : ∀ σ' H', Pv xs.length σ' H' → D.nx σ' H') : iTQ K (fun J H1 => forQ J g tb D σ H1) (.ref a) H :=
  ⟨a, rfl, ⟨xs, hl 0 σ H (Nat.zero_le _) h0⟩, for_tup Pv h0 hl hs hd⟩
theorem for_r {j : Int} (hj : 0 ≤ j ∧ j ≤ 100000) (Pv : Nat → L2.St → Hp → Prop) (h0 : Pv 0 σ H)
    (hs : ∀ (i : Nat) σ' H', (i : Int) < j → Pv i σ' H' → g (.int (i : Int)) σ' H' fun σ2 H2 => tb { D with nx := Pv (i + 1), ct := Pv (i + 1), bk := D.nx } σ2 H2) (hd : ∀ σ' H', Pv j.toNat σ' H' → D.nx σ' H') : iRQ (fun J H1 => forQ J g tb D σ H1) [.int j] H := by
  refine ⟨j, rfl, by omega, by omega, for_range Pv h0 (fun i σ' H' hi h => ?_) hd⟩
  rw [show (0 : Int) + (i : Int) = (i : Int) by omega]
  exact hs i σ' H' (by omega) h
/-- a comprehension whose element changes things: I says what holds behind i turns with the list so far -/
theorem lci_range {j : Int} (h0 : 0 ≤ j) (hz : j ≤ 100000) (I : Nat → List V → Hp → Prop) (hs0 : ∀ H2, Kp No H H2 → I 0 [] H2) (hlen : ∀ i acc H', I i acc H' → acc.length ≤ i)
    (hs : ∀ (i : Nat) acc Dl H', (i : Int) < j → H Dl = none → H' Dl = some (.lst acc) → I i acc H' → g (.int (i : Int)) (wipe σ vs) H' fun σ2 H2 => wipe σ2 vs = wipe σ vs ∧ tt σ2 H2 fun b H3 =>
      if b = true then te σ2 H3 fun y H4 => H4 Dl = some (.lst acc) ∧ ∀ H5, Kp (One Dl) H4 H5 → I (i + 1) (acc ++ [y]) H5 else H3 Dl = some (.lst acc) ∧ I (i + 1) acc H3)
    (mono : ∀ (σ2 : L2.St) (H2 : Hp) (R R' : VK), (∀ v H', R v H' → R' v H') → te σ2 H2 R → te σ2 H2 R') (monoT : ∀ (σ2 : L2.St) (H2 : Hp) (R R' : Bool → Hp → Prop), (∀ v H', R v H' → R' v H') → tt σ2 H2 R → tt σ2 H2 R')
    (monoG : ∀ (v : V) (σ2 : L2.St) (H2 : Hp) (R R' : L2.St → Hp → Prop), (∀ v H', R v H' → R' v H') → g v σ2 H2 R → g v σ2 H2 R')
    (q : ∀ p acc H', H p = none → H' p = some (.lst acc) → I j.toNat acc H' → Q (.ref p) H') : iRQ (fun J H1 => lcQ J g tt te vs σ Q H1) [.int j] H := by
  refine ⟨j, rfl, by omega, by omega, fun Dl hD => ?_⟩
  refine lc_range (lo := 0) (n := j.toNat) (fun i H' => ∃ acc, H' Dl = some (.lst acc) ∧ I i acc H') ⟨[], upd_same, hs0 _ (Kp.new hD)⟩ (fun i H' hi h => ?_) (fun H' h => ?_)
  · obtain ⟨acc, e, h⟩ := h
    rw [show (0 : Int) + (i : Int) = (i : Int) by omega]
    refine monoG _ _ _ _ _ ?_ (hs i acc Dl H' (by omega) hD e h)
    rintro σ2 H2 ⟨hw, ht⟩
    refine ⟨hw, monoT _ _ _ _ ?_ ht⟩
    intro b H3 hb
    cases b with
    | true =>
      rw [if_pos rfl] at hb ⊢
      refine mono _ _ _ _ ?_ hb
      rintro y H4 ⟨e4, h5⟩
      refine ⟨acc, e4, lt_line1 ?_, acc ++ [y], upd_same, h5 _ (Kp.put1 e4)⟩
      have := hlen i acc H' h
      omega
    | false =>
      rw [if_neg Bool.false_ne_true] at hb ⊢
      exact ⟨acc, hb.1, hb.2⟩
  · obtain ⟨acc, e, h⟩ := h
    exact q Dl acc H' hD e h
end
end Ph
namespace Ph
open PySem PySem.Spec PyProof.Rows L2
/-! ### == of data -/
mutual
def noB : PyData → Bool
  | .bool _ => false
  | .dict _ => false
  | .list xs => noBs xs
  | .tuple xs => noBs xs
  | .none => true
  | .int _ => true
  | .str _ => true
def noBs : List PyData → Bool
  | [] => true
  | x :: xs => noB x && noBs xs
end
mutual
theorem eqv_iff : ∀ (d e : PyData), noB d = true → noB e = true → (PyData.eqv d e = true ↔ d = e)
  | .bool _, _, h, _ => by simp [noB] at h
  | .dict _, _, h, _ => by simp [noB] at h
  | _, .bool _, _, h => by simp [noB] at h
  | _, .dict _, _, h => by simp [noB] at h
  | .none, .none, _, _ => by simp [PyData.eqv]
  | .none, .int _, _, _ => by simp [PyData.eqv]
  | .none, .str _, _, _ => by simp [PyData.eqv]
  | .none, .list _, _, _ => by simp [PyData.eqv]
  | .none, .tuple _, _, _ => by simp [PyData.eqv]
  | .int _, .none, _, _ => by simp [PyData.eqv]
  | .int i, .int j, _, _ => by simp [PyData.eqv]
  | .int _, .str _, _, _ => by simp [PyData.eqv]
  | .int _, .list _, _, _ => by simp [PyData.eqv]
  | .int _, .tuple _, _, _ => by simp [PyData.eqv]
  | .str _, .none, _, _ => by simp [PyData.eqv]
  | .str _, .int _, _, _ => by simp [PyData.eqv]
  | .str x, .str y, _, _ => by simp [PyData.eqv]
  | .str _, .list _, _, _ => by simp [PyData.eqv]
  | .str _, .tuple _, _, _ => by simp [PyData.eqv]
  | .list _, .none, _, _ => by simp [PyData.eqv]
  | .list _, .int _, _, _ => by simp [PyData.eqv]
  | .list _, .str _, _, _ => by simp [PyData.eqv]
  | .list xs, .list ys, h1, h2 => by
    rw [PyData.eqv, eqvAll_iff xs ys (by simpa [noB] using h1) (by simpa [noB] using h2), PyData.list.injEq]
  | .list _, .tuple _, _, _ => by simp [PyData.eqv]
  | .tuple _, .none, _, _ => by simp [PyData.eqv]
  | .tuple _, .int _, _, _ => by simp [PyData.eqv]
  | .tuple _, .str _, _, _ => by simp [PyData.eqv]
  | .tuple _, .list _, _, _ => by simp [PyData.eqv]
  | .tuple xs, .tuple ys, h1, h2 => by
    rw [PyData.eqv, eqvAll_iff xs ys (by simpa [noB] using h1) (by simpa [noB] using h2), PyData.tuple.injEq]
theorem eqvAll_iff : ∀ (xs ys : List PyData), noBs xs = true → noBs ys = true → (PyData.eqvAll xs ys = true ↔ xs = ys)
  | [], [], _, _ => by simp [PyData.eqvAll]
  | [], _ :: _, _, _ => by simp [PyData.eqvAll]
  | _ :: _, [], _, _ => by simp [PyData.eqvAll]
  | x :: xs, y :: ys, h1, h2 => by
    rw [noBs, Bool.and_eq_true] at h1 h2
    rw [PyData.eqvAll, Bool.and_eq_true, eqv_iff x y h1.1 h2.1, eqvAll_iff xs ys h1.2 h2.2, List.cons.injEq]
end
theorem bool_iff {b c : Bool} (h : b = true ↔ c = true) : b = c := by
  cases b <;> cases c <;> simp_all
/-- data of the forms that are compared here: no bools, shaped -/
structure Fine (n : Nat) (d : PyData) : Prop where
  b : noB d = true
  l : d.canLay0 = true
  d : d.depth ≤ n
theorem Fine.mono {n m : Nat} {d : PyData} (h : Fine n d) (k : n ≤ m) : Fine m d := ⟨h.b, h.l, Nat.le_trans h.d k⟩
theorem Fine.sh {n : Nat} {d : PyData} (h : Fine n d) (hn : n ≤ 64) : SeqAt.shaped d = true := by
  unfold SeqAt.shaped
  rw [h.l, decide_eq_true (Nat.le_trans h.d hn)]; rfl
theorem fine_int {n : Nat} {i : Int} : Fine n (.int i) := ⟨rfl, rfl, Nat.zero_le _⟩
theorem fine_non {n : Nat} : Fine n .none := ⟨rfl, rfl, Nat.zero_le _⟩
theorem fine_str {n : Nat} {x : Str} (h : PyData.strOk x = true) : Fine n (.str x) := ⟨rfl, h, Nat.zero_le _⟩
theorem fines : ∀ {n : Nat} {ds : List PyData}, (∀ d ∈ ds, Fine n d) → noBs ds = true ∧ PyData.canLayAll0 ds = true ∧ PyData.depthAll ds ≤ n
  | n, [], _ => ⟨rfl, rfl, Nat.zero_le _⟩
  | n, x :: xs, h => by
    have hx := h x List.mem_cons_self
    obtain ⟨h1, h2, h3⟩ := fines fun d hd => h d (List.mem_cons_of_mem _ hd)
    refine ⟨by rw [noBs, hx.b, h1]; rfl, by rw [PyData.canLayAll0, hx.l, h2]; rfl, ?_⟩
    rw [PyData.depthAll]
    exact Nat.max_le.mpr ⟨hx.d, h3⟩
theorem fine_list {n : Nat} {ds : List PyData} (h : ∀ d ∈ ds, Fine n d) : Fine (n + 1) (.list ds) := by
  obtain ⟨h1, h2, h3⟩ := fines h
  exact ⟨by rw [noB]; exact h1, by rw [PyData.canLay0]; exact h2, by rw [PyData.depth]; omega⟩
theorem fine_tup {n : Nat} {ds : List PyData} (h : ∀ d ∈ ds, Fine n d) : Fine (n + 1) (.tuple ds) := by
  obtain ⟨h1, h2, h3⟩ := fines h
  exact ⟨by rw [noB]; exact h1, by rw [PyData.canLay0]; exact h2, by rw [PyData.depth]; omega⟩
/-- the int i as data -/
def pI (i : Int) : PyData := .int i
def pL (ns : List Int) : PyData := .list (ns.map pI)
theorem fine_pL {n : Nat} {ns : List Int} : Fine (n + 1) (pL ns) := fine_list fun d hd => by
  obtain ⟨i, _, rfl⟩ := List.mem_map.mp hd
  exact fine_int
theorem pL_inj {ns ms : List Int} (h : pL ns = pL ms) : ns = ms := by
  have h := PyData.list.inj h
  exact List.map_inj_right (fun a b e => PyData.int.inj e) |>.mp h
section
variable {K : PySem.W.Frag} {H : Hp} {Q : VK} {x y : V} {d e : PyData}
theorem dpa_ints : ∀ {ns : List Int}, DpAll K H (ns.map V.int) (ns.map pI)
  | [] => .nil
  | i :: r => .cons (.int i) dpa_ints
theorem dp_ints {a : Addr} {ns : List Int} (h : SqL K H a (ns.map V.int)) : Dp K H (.ref a) (pL ns) := .lst h dpa_ints
theorem dp_nil {a : Addr} (h : SqL K H a []) : Dp K H (.ref a) (pL []) := .lst h .nil
theorem r_eqD {b : Bool} (hx : Dp K H x d) (hy : Dp K H y e) (fd : Fine 60 d) (fe : Fine 60 e) (hb : b = true ↔ d = e) (q : Q (.bl b) H) : rEqD K x y H Q :=
  ⟨d, e, hx, hy, fd.sh (by decide), fe.sh (by decide), by
    rw [show PyData.eqv d e = b from bool_iff (by rw [eqv_iff d e fd.b fe.b, hb])]; exact q⟩
theorem r_neD {b : Bool} (hx : Dp K H x d) (hy : Dp K H y e) (fd : Fine 60 d) (fe : Fine 60 e) (hb : b = true ↔ d = e) (q : Q (.bl (!b)) H) : rNeD K x y H Q :=
  ⟨d, e, hx, hy, fd.sh (by decide), fe.sh (by decide), by
    rw [show PyData.eqv d e = b from bool_iff (by rw [eqv_iff d e fd.b fe.b, hb])]; exact q⟩
/-- equal data -/
theorem r_eqS (hx : Dp K H x d) (hy : Dp K H y d) (fd : Fine 60 d) (q : Q (.bl true) H) : rEqD K x y H Q := r_eqD hx hy fd fd ⟨fun _ => rfl, fun _ => rfl⟩ q
theorem r_neS (hx : Dp K H x d) (hy : Dp K H y d) (fd : Fine 60 d) (q : Q (.bl false) H) : rNeD K x y H Q := r_neD (b := true) hx hy fd fd ⟨fun _ => rfl, fun _ => rfl⟩ q
theorem r_eqL {a b : Addr} {ns ms : List Int} (h1 : SqL K H a (ns.map V.int)) (h2 : SqL K H b (ms.map V.int)) (q : Q (.bl (decide (ns = ms))) H) : rEqD K (.ref a) (.ref b) H Q :=
  r_eqD (dp_ints h1) (dp_ints h2) (fine_pL (n := 59)) (fine_pL (n := 59)) (by rw [decide_eq_true_eq]; exact ⟨fun h => by rw [h], pL_inj⟩) q
theorem r_neL {a b : Addr} {ns ms : List Int} (h1 : SqL K H a (ns.map V.int)) (h2 : SqL K H b (ms.map V.int)) (q : Q (.bl (!decide (ns = ms))) H) : rNeD K (.ref a) (.ref b) H Q :=
  r_neD (dp_ints h1) (dp_ints h2) (fine_pL (n := 59)) (fine_pL (n := 59)) (by rw [decide_eq_true_eq]; exact ⟨fun h => by rw [h], pL_inj⟩) q
end
end Ph
namespace Ph
open PySem PySem.Spec PyProof.Rows L2
def top (i : Nat) : Stmt := PySem.Challenge.pw_pipehouse_k01_whole_pipes.main.body.getD i (.Pass ⟨0, 0, 0, 0⟩)
abbrev s_is_whole : Stmt := top 4
def d_is_whole : He.DefD := ⟨("is_whole", none), "is_whole", "is_whole", defArgs s_is_whole, defBody s_is_whole, defScope s_is_whole, [], []⟩
abbrev s_look_number : Stmt := top 5
def d_look_number : He.DefD := ⟨("look_number", none), "look_number", "look_number", defArgs s_look_number, defBody s_look_number, defScope s_look_number, [], []⟩
abbrev s_look_bytes : Stmt := top 6
def d_look_bytes : He.DefD := ⟨("look_bytes", none), "look_bytes", "look_bytes", defArgs s_look_bytes, defBody s_look_bytes, defScope s_look_bytes, [], []⟩
abbrev s_Pipe_init : Stmt := inClass (top 10) 0
def d_Pipe_init : He.DefD := ⟨("Pipe", some "__init__"), "__init__", "Pipe.__init__", defArgs s_Pipe_init, defBody s_Pipe_init, defScope s_Pipe_init, [(.int 8)], []⟩
abbrev s_Pipe_put : Stmt := inClass (top 10) 1
def d_Pipe_put : He.DefD := ⟨("Pipe", some "put"), "put", "Pipe.put", defArgs s_Pipe_put, defBody s_Pipe_put, defScope s_Pipe_put, [], []⟩
abbrev s_Pipe_take : Stmt := inClass (top 10) 2
def d_Pipe_take : He.DefD := ⟨("Pipe", some "take"), "take", "Pipe.take", defArgs s_Pipe_take, defBody s_Pipe_take, defScope s_Pipe_take, [], []⟩
abbrev s_Pipe_left : Stmt := inClass (top 10) 3
def d_Pipe_left : He.DefD := ⟨("Pipe", some "left"), "left", "Pipe.left", defArgs s_Pipe_left, defBody s_Pipe_left, defScope s_Pipe_left, [], []⟩
abbrev s_Pipe_held : Stmt := inClass (top 10) 4
def d_Pipe_held : He.DefD := ⟨("Pipe", some "held"), "held", "Pipe.held", defArgs s_Pipe_held, defBody s_Pipe_held, defScope s_Pipe_held, [], []⟩
abbrev s_Pipe_len : Stmt := inClass (top 10) 5
def d_Pipe_len : He.DefD := ⟨("Pipe", some "__len__"), "__len__", "Pipe.__len__", defArgs s_Pipe_len, defBody s_Pipe_len, defScope s_Pipe_len, [], []⟩
abbrev s_law_town : Stmt := top 12
def d_law_town : He.DefD := ⟨("_law_town", none), "_law_town", "_law_town", defArgs s_law_town, defBody s_law_town, defScope s_law_town, [], []⟩
abbrev s_law_draw : Stmt := top 13
def d_law_draw : He.DefD := ⟨("_law_draw", none), "_law_draw", "_law_draw", defArgs s_law_draw, defBody s_law_draw, defScope s_law_draw, [], []⟩
abbrev s_law_pick : Stmt := top 14
def d_law_pick : He.DefD := ⟨("_law_pick", none), "_law_pick", "_law_pick", defArgs s_law_pick, defBody s_law_pick, defScope s_law_pick, [], []⟩
abbrev s_law_whole : Stmt := top 15
def d_law_whole : He.DefD := ⟨("_law_whole", none), "_law_whole", "_law_whole", defArgs s_law_whole, defBody s_law_whole, defScope s_law_whole, [], []⟩
abbrev s_law_whole_list : Stmt := top 16
def d_law_whole_list : He.DefD := ⟨("_law_whole_list", none), "_law_whole_list", "_law_whole_list", defArgs s_law_whole_list, defBody s_law_whole_list, defScope s_law_whole_list, [], []⟩
abbrev s_law_byte : Stmt := top 17
def d_law_byte : He.DefD := ⟨("_law_byte", none), "_law_byte", "_law_byte", defArgs s_law_byte, defBody s_law_byte, defScope s_law_byte, [], []⟩
abbrev s_law_row : Stmt := top 18
def d_law_row : He.DefD := ⟨("_law_row", none), "_law_row", "_law_row", defArgs s_law_row, defBody s_law_row, defScope s_law_row, [], []⟩
abbrev s_law : Stmt := top 19
def d_law : He.DefD := ⟨("law", none), "law", "law", defArgs s_law, defBody s_law, defScope s_law, [], []⟩
end Ph
namespace Ph
open PySem PySem.Spec PyProof.Rows L2
structure TxK (K : PySem.W.Frag) : Prop where
  x_HouseError : XOk K (He.ga K "HouseError")
  x_BadBytes : XOk K (He.ga K "BadBytes")
  x_BadNumber : XOk K (He.ga K "BadNumber")
  c_Pipe : Cls K (He.ga K "Pipe")
  n_Pipe : Mk K (He.ga K "Pipe") (He.fAd K ("Pipe", some "__init__"))
  m_Pipe_put : Meth K (He.ga K "Pipe") "put" (He.fAd K ("Pipe", some "put"))
  m_Pipe_take : Meth K (He.ga K "Pipe") "take" (He.fAd K ("Pipe", some "take"))
  m_Pipe_left : Meth K (He.ga K "Pipe") "left" (He.fAd K ("Pipe", some "left"))
  m_Pipe_held : Meth K (He.ga K "Pipe") "held" (He.fAd K ("Pipe", some "held"))
  m_Pipe_len : Meth K (He.ga K "Pipe") "__len__" (He.fAd K ("Pipe", some "__len__"))
  a_Pipe_room : NoAttr K (He.ga K "Pipe") "room"
  a_Pipe_some : NoAttr K (He.ga K "Pipe") "some"
end Ph
namespace Ph
open PySem PySem.Spec PyProof.Rows L2
structure Txt (K : PySem.W.Frag) (mg : Str → Option Value) : Prop extends TxK K where
  d_is_whole : ∃ fd, DFun K d_is_whole fd
  g_is_whole : mg "is_whole" = some (.ref (He.ga K "is_whole"))
  d_look_number : ∃ fd, DFun K d_look_number fd
  g_look_number : mg "look_number" = some (.ref (He.ga K "look_number"))
  d_look_bytes : ∃ fd, DFun K d_look_bytes fd
  g_look_bytes : mg "look_bytes" = some (.ref (He.ga K "look_bytes"))
  d_Pipe_init : ∃ fd, DFun K d_Pipe_init fd
  d_Pipe_put : ∃ fd, DFun K d_Pipe_put fd
  d_Pipe_take : ∃ fd, DFun K d_Pipe_take fd
  d_Pipe_left : ∃ fd, DFun K d_Pipe_left fd
  d_Pipe_held : ∃ fd, DFun K d_Pipe_held fd
  d_Pipe_len : ∃ fd, DFun K d_Pipe_len fd
  d_law_town : ∃ fd, DFun K d_law_town fd
  g_law_town : mg "_law_town" = some (.ref (He.ga K "_law_town"))
  d_law_draw : ∃ fd, DFun K d_law_draw fd
  g_law_draw : mg "_law_draw" = some (.ref (He.ga K "_law_draw"))
  d_law_pick : ∃ fd, DFun K d_law_pick fd
  g_law_pick : mg "_law_pick" = some (.ref (He.ga K "_law_pick"))
  d_law_whole : ∃ fd, DFun K d_law_whole fd
  g_law_whole : mg "_law_whole" = some (.ref (He.ga K "_law_whole"))
  d_law_whole_list : ∃ fd, DFun K d_law_whole_list fd
  g_law_whole_list : mg "_law_whole_list" = some (.ref (He.ga K "_law_whole_list"))
  d_law_byte : ∃ fd, DFun K d_law_byte fd
  g_law_byte : mg "_law_byte" = some (.ref (He.ga K "_law_byte"))
  d_law_row : ∃ fd, DFun K d_law_row fd
  g_law_row : mg "_law_row" = some (.ref (He.ga K "_law_row"))
  d_law : ∃ fd, DFun K d_law fd
  k_MOST_ROOM : ∃ u, mg "MOST_ROOM" = some u ∧ RelV (.int 40) u
  k_MOST_BYTES : ∃ u, mg "MOST_BYTES" = some u ∧ RelV (.int 200) u
  f_len : mg "len" = none
  f_min : mg "min" = none
  f_list : mg "list" = none
  f_isinstance : mg "isinstance" = none
  f_int : mg "int" = none
  f_bool : mg "bool" = none
  f_all : mg "all" = none
  f_range : mg "range" = none
  f_ValueError : mg "ValueError" = none
  g_HouseError : mg "HouseError" = some (.ref (He.ga K "HouseError"))
  g_BadBytes : mg "BadBytes" = some (.ref (He.ga K "BadBytes"))
  g_BadNumber : mg "BadNumber" = some (.ref (He.ga K "BadNumber"))
  g_Pipe : mg "Pipe" = some (.ref (He.ga K "Pipe"))
end Ph
/-! ### small steps -/
local macro_rules | `(tactic| walk_at "ne") => `(tactic| first
  | assumption
  | (refine Ne.symm ?_; assumption)
  | (refine @L2.ne_of_none ?H _ _ ?o ?h1 ?h2; (case h2 => assumption); (case h1 => walk_at "hp"))
  | (refine Ne.symm (@L2.ne_of_none ?H _ _ ?o ?h1 ?h2); (case h2 => assumption); (case h1 => walk_at "hp"))
  | (refine @L2.ne_of ?H _ _ ?o ?u ?h1 ?h2 ?h3; (case h1 => walk_at "hp"); (case h2 => walk_at "hp"); (case h3 => intro z; cases z)))
local macro_rules | `(tactic| walk_at "nf") => `(tactic| first
  | assumption
  | exact fun z => z
  | (intro z; exact absurd (show _ = _ from z) (by walk_at "ne"))
  | (intro z; rcases (show _ ∨ _ from z) with z | z <;> exact absurd (show _ = _ from z) (by walk_at "ne")))
local macro_rules | `(tactic| walk_at "hp") => `(tactic| first
  | assumption
  | exact L2.upd_same
  | (refine Ph.Kp.keep (by assumption) _ _ ?_ ?_; walk_at "hp"; walk_at "nf"))
local macro_rules | `(tactic| walk_at "sq") => `(tactic| first
  | assumption
  | exact L2.SqL.of (by walk_at "hp")
  | exact L2.SqT.of (by walk_at "hp"))
local macro_rules | `(tactic| walk_at "s1") => `(tactic| with_reducible first
  | refine Ph.r_seq ?_ | refine Ph.r_set ?_ | refine Ph.r_drop ?_ | refine Ph.r_ret ?_ | refine Ph.r_if ?_ | refine Ph.r_next ?_
  | refine Ph.r_var rfl ?_ | refine Ph.r_c ?_ | refine Ph.r_op ?_ | refine Ph.r_I0 ?_ | refine Ph.r_cons ?_ | refine Ph.r_nil ?_ | refine Ph.r_cb ?_
  | refine Ph.r_B ?_ | refine Ph.r_test ?_ | refine Ph.r_and ?_ | refine Ph.r_or ?_ | refine Ph.r_not ?_ | refine Ph.r_andV ?_ | refine Ph.r_orV ?_ | refine Ph.r_notV ?_ | refine Ph.r_ifE ?_
  | refine Ph.r_call ?_ | refine Ph.r_meth ?_ | refine Ph.r_fld ?_ | refine Ph.r_sfld ?_ | refine Ph.r_bm ?_ | refine Ph.r_bm0 ?_ | refine Ph.r_sl ?_ | refine Ph.r_noPart ?_ | refine Ph.r_part ?_
  | refine Ph.r_lst ?_ | refine Ph.r_tup ?_ | refine Ph.r_min2 ?_ | refine Ph.r_chain ?_ | refine Ph.r_bl ?_ | refine Ph.r_int ?_ | refine Ph.r_T ?_ | refine Ph.r_F ?_ | refine Ph.r_make ?_ | refine Ph.r_makeK ?_ | refine Ph.r_lc ?_ | refine Ph.r_for ?_ | refine Ph.r_iL ?_ | refine Ph.r_iT ?_ | refine Ph.r_iR ?_ | refine Ph.r_gname ?_ | refine Ph.r_yes ?_ | refine Ph.r_asg ?_)
local macro_rules | `(tactic| walk_at "go") => `(tactic| repeat walk_at "s1")
local macro_rules | `(tactic| walk_at "ty4") => `(tactic| first | exact .inl rfl | exact .inr (.inl rfl) | exact .inr (.inr (.inl rfl)) | exact .inr (.inr (.inr rfl)))
local macro_rules | `(tactic| walk_at "lk") => `(tactic| first
  | exact Ph.lk_hit
  | rfl
  | (refine (Ph.lk_miss (by decide +kernel)).trans ?_; walk_at "lk"))
local macro_rules | `(tactic| walk_at "pf") => `(tactic| ((repeat first | rw [Ph.pf_hit] | rw [Ph.pf_miss (by decide +kernel)] | rw [Ph.pf_nil]) <;> rfl))
namespace Ph
open PySem PySem.Spec PyProof.Rows L2
theorem cut_to {xs : List V} {k : Int} (h : 0 ≤ k) : cutV xs none (some k) = xs.take k.toNat := by
  unfold cutV
  have e : k = (k.toNat : Int) := (Int.toNat_of_nonneg h).symm
  rw [e, HT.sIx_nat, Int.toNat_natCast]
  show (xs.drop 0).take (min k.toNat xs.length - 0) = _
  rw [List.drop_zero, Nat.sub_zero, ← List.take_eq_take_min]
theorem cut_from {xs : List V} {k : Int} (h : 0 ≤ k) : cutV xs (some k) none = xs.drop k.toNat := by
  unfold cutV
  have e : k = (k.toNat : Int) := (Int.toNat_of_nonneg h).symm
  rw [e, HT.sIx_nat, Int.toNat_natCast]
  show (xs.drop (min k.toNat xs.length)).take (xs.length - min k.toNat xs.length) = _
  by_cases hk : k.toNat ≤ xs.length
  · rw [Nat.min_eq_left hk]
    exact List.take_of_length_le (by rw [List.length_drop]; omega)
  · rw [Nat.min_eq_right (by omega), List.drop_length, List.drop_of_length_le (by omega), List.take_nil]
theorem cut_mid {xs : List V} {j k : Int} (h : 0 ≤ j) (h2 : 0 ≤ k) : cutV xs (some j) (some (j + k)) = (xs.drop j.toNat).take k.toNat := by
  unfold cutV
  have e : j = (j.toNat : Int) := (Int.toNat_of_nonneg h).symm
  have e2 : j + k = ((j.toNat + k.toNat : Nat) : Int) := by omega
  rw [e2, HT.sIx_nat, e, HT.sIx_nat, Int.toNat_natCast]
  by_cases hj : j.toNat ≤ xs.length
  · rw [Nat.min_eq_left hj, List.take_eq_take_iff, List.length_drop]
    omega
  · rw [List.drop_of_length_le (by omega), List.drop_of_length_le (by omega)]; simp
def IsB (ns : List Int) : Prop := ∀ b ∈ ns, 0 ≤ b ∧ b ≤ 255
def IsRow (H : Hp) (x : V) (m : Int) : Prop := ∃ a ns, x = .ref a ∧ H a = some (.lst (ns.map V.int)) ∧ (ns.length : Int) ≤ m ∧ IsB ns
theorem row_of {H : Hp} {a : Addr} {xs : List V} {m : Int} (h : H a = some (.lst xs)) (hl : (xs.length : Int) ≤ m) (hb : (xs.map fun y => isW y 0 255).all id = true) : IsRow H (.ref a) m := by
  have key : ∀ xs : List V, (xs.map fun y => isW y 0 255).all id = true → ∃ ns : List Int, xs = ns.map V.int ∧ IsB ns := by
    intro xs
    induction xs with
    | nil => exact fun _ => ⟨[], rfl, fun _ h => by cases h⟩
    | cons y r ih =>
      intro hb
      rw [List.map_cons, List.all_cons, Bool.and_eq_true] at hb
      obtain ⟨ns, e, hn⟩ := ih hb.2
      have hy : isW y 0 255 = true := hb.1
      cases y with
      | int i =>
        have hy2 : (decide (0 ≤ i) && decide (i ≤ 255)) = true := hy
        rw [Bool.and_eq_true, decide_eq_true_eq, decide_eq_true_eq] at hy2
        refine ⟨i :: ns, by rw [e]; rfl, fun b hb => ?_⟩
        rcases List.mem_cons.mp hb with rfl | hb
        · exact hy2
        · exact hn b hb
      | _ => cases hy
  obtain ⟨ns, e, hn⟩ := key xs hb
  subst e
  rw [List.length_map] at hl
  exact ⟨a, ns, rfl, h, hl, hn⟩
theorem row_all {H : Hp} {a : Addr} {xs : List V} {m : Int} (h : H a = some (.lst xs)) (hr : IsRow H (.ref a) m) : (xs.length : Int) ≤ m ∧ (xs.map fun y => isW y 0 255).all id = true := by
  obtain ⟨b, ns, e, h2, hl, hn⟩ := hr
  cases e
  rw [h] at h2
  cases h2
  refine ⟨by rw [List.length_map]; exact hl, ?_⟩
  rw [List.map_map, List.all_map, List.all_eq_true]
  intro b hb
  show (decide (0 ≤ b) && decide (b ≤ 255)) = true
  rw [Bool.and_eq_true, decide_eq_true_eq, decide_eq_true_eq]
  exact hn b hb
theorem isW_int {x : V} {lo hi : Int} (h : isW x lo hi = true) : ∃ i, x = .int i ∧ lo ≤ i ∧ i ≤ hi := by
  cases x with
  | int i =>
    have hy : (decide (lo ≤ i) && decide (i ≤ hi)) = true := h
    rw [Bool.and_eq_true, decide_eq_true_eq, decide_eq_true_eq] at hy
    exact ⟨i, rfl, hy⟩
  | _ => cases h
theorem isW_of {i lo hi : Int} (h1 : lo ≤ i) (h2 : i ≤ hi) : isW (.int i) lo hi = true := by
  show (decide (lo ≤ i) && decide (i ≤ hi)) = true
  rw [decide_eq_true h1, decide_eq_true h2]; rfl
def ItemsTg (H : Hp) (x : V) : Prop := ∀ a xs, x = .ref a → H a = some (.lst xs) → ∀ y ∈ xs, ∃ k, Tg H y k
theorem items_ints {H : Hp} {a : Addr} {ns : List Int} (h : H a = some (.lst (ns.map V.int))) : ItemsTg H (.ref a) := by
  intro b xs e hb y hy
  cases e
  rw [h] at hb
  cases hb
  obtain ⟨i, _, rfl⟩ := List.mem_map.mp hy
  exact ⟨"int", .int i⟩
/-! ### the law's draws -/
/-- a town at t, its cells at c -/
def TownAt (H : Hp) (t c : Addr) : Prop := ∃ (n : Int) (cells : List Int), H t = some (.lst [.ref c, .int n]) ∧ H c = some (.lst (cells.map V.int)) ∧ 1 ≤ cells.length ∧ cells.length ≤ 63 ∧ t ≠ c
theorem TownAt.keep {H H2 : Hp} {t c : Addr} {F : Addr → Prop} (h : TownAt H t c) (k : Kp F H H2) (h1 : ¬ F t) (h2 : ¬ F c) : TownAt H2 t c := by
  obtain ⟨n, cells, e1, e2, r⟩ := h
  exact ⟨n, cells, k.keep _ _ e1 h1, k.keep _ _ e2 h2, r⟩
theorem TownAt.no {H H2 : Hp} {t c : Addr} (h : TownAt H t c) (k : Kp No H H2) : TownAt H2 t c := h.keep k (fun z => z) (fun z => z)
theorem TownAt.t {H : Hp} {t c : Addr} (h : TownAt H t c) : ∃ o, H t = some o := let ⟨_, _, e, _⟩ := h; ⟨_, e⟩
theorem TownAt.c {H : Hp} {t c : Addr} (h : TownAt H t c) : ∃ o, H c = some o := let ⟨_, _, _, e, _⟩ := h; ⟨_, e⟩
/-- a new object is none of the town's -/
theorem TownAt.new {H : Hp} {t c p : Addr} (h : TownAt H t c) (hp : H p = none) : ¬ Two t c p := fun z => by
  obtain ⟨_, e1⟩ := h.t
  obtain ⟨_, e2⟩ := h.c
  rcases z with z | z
  · rw [z, e1] at hp; cases hp
  · rw [z, e2] at hp; cases hp
theorem TownAt.ins {H : Hp} {t c p C dx : Addr} {fs : List (Str × V)} (h : TownAt H t c) (e : H p = some (.ins C dx fs)) : ¬ Two t c p := by
  obtain ⟨n, cells, e1, e2, _⟩ := h
  intro z
  rcases z with z | z
  · rw [z, e1] at e; cases e
  · rw [z, e2] at e; cases e
theorem rep_ints (k : Nat) (ns : List Int) : (List.replicate k (ns.map V.int)).flatten = ((List.replicate k ns).flatten).map V.int := by
  rw [List.map_flatten, List.map_replicate]
theorem rep_len (k : Nat) (ns : List Int) : ((List.replicate k ns).flatten).length = k * ns.length := by
  induction k with
  | zero => simp
  | succ k ih => rw [List.replicate_succ, List.flatten_cons, List.length_append, ih, Nat.succ_mul]; omega
theorem rep_isB {k : Nat} {ns : List Int} (h : IsB ns) : IsB (List.replicate k ns).flatten := fun b hb => by
  obtain ⟨l, hl, hb⟩ := List.mem_flatten.mp hb
  rw [List.eq_of_mem_replicate hl] at hb
  exact h b hb
theorem TownAt.at_ {H H2 : Hp} {t c b : Addr} (h : TownAt H t c) (k : Kp (One b) H H2) (n : ¬ Two t c b) : TownAt H2 t c :=
  h.keep k (fun z => n (.inl (show t = b from z).symm)) (fun z => n (.inr (show c = b from z).symm))
theorem ints_inj {ns ms : List Int} (h : some (HO.lst (ns.map V.int)) = some (HO.lst (ms.map V.int))) : ns = ms :=
  List.map_inj_right (fun _ _ e => V.int.inj e) |>.mp (HO.lst.inj (Option.some.inj h))
theorem ne_none {H : Hp} {a b : Addr} {o : HO} (h : H a = some o) (hb : H b = none) : a ≠ b := ne_of_none h hb
theorem none_ne {H : Hp} {a b : Addr} {o : HO} (h : H a = some o) (hb : H b = none) : b ≠ a := (ne_of_none h hb).symm
/-- how many of n bytes go into a room r that holds m -/
def fits (n : Nat) (r : Int) (m : Nat) : Nat := min n (r - m).toNat
def fPipe (r : Int) (l : Addr) : List (Str × V) := [("room", .int r), ("some", .ref l)]
structure PipeAt (K : PySem.W.Frag) (H : Hp) (p l : Addr) (r : Int) (ns : List Int) : Prop where
  ins : ∃ dx, H p = some (.ins (He.ga K "Pipe") dx (fPipe r l))
  lst : H l = some (.lst (ns.map V.int))
  len : (ns.length : Int) ≤ r
  room : 1 ≤ r ∧ r ≤ 40
  byt : IsB ns
theorem PipeAt.keep {K : PySem.W.Frag} {H H2 : Hp} {p l : Addr} {r : Int} {ns : List Int} {F : Addr → Prop} (h : PipeAt K H p l r ns) (k : Kp F H H2) (h1 : ¬ F p) (h2 : ¬ F l) : PipeAt K H2 p l r ns :=
  ⟨let ⟨dx, e⟩ := h.ins; ⟨dx, k.keep _ _ e h1⟩, k.keep _ _ h.lst h2, h.len, h.room, h.byt⟩
theorem PipeAt.ne {K : PySem.W.Frag} {H : Hp} {p l : Addr} {r : Int} {ns : List Int} (h : PipeAt K H p l r ns) : p ≠ l :=
  let ⟨_, e⟩ := h.ins
  ne_of e h.lst (by intro z; cases z)
end Ph
namespace Ph
open PySem PySem.Spec PyProof.Rows L2
def sp_is_whole (K : PySem.W.Frag) : Sp := Sp3 fun x l u H Q _ => ∃ n lo hi, Tg H x n ∧ l = .int lo ∧ u = .int hi ∧ Q (.bl (isW x lo hi)) H
def t_is_whole (K : PySem.W.Frag) (E : XK) : TS := (tRet (tAndV (tCB (rIsi K) (tCons (tVar 0) (tCons (tC (.ty "int")) tNil))) (tAndV (tNotV (tCB (rIsi K) (tCons (tVar 0) (tCons (tC (.ty "bool")) tNil)))) (tChain qLe qLe (tVar 1) (tVar 0) (tVar 2)))))
theorem pure_is_whole {K : PySem.W.Frag} (T : TxK K) {a0 a1 a2 : V} {H : Hp} {Q : VK} {E : XK} (h : sp_is_whole K [a0, a1, a2] H Q E) : t_is_whole K E { nx := fun _ H' => Q .non H', rt := Q } [some a0, some a1, some a2] H := by
  obtain ⟨_, _, _, e, n, lo, hi, ht, rfl, rfl, q⟩ := h
  cases e
  unfold t_is_whole
  walk_at "go"
  refine r_isi ht (by walk_at "ty4") ?_
  cases id ht with
  | int i =>
    rw [show isTy "int" "int" = true by decide]
    walk_at "go"
    refine r_isi ht (by walk_at "ty4") ?_
    rw [show isTy "int" "bool" = false by decide]
    walk_at "go"
    show if (!false) = true then _ else _
    refine r_T ?_
    walk_at "go"
    refine r_ite (fun e => ?_) (fun e => ?_)
    · walk_at "go"
      have z : isW (.int i) lo hi = decide (i ≤ hi) := by
        show (decide (lo ≤ i) && decide (i ≤ hi)) = _
        rw [e, Bool.true_and]
      rw [z] at q
      exact q
    · have z : isW (.int i) lo hi = false := by
        show (decide (lo ≤ i) && decide (i ≤ hi)) = _
        rw [e, Bool.false_and]
      rw [z] at q
      exact q
  | bl b =>
    rw [show isTy "bool" "int" = true by decide]
    walk_at "go"
    refine r_isi ht (by walk_at "ty4") ?_
    rw [show isTy "bool" "bool" = true by decide]
    walk_at "go"
    exact q
  | non => exact ⟨_, rfl, q⟩
  | str x => exact ⟨_, rfl, q⟩
  | lst h => exact ⟨_, rfl, q⟩
  | tup h => exact ⟨_, rfl, q⟩
  | dK h => exact ⟨_, rfl, q⟩
theorem sc_is_whole : FnScope ["thing", "low", "high"] ["thing", "low", "high"] (defScope s_is_whole) := ⟨rfl, rfl, rfl, by decide +kernel, rfl, by decide +kernel, by decide +kernel⟩
theorem bd_is_whole {K : PySem.W.Frag} : Bd K d_is_whole ["thing", "low", "high"] [] := fun fd F => ⟨[], .nil, FunD.bindsN F fun _ _ _ _ _ _ us hl => match us, hl with | [_, _, _], _ => rfl⟩
theorem ok_is_whole {P : Program} {w : World} {K : PySem.W.Frag} {mg : Str → Option Value} {base : Heap} (T : Txt K mg) : Ok P w K mg base d_is_whole 1 ["thing", "low", "high"] (sp_is_whole K) := by
  refine Ok.of (k := 0) T.d_is_whole sc_is_whole (fun vs H Q E h => ?_) (fun cdv A outer s H vs Q E hr h => ?_)
  · obtain ⟨a0, a1, a2, rfl, h⟩ := h
    rfl
  · obtain ⟨a0, a1, a2, rfl, h⟩ := h
    exact ⟨t_is_whole K E, (pss_one (ps_ret (pe_and (pe_callB call_isi (by rfl) T.f_isinstance (by decide +kernel) (pa_cons (pv 0) (pa_cons (q_ty T.f_int rfl (by decide +kernel)) pa_nil))) (pe_and (pe_not (pe_callB call_isi (by rfl) T.f_isinstance (by decide +kernel) (pa_cons (pv 0) (pa_cons (q_ty T.f_bool rfl (by decide +kernel)) pa_nil)))) (pe_one (pe_chain op_le op_le (pv 1) (pv 0) (pv 2))))))), pure_is_whole T.toTxK ⟨a0, a1, a2, rfl, h⟩⟩
def sp_look_number (K : PySem.W.Frag) : Sp := Sp3 fun x l u H Q E => ∃ n lo hi, Tg H x n ∧ l = .int lo ∧ u = .int hi ∧ (isW x lo hi = true → Q .non H) ∧ (isW x lo hi = false → E (.ref (He.ga K "BadNumber")) none H)
def t_look_number (K : PySem.W.Frag) (E : XK) : TS := (tIfS (tNot (tB (tCall (sp_is_whole K) [] E (tCons (tVar 0) (tCons (tVar 1) (tCons (tVar 2) tNil)))))) (tRz E (He.ga K "BadNumber")) tNext)
theorem pure_look_number {K : PySem.W.Frag} (T : TxK K) {a0 a1 a2 : V} {H : Hp} {Q : VK} {E : XK} (h : sp_look_number K [a0, a1, a2] H Q E) : t_look_number K E { nx := fun _ H' => Q .non H', rt := Q } [some a0, some a1, some a2] H := by
  obtain ⟨_, _, _, e, n, lo, hi, ht, rfl, rfl, q1, q2⟩ := h
  cases e
  unfold t_look_number
  walk_at "go"
  refine s_3 ⟨n, lo, hi, ht, rfl, rfl, ?_⟩
  walk_at "go"
  refine r_ite (fun e => ?_) (fun e => ?_)
  · exact q2 (by simpa using e)
  · exact q1 (by simpa using e)
theorem sc_look_number : FnScope ["thing", "low", "high"] ["thing", "low", "high"] (defScope s_look_number) := ⟨rfl, rfl, rfl, by decide +kernel, rfl, by decide +kernel, by decide +kernel⟩
theorem bd_look_number {K : PySem.W.Frag} : Bd K d_look_number ["thing", "low", "high"] [] := fun fd F => ⟨[], .nil, FunD.bindsN F fun _ _ _ _ _ _ us hl => match us, hl with | [_, _, _], _ => rfl⟩
theorem ok_look_number {P : Program} {w : World} {K : PySem.W.Frag} {mg : Str → Option Value} {base : Heap} (T : Txt K mg) : Ok P w K mg base d_look_number 2 ["thing", "low", "high"] (sp_look_number K) := by
  refine Ok.of (k := 1) T.d_look_number sc_look_number (fun vs H Q E h => ?_) (fun cdv A outer s H vs Q E hr h => ?_)
  · obtain ⟨a0, a1, a2, rfl, h⟩ := h
    rfl
  · obtain ⟨a0, a1, a2, rfl, h⟩ := h
    exact ⟨t_look_number K E, (pss_one (ps_if (pt_not (pt_val (q_call (ok_is_whole T) bd_is_whole T.g_is_whole hr (by decide) (by rfl) pD (pa_cons (pv 0) (pa_cons (pv 1) (pa_cons (pv 2) pa_nil)))))) (pss_one (q_raise T.x_BadNumber T.g_BadNumber tD rfl)) pss_nil)), pure_look_number T.toTxK ⟨a0, a1, a2, rfl, h⟩⟩
def sp_look_bytes (K : PySem.W.Frag) : Sp := Sp2 fun x l H Q E => ∃ n m, Tg H x n ∧ l = .int m ∧ m ≤ 2000 ∧ (∀ a xs, x = .ref a → H a = some (.lst xs) → ∀ y ∈ xs, ∃ k, Tg H y k) ∧
  (IsRow H x m → ∀ H', Kp No H H' → Q .non H') ∧ (¬ IsRow H x m → ∀ H', Kp No H H' → E (.ref (He.ga K "BadBytes")) none H')
def t_look_bytes (K : PySem.W.Frag) (E : XK) : TS := (tSeq (tAsg (tAndV (tCB (rIsi K) (tCons (tVar 0) (tCons (tC (.ty "list")) tNil))) (tOp qLe (tCB (rLenS K) (tCons (tVar 0) tNil)) (tVar 1))) (gName 2)) (tIfS (tOr (tNot (tB (tVar 2))) (tNot (tB (tCB (rAll K) (tCons (tLc (iList K (tVar 0)) (gName 3) tYes (tCall (sp_is_whole K) [] E0 (tCons (tVar 3) (tCons (tC (.int 0)) (tCons (tC (.int 255)) tNil)))) [3]) tNil))))) (tRz E (He.ga K "BadBytes")) tNext))
theorem pure_look_bytes {K : PySem.W.Frag} (T : TxK K) {a0 a1 : V} {H : Hp} {Q : VK} {E : XK} (h : sp_look_bytes K [a0, a1] H Q E) : t_look_bytes K E { nx := fun _ H' => Q .non H', rt := Q } [some a0, some a1, none, none] H := by
  obtain ⟨_, _, e, n, m, ht, rfl, hm, hk, q1, q2⟩ := h
  cases e
  unfold t_look_bytes
  walk_at "go"
  refine r_isi ht (by walk_at "ty4") ?_
  walk_at "go"
  by_cases hn : n = "list"
  · subst hn
    obtain ⟨a, xs, rfl, h⟩ := ht.isL rfl
    · rw [show isTy "list" "list" = true by decide]
      walk_at "go"
      refine r_len (SqL.of h) ?_
      walk_at "go"
      refine r_dn (fun hl => ?_) (fun hl => ?_)
      · refine r_T ?_
        exact q2 (fun hr => hl (row_all h hr).1) H Kp.refl
      · walk_at "go"
        have hxl : xs.length ≤ 100000 := by omega
        refine lcp_list (SqL.of h) hxl (fun _ => true) (fun y => .bl (isW y 0 255)) (fun x hx H' k R S r _ => ?_) (fun p H' hp k hd => ?_)
        · walk_at "go"
          refine ⟨rfl, ?_⟩
          walk_at "go"
          obtain ⟨kk, hkk⟩ := hk a xs rfl h x hx
          exact s_3 ⟨kk, 0, 255, hkk.no k, rfl, rfl, r rfl H' Kp.refl⟩
        · have hd2 : H' p = some (.lst ((xs.map fun y => isW y 0 255).map V.bl)) := by
            rw [hd, List.filter_eq_self.mpr (fun _ _ => rfl), List.map_map]; rfl
          walk_at "go"
          refine r_all (SqL.of hd2) ?_
          walk_at "go"
          refine r_ite (fun e => ?_) (fun e => ?_)
          · refine q2 (fun hr => ?_) H' k
            rw [(row_all h hr).2] at e
            cases e
          · exact q1 (row_of h hl (by simpa using e)) H' k
  · have hf : isTy n "list" = false := by
      unfold isTy
      rw [beq_eq_false_iff_ne.mpr hn]
      cases (n == "bool") <;> rfl
    rw [hf]
    walk_at "go"
    show if (!false) = true then _ else _
    refine r_T (r_T ?_)
    refine q2 ?_ H Kp.refl
    rintro ⟨a, ns, rfl, h, _⟩
    cases ht with
    | lst h => exact hn rfl
    | tup h2 => rw [h] at h2; cases h2
    | dK h2 => rw [h] at h2; cases h2
theorem sc_look_bytes : FnScope ["thing", "most", "fine", "byte"] ["thing", "most"] (defScope s_look_bytes) := ⟨rfl, rfl, rfl, by decide +kernel, rfl, by decide +kernel, by decide +kernel⟩
theorem bd_look_bytes {K : PySem.W.Frag} : Bd K d_look_bytes ["thing", "most"] [] := fun fd F => ⟨[], .nil, FunD.bindsN F fun _ _ _ _ _ _ us hl => match us, hl with | [_, _], _ => rfl⟩
theorem ok_look_bytes {P : Program} {w : World} {K : PySem.W.Frag} {mg : Str → Option Value} {base : Heap} (T : Txt K mg) : Ok P w K mg base d_look_bytes 2 ["thing", "most"] (sp_look_bytes K) := by
  refine Ok.of (k := 1) T.d_look_bytes sc_look_bytes (fun vs H Q E h => ?_) (fun cdv A outer s H vs Q E hr h => ?_)
  · obtain ⟨a0, a1, rfl, h⟩ := h
    rfl
  · obtain ⟨a0, a1, rfl, h⟩ := h
    exact ⟨t_look_bytes K E, (pss_cons (ps_set (i := 2) sc_look_bytes.nd rfl (Or.inl rfl) (pe_and (pe_callB call_isi (by rfl) T.f_isinstance (by decide +kernel) (pa_cons (pv 0) (pa_cons (q_ty T.f_list rfl (by decide +kernel)) pa_nil))) (pe_one (pe_cmpR op_le (pe_callB c_len (by rfl) T.f_len PySem.boot_len (pa_cons (pv 0) pa_nil)) (pv 1) (nomark _))))) (pss_one (ps_if (PW.pt (pw_or (pt_not (pt_val (pv 2))) (pw_or1 (pt_not (pt_val (pe_callB (cr_all rfl) (by rfl) T.f_all (by decide +kernel) (pa_cons (pe_lc (own := [("byte", 3)]) rfl sc_look_bytes.nd (pi_list (pv 0)) (blkOk_by (N := ["thing", "most", "fine", "byte"]) (sc := defScope s_look_bytes) (by decide +kernel)) (fun _ _ _ _ _ => (pg_name (i := 3) sc_look_bytes.nd rfl (Or.inl rfl))) (fun _ _ _ _ _ => pts_nil) (fun _ _ _ _ _ => (q_call (ok_is_whole T) bd_is_whole T.g_is_whole hr (by decide) (by rfl) passL (pa_cons (pv 3) (pa_cons pe_int (pa_cons pe_int pa_nil)))))) pa_nil))))))) (pss_one (q_raise T.x_BadBytes T.g_BadBytes tD rfl)) pss_nil))), pure_look_bytes T.toTxK ⟨a0, a1, rfl, h⟩⟩
def sp_Pipe_init (K : PySem.W.Frag) : Sp := Sp2 fun s x H Q E => ∃ p dx n, s = .ref p ∧ H p = some (.ins (He.ga K "Pipe") dx []) ∧ Tg H x n ∧
  (∀ i l H', x = .int i → 1 ≤ i → i ≤ 40 → H l = none → Kp (One p) H H' → PipeAt K H' p l i [] → Q .non H') ∧ (isW x 1 40 = false → E (.ref (He.ga K "BadNumber")) none H)
def t_Pipe_init (K : PySem.W.Frag) (E : XK) : TS := (tSeq (tDrop (tCall (sp_look_number K) [] E (tCons (tVar 1) (tCons (tC (.int 1)) (tCons (tC (.int 40)) tNil))))) (tSeq (sFld K (tVar 0) (tVar 1) "room") (sFld K (tVar 0) (tLst tNil) "some")))
theorem pure_Pipe_init {K : PySem.W.Frag} (T : TxK K) {a0 a1 : V} {H : Hp} {Q : VK} {E : XK} (h : sp_Pipe_init K [a0, a1] H Q E) : t_Pipe_init K E { nx := fun _ H' => Q .non H', rt := Q } [some a0, some a1] H := by
  obtain ⟨_, _, e, p, dx, n, rfl, hp, ht, q1, q2⟩ := h
  cases e
  unfold t_Pipe_init
  walk_at "go"
  refine s_3 ⟨n, 1, 40, ht, rfl, rfl, fun hw => ?_, q2⟩
  obtain ⟨i, rfl, h1, h2⟩ := isW_int hw
  walk_at "go"
  refine f_put (fs' := [("room", .int i)]) hp T.c_Pipe T.a_Pipe_room (by show 0 < 1000; decide) rfl fun H1 k1 e1 => ?_
  walk_at "go"
  refine n_lst (by show 0 ≤ 100000; decide) fun l H2 hl k2 e2 => ?_
  walk_at "go"
  refine f_put (fs' := fPipe i l) (k2.keep _ _ e1 fun z => z) T.c_Pipe T.a_Pipe_some (by show 1 < 1000; decide) (by walk_at "pf") fun H3 k3 e3 => ?_
  have hl0 : H l = none := k1.free _ hl
  refine q1 i l H3 rfl h1 h2 hl0 ((k1.trans k2.no).trans k3) ⟨⟨dx, e3⟩, k3.keep _ _ e2 (by walk_at "nf"), by show (0 : Int) ≤ i; omega, ⟨h1, h2⟩, fun _ h => by cases h⟩
theorem sc_Pipe_init : FnScope ["self", "room"] ["self", "room"] (defScope s_Pipe_init) := ⟨rfl, rfl, rfl, by decide +kernel, rfl, by decide +kernel, by decide +kernel⟩
theorem bd_Pipe_init {K : PySem.W.Frag} : Bd K d_Pipe_init ["self", "room"] ([] : List V) := fun fd F => FunD.binds1 F 2 1 (List.cons_ne_nil _ _) rfl fun _ _ _ _ _ _ _ us its h1 h2 => match us, its, h1, h2 with | [_, _], [_], _, _ => ⟨_, rfl, rfl⟩
theorem bd_Pipe_init_1 {K : PySem.W.Frag} : Bd K d_Pipe_init ["self", "room"] ([(.int 8)] : List V) := fun fd F => FunD.binds1 F 1 0 (List.cons_ne_nil _ _) rfl fun _ _ _ _ _ _ _ us its h1 h2 => match us, its, h1, h2 with | [_], [_], _, _ => ⟨_, rfl, rfl⟩
theorem bk_Pipe_init_room {K : PySem.W.Frag} : Bk K d_Pipe_init ["self", "room"] 1 ["room"] (fun vs zs => vs ++ zs) := fun fd F => by
  obtain ⟨its, h⟩ := FunD.kbindsD (ps := ["self", "room"]) F 1 ["room"] (fun us _ ws => us ++ ws) (List.cons_ne_nil _ _) (fun r _ s => r.append s) fun _ _ _ _ _ _ _ us its ws h1 h2 h3 => match us, its, ws, h1, h2, h3 with | [_], [_], [_], _, _, _ => ⟨_, rfl, rfl⟩
  exact ⟨_, h⟩
theorem ok_Pipe_init {P : Program} {w : World} {K : PySem.W.Frag} {mg : Str → Option Value} {base : Heap} (T : Txt K mg) : Ok P w K mg base d_Pipe_init 3 ["self", "room"] (sp_Pipe_init K) := by
  refine Ok.of (k := 2) T.d_Pipe_init sc_Pipe_init (fun vs H Q E h => ?_) (fun cdv A outer s H vs Q E hr h => ?_)
  · obtain ⟨a0, a1, rfl, h⟩ := h
    rfl
  · obtain ⟨a0, a1, rfl, h⟩ := h
    exact ⟨t_Pipe_init K E, (pss_cons (ps_expr (q_call (ok_look_number T) bd_look_number T.g_look_number hr (by decide) (by rfl) pD (pa_cons (pv 1) (pa_cons pe_int (pa_cons (q_con T.k_MOST_ROOM rfl) pa_nil))))) (pss_cons (ps_fld (pv 0) (pv 1) rfl) (pss_one (ps_fld (pv 0) (pe_lst pa_nil) rfl)))), pure_Pipe_init T.toTxK ⟨a0, a1, rfl, h⟩⟩
def sp_Pipe_left (K : PySem.W.Frag) : Sp := Sp1 fun s H Q _ => ∃ p l r ns, s = .ref p ∧ PipeAt K H p l r ns ∧ Q (.int (r - ns.length)) H
def t_Pipe_left (K : PySem.W.Frag) (E : XK) : TS := (tRet (tOp qSub (tFld K (tVar 0) "room") (tCB (rLenS K) (tCons (tFld K (tVar 0) "some") tNil))))
theorem pure_Pipe_left {K : PySem.W.Frag} (T : TxK K) {a0 : V} {H : Hp} {Q : VK} {E : XK} (h : sp_Pipe_left K [a0] H Q E) : t_Pipe_left K E { nx := fun _ H' => Q .non H', rt := Q } [some a0] H := by
  obtain ⟨_, e, p, l, r, ns, rfl, P, q⟩ := h
  cases e
  obtain ⟨dx, hp⟩ := P.ins
  unfold t_Pipe_left
  walk_at "go"
  refine f_get hp T.c_Pipe T.a_Pipe_room (by walk_at "lk") ?_
  walk_at "go"
  refine f_get hp T.c_Pipe T.a_Pipe_some (by walk_at "lk") ?_
  walk_at "go"
  refine r_len (SqL.of P.lst) ?_
  walk_at "go"
  rw [List.length_map]
  exact q
theorem sc_Pipe_left : FnScope ["self"] ["self"] (defScope s_Pipe_left) := ⟨rfl, rfl, rfl, by decide +kernel, rfl, by decide +kernel, by decide +kernel⟩
theorem bd_Pipe_left {K : PySem.W.Frag} : Bd K d_Pipe_left ["self"] [] := fun fd F => ⟨[], .nil, FunD.bindsN F fun _ _ _ _ _ _ us hl => match us, hl with | [_], _ => rfl⟩
theorem ok_Pipe_left {P : Program} {w : World} {K : PySem.W.Frag} {mg : Str → Option Value} {base : Heap} (T : Txt K mg) : Ok P w K mg base d_Pipe_left 1 ["self"] (sp_Pipe_left K) := by
  refine Ok.of (k := 0) T.d_Pipe_left sc_Pipe_left (fun vs H Q E h => ?_) (fun cdv A outer s H vs Q E hr h => ?_)
  · obtain ⟨a0, rfl, h⟩ := h
    rfl
  · obtain ⟨a0, rfl, h⟩ := h
    exact ⟨t_Pipe_left K E, (pss_one (ps_ret (pe_op op_sub (pe_fld (pv 0) rfl) (pe_callB c_len (by rfl) T.f_len PySem.boot_len (pa_cons (pe_fld (pv 0) rfl) pa_nil))))), pure_Pipe_left T.toTxK ⟨a0, rfl, h⟩⟩
def sp_Pipe_put (K : PySem.W.Frag) : Sp := Sp2 fun s x H Q E => ∃ p l r ns n, s = .ref p ∧ PipeAt K H p l r ns ∧ Tg H x n ∧ ItemsTg H x ∧
  (∀ a ms H', x = .ref a → H a = some (.lst (ms.map V.int)) → ms.length ≤ 200 → IsB ms → Kp (One l) H H' → PipeAt K H' p l r (ns ++ ms.take (fits ms.length r ns.length)) → Q (.int (fits ms.length r ns.length)) H') ∧
  (¬ IsRow H x 200 → ∀ H', Kp No H H' → E (.ref (He.ga K "BadBytes")) none H')
def t_Pipe_put (K : PySem.W.Frag) (E : XK) : TS := (tSeq (tDrop (tCall (sp_look_bytes K) [] E (tCons (tVar 1) (tCons (tC (.int 200)) tNil)))) (tSeq (tAsg (tCB rMin2 (tCons (tCB (rLenS K) (tCons (tVar 1) tNil)) (tCons (tMeth (He.ga K "Pipe") "left" (sp_Pipe_left K) [] E (tVar 0) tNil) tNil))) (gName 2)) (tSeq (tDrop (tBM K "list" rExtend (tFld K (tVar 0) "some") (tCons (tSl (rSlL K) (tVar 1) tNoPart (tPart (tVar 2))) tNil))) (tRet (tVar 2)))))
theorem pure_Pipe_put {K : PySem.W.Frag} (T : TxK K) {a0 a1 : V} {H : Hp} {Q : VK} {E : XK} (h : sp_Pipe_put K [a0, a1] H Q E) : t_Pipe_put K E { nx := fun _ H' => Q .non H', rt := Q } [some a0, some a1, none] H := by
  obtain ⟨_, _, e, p, l, r, ns, n, rfl, P, ht, hi, q1, q2⟩ := h
  cases e
  unfold t_Pipe_put
  walk_at "go"
  refine s_2 ⟨n, 200, ht, rfl, by decide, hi, fun hr H1 k1 => ?_, q2⟩
  obtain ⟨a, ms, rfl, ha, hl, hb⟩ := hr
  have P1 := P.keep k1 (fun z => z) (fun z => z)
  obtain ⟨dx, hp⟩ := P1.ins
  walk_at "go"
  refine r_len (SqL.of (k1.keep _ _ ha fun z => z)) ?_
  walk_at "go"
  refine m_at hp (by walk_at "lk") ?_
  walk_at "go"
  refine s_1 ⟨p, l, r, ns, rfl, P1, ?_⟩
  walk_at "go"
  have ek : (if r - (ns.length : Int) < ((ms.map V.int).length : Int) then r - (ns.length : Int) else ((ms.map V.int).length : Int)) = (fits ms.length r ns.length : Int) := by
    rw [List.length_map]
    have := P.len
    unfold fits
    split <;> omega
  rw [ek]
  refine f_get hp T.c_Pipe T.a_Pipe_some (by walk_at "lk") ?_
  refine b_lst P1.lst ?_
  walk_at "go"
  refine r_slL (SqL.of (k1.keep _ _ ha fun z => z)) fun q H2 hq k2 e2 => ?_
  rw [cut_to (by omega), Int.toNat_natCast, ← List.map_take] at e2
  have P2 := P1.keep k2 (fun z => z) (fun z => z)
  walk_at "go"
  have hlen : ((ns ++ ms.take (fits ms.length r ns.length)).length : Int) ≤ r := by
    rw [List.length_append, List.length_take]
    have := P.len
    unfold fits
    omega
  refine r_extend P2.lst e2 ?_ fun H3 k3 e3 => ?_
  · refine lt_line ?_
    rw [List.length_map, List.length_map]
    rw [List.length_append] at hlen
    have := P.room
    omega
  · walk_at "go"
    obtain ⟨dx2, hp2⟩ := P2.ins
    have hpl : p ≠ l := P2.ne
    refine q1 a ms H3 rfl ha (by omega) hb ((k1.no.trans k2.no).trans k3) ⟨⟨dx2, k3.keep _ _ hp2 hpl⟩, by rw [e3, List.map_append], hlen, P.room, ?_⟩
    intro b hb2
    rcases List.mem_append.mp hb2 with h | h
    · exact P.byt b h
    · exact hb b (List.mem_of_mem_take h)
theorem sc_Pipe_put : FnScope ["self", "row", "many"] ["self", "row"] (defScope s_Pipe_put) := ⟨rfl, rfl, rfl, by decide +kernel, rfl, by decide +kernel, by decide +kernel⟩
theorem bd_Pipe_put {K : PySem.W.Frag} : Bd K d_Pipe_put ["self", "row"] [] := fun fd F => ⟨[], .nil, FunD.bindsN F fun _ _ _ _ _ _ us hl => match us, hl with | [_, _], _ => rfl⟩
theorem ok_Pipe_put {P : Program} {w : World} {K : PySem.W.Frag} {mg : Str → Option Value} {base : Heap} (T : Txt K mg) : Ok P w K mg base d_Pipe_put 3 ["self", "row"] (sp_Pipe_put K) := by
  refine Ok.of (k := 2) T.d_Pipe_put sc_Pipe_put (fun vs H Q E h => ?_) (fun cdv A outer s H vs Q E hr h => ?_)
  · obtain ⟨a0, a1, rfl, h⟩ := h
    rfl
  · obtain ⟨a0, a1, rfl, h⟩ := h
    exact ⟨t_Pipe_put K E, (pss_cons (ps_expr (q_call (ok_look_bytes T) bd_look_bytes T.g_look_bytes hr (by decide) (by rfl) pD (pa_cons (pv 1) (pa_cons (q_con T.k_MOST_BYTES rfl) pa_nil)))) (pss_cons (ps_set (i := 2) sc_Pipe_put.nd rfl (Or.inl rfl) (pe_callB (c_min2 rfl) (by rfl) T.f_min (by decide +kernel) (pa_cons (pe_callB c_len (by rfl) T.f_len PySem.boot_len (pa_cons (pv 1) pa_nil)) (pa_cons (q_meth0 (ok_Pipe_left T) (pv 0) T.c_Pipe T.m_Pipe_left bd_Pipe_left hr (by decide) pD) pa_nil)))) (pss_cons (ps_expr (pe_bm PySem.F.plainAttrs_list PySem.F.slot_list_extend PySem.F.type_list_extend mt_extend (pe_fld (pv 0) rfl) (pa_cons (pe_slice sl_list (pv 1) po_none (po_some (pv 2))) pa_nil))) (pss_one (ps_ret (pv 2)))))), pure_Pipe_put T.toTxK ⟨a0, a1, rfl, h⟩⟩
def sp_Pipe_take (K : PySem.W.Frag) : Sp := Sp2 fun s x H Q E => ∃ p l r ns n, s = .ref p ∧ PipeAt K H p l r ns ∧ Tg H x n ∧
  (∀ i q l' H', x = .int i → 1 ≤ i → i ≤ 200 → H q = none → H l' = none → q ≠ l' → Kp (One p) H H' → H' q = some (.lst ((ns.take i.toNat).map V.int)) → PipeAt K H' p l' r (ns.drop i.toNat) → Q (.ref q) H') ∧
  (isW x 1 200 = false → E (.ref (He.ga K "BadNumber")) none H)
def t_Pipe_take (K : PySem.W.Frag) (E : XK) : TS := (tSeq (tDrop (tCall (sp_look_number K) [] E (tCons (tVar 1) (tCons (tC (.int 1)) (tCons (tC (.int 200)) tNil))))) (tSeq (tAsg (tSl (rSlL K) (tFld K (tVar 0) "some") tNoPart (tPart (tVar 1))) (gName 2)) (tSeq (sFld K (tVar 0) (tSl (rSlL K) (tFld K (tVar 0) "some") (tPart (tVar 1)) tNoPart) "some") (tRet (tVar 2)))))
theorem pure_Pipe_take {K : PySem.W.Frag} (T : TxK K) {a0 a1 : V} {H : Hp} {Q : VK} {E : XK} (h : sp_Pipe_take K [a0, a1] H Q E) : t_Pipe_take K E { nx := fun _ H' => Q .non H', rt := Q } [some a0, some a1, none] H := by
  obtain ⟨_, _, e, p, l, r, ns, n, rfl, P, ht, q1, q2⟩ := h
  cases e
  unfold t_Pipe_take
  walk_at "go"
  refine s_3 ⟨n, 1, 200, ht, rfl, rfl, fun hw => ?_, q2⟩
  obtain ⟨i, rfl, h1, h2⟩ := isW_int hw
  obtain ⟨dx, hp⟩ := P.ins
  walk_at "go"
  refine f_get hp T.c_Pipe T.a_Pipe_some (by walk_at "lk") ?_
  walk_at "go"
  refine r_slL (SqL.of P.lst) fun q H1 hq k1 e1 => ?_
  rw [cut_to (by omega), ← List.map_take] at e1
  walk_at "go"
  have P1 := P.keep k1 (fun z => z) (fun z => z)
  have hp1 := k1.keep _ _ hp (fun z => z)
  refine f_get hp1 T.c_Pipe T.a_Pipe_some (by walk_at "lk") ?_
  walk_at "go"
  refine r_slL (SqL.of P1.lst) fun l' H2 hl' k2 e2 => ?_
  rw [cut_from (by omega), ← List.map_drop] at e2
  walk_at "go"
  refine f_put (fs' := fPipe r l') (k2.keep _ _ hp1 fun z => z) T.c_Pipe T.a_Pipe_some (by show 2 < 1000; decide) (by walk_at "pf") fun H3 k3 e3 => ?_
  walk_at "go"
  have ql : q ≠ l' := by walk_at "ne"
  have e12 := k2.keep _ _ e1 (fun z => z)
  have e22 : H2 p = _ := k2.keep _ _ hp1 (fun z => z)
  refine q1 i q l' H3 rfl h1 h2 hq (k1.free _ hl') ql ((k1.no.trans k2.no).trans k3) (k3.keep _ _ e12 (by walk_at "nf")) ⟨⟨dx, e3⟩, k3.keep _ _ e2 (by walk_at "nf"), ?_, P.room, fun b hb => P.byt b (List.mem_of_mem_drop hb)⟩
  rw [List.length_drop]
  have := P.len
  omega
theorem sc_Pipe_take : FnScope ["self", "most", "told"] ["self", "most"] (defScope s_Pipe_take) := ⟨rfl, rfl, rfl, by decide +kernel, rfl, by decide +kernel, by decide +kernel⟩
theorem bd_Pipe_take {K : PySem.W.Frag} : Bd K d_Pipe_take ["self", "most"] [] := fun fd F => ⟨[], .nil, FunD.bindsN F fun _ _ _ _ _ _ us hl => match us, hl with | [_, _], _ => rfl⟩
theorem ok_Pipe_take {P : Program} {w : World} {K : PySem.W.Frag} {mg : Str → Option Value} {base : Heap} (T : Txt K mg) : Ok P w K mg base d_Pipe_take 3 ["self", "most"] (sp_Pipe_take K) := by
  refine Ok.of (k := 2) T.d_Pipe_take sc_Pipe_take (fun vs H Q E h => ?_) (fun cdv A outer s H vs Q E hr h => ?_)
  · obtain ⟨a0, a1, rfl, h⟩ := h
    rfl
  · obtain ⟨a0, a1, rfl, h⟩ := h
    exact ⟨t_Pipe_take K E, (pss_cons (ps_expr (q_call (ok_look_number T) bd_look_number T.g_look_number hr (by decide) (by rfl) pD (pa_cons (pv 1) (pa_cons pe_int (pa_cons (q_con T.k_MOST_BYTES rfl) pa_nil))))) (pss_cons (ps_set (i := 2) sc_Pipe_take.nd rfl (Or.inl rfl) (pe_slice sl_list (pe_fld (pv 0) rfl) po_none (po_some (pv 1)))) (pss_cons (ps_fld (pv 0) (pe_slice sl_list (pe_fld (pv 0) rfl) (po_some (pv 1)) po_none) rfl) (pss_one (ps_ret (pv 2)))))), pure_Pipe_take T.toTxK ⟨a0, a1, rfl, h⟩⟩
def sp_Pipe_held (K : PySem.W.Frag) : Sp := Sp1 fun s H Q _ => ∃ p l r ns, s = .ref p ∧ PipeAt K H p l r ns ∧ ∀ q H', H q = none → Kp No H H' → H' q = some (.lst (ns.map V.int)) → Q (.ref q) H'
def t_Pipe_held (K : PySem.W.Frag) (E : XK) : TS := (tRet (tCB (rListS K) (tCons (tFld K (tVar 0) "some") tNil)))
theorem pure_Pipe_held {K : PySem.W.Frag} (T : TxK K) {a0 : V} {H : Hp} {Q : VK} {E : XK} (h : sp_Pipe_held K [a0] H Q E) : t_Pipe_held K E { nx := fun _ H' => Q .non H', rt := Q } [some a0] H := by
  obtain ⟨_, e, p, l, r, ns, rfl, P, q⟩ := h
  cases e
  obtain ⟨dx, hp⟩ := P.ins
  unfold t_Pipe_held
  walk_at "go"
  refine f_get hp T.c_Pipe T.a_Pipe_some (by walk_at "lk") ?_
  walk_at "go"
  exact r_list (SqL.of P.lst) fun l H2 hl k e => q l H2 hl k e
theorem sc_Pipe_held : FnScope ["self"] ["self"] (defScope s_Pipe_held) := ⟨rfl, rfl, rfl, by decide +kernel, rfl, by decide +kernel, by decide +kernel⟩
theorem bd_Pipe_held {K : PySem.W.Frag} : Bd K d_Pipe_held ["self"] [] := fun fd F => ⟨[], .nil, FunD.bindsN F fun _ _ _ _ _ _ us hl => match us, hl with | [_], _ => rfl⟩
theorem ok_Pipe_held {P : Program} {w : World} {K : PySem.W.Frag} {mg : Str → Option Value} {base : Heap} (T : Txt K mg) : Ok P w K mg base d_Pipe_held 1 ["self"] (sp_Pipe_held K) := by
  refine Ok.of (k := 0) T.d_Pipe_held sc_Pipe_held (fun vs H Q E h => ?_) (fun cdv A outer s H vs Q E hr h => ?_)
  · obtain ⟨a0, rfl, h⟩ := h
    rfl
  · obtain ⟨a0, rfl, h⟩ := h
    exact ⟨t_Pipe_held K E, (pss_one (ps_ret (pe_callTy c_list (by rfl) T.f_list (by decide +kernel) (pa_cons (pe_fld (pv 0) rfl) pa_nil)))), pure_Pipe_held T.toTxK ⟨a0, rfl, h⟩⟩
def sp_Pipe_len (K : PySem.W.Frag) : Sp := Sp1 fun s H Q _ => ∃ p l r ns, s = .ref p ∧ PipeAt K H p l r ns ∧ Q (.int ns.length) H
def t_Pipe_len (K : PySem.W.Frag) (E : XK) : TS := (tRet (tCB (rLenS K) (tCons (tFld K (tVar 0) "some") tNil)))
theorem pure_Pipe_len {K : PySem.W.Frag} (T : TxK K) {a0 : V} {H : Hp} {Q : VK} {E : XK} (h : sp_Pipe_len K [a0] H Q E) : t_Pipe_len K E { nx := fun _ H' => Q .non H', rt := Q } [some a0] H := by
  obtain ⟨_, e, p, l, r, ns, rfl, P, q⟩ := h
  cases e
  obtain ⟨dx, hp⟩ := P.ins
  unfold t_Pipe_len
  walk_at "go"
  refine f_get hp T.c_Pipe T.a_Pipe_some (by walk_at "lk") ?_
  walk_at "go"
  refine r_len (SqL.of P.lst) ?_
  rw [List.length_map]
  exact q
theorem sc_Pipe_len : FnScope ["self"] ["self"] (defScope s_Pipe_len) := ⟨rfl, rfl, rfl, by decide +kernel, rfl, by decide +kernel, by decide +kernel⟩
theorem bd_Pipe_len {K : PySem.W.Frag} : Bd K d_Pipe_len ["self"] [] := fun fd F => ⟨[], .nil, FunD.bindsN F fun _ _ _ _ _ _ us hl => match us, hl with | [_], _ => rfl⟩
theorem ok_Pipe_len {P : Program} {w : World} {K : PySem.W.Frag} {mg : Str → Option Value} {base : Heap} (T : Txt K mg) : Ok P w K mg base d_Pipe_len 1 ["self"] (sp_Pipe_len K) := by
  refine Ok.of (k := 0) T.d_Pipe_len sc_Pipe_len (fun vs H Q E h => ?_) (fun cdv A outer s H vs Q E hr h => ?_)
  · obtain ⟨a0, rfl, h⟩ := h
    rfl
  · obtain ⟨a0, rfl, h⟩ := h
    exact ⟨t_Pipe_len K E, (pss_one (ps_ret (pe_callB c_len (by rfl) T.f_len PySem.boot_len (pa_cons (pe_fld (pv 0) rfl) pa_nil)))), pure_Pipe_len T.toTxK ⟨a0, rfl, h⟩⟩
def sp_law_town (K : PySem.W.Frag) : Sp := Sp1 fun s H Q _ => ∃ (a : Addr) (ns : List Int), s = .ref a ∧ SqL K H a (ns.map V.int) ∧ ns.length ≤ 63 ∧ ∀ t c H', H t = none → H c = none → Kp No H H' → TownAt H' t c → Q (.ref t) H'
def t_law_town (K : PySem.W.Frag) (E : XK) : TS := (tRet (tLst (tCons (tIf (tTest (tOp (rNeD K) (tVar 0) (tLst tNil))) (tCB (rListS K) (tCons (tVar 0) tNil)) (tLst (tCons (tC (.int 0)) tNil))) (tCons (tC (.int 0)) tNil))))
theorem pure_law_town {K : PySem.W.Frag} (T : TxK K) {a0 : V} {H : Hp} {Q : VK} {E : XK} (h : sp_law_town K [a0] H Q E) : t_law_town K E { nx := fun _ H' => Q .non H', rt := Q } [some a0] H := by
  obtain ⟨_, e, a, ns, rfl, hs, hl, q⟩ := h
  cases e
  unfold t_law_town
  walk_at "go"
  refine n_lst (by show 0 ≤ 100000; decide) fun p H1 hp k1 e1 => ?_
  have hs1 := k1.sq (fun z => z) hs
  have fin : ∀ (c : Addr) (cells : List Int) (H2 : Hp), H1 c = none → Kp No H1 H2 → H2 c = some (.lst (cells.map V.int)) → 1 ≤ cells.length → cells.length ≤ 63 → lstQ Q [.ref c, .int 0] H2 := fun c cells H2 hc k2 e2 g1 g2 =>
    n_lst (by show 2 ≤ 100000; decide) fun t H3 ht k3 e3 => q t c H3 (k1.free _ (k2.free _ ht)) (k1.free _ hc) ((k1.trans k2).trans k3) ⟨0, cells, e3, k3.keep _ _ e2 (fun z => z), g1, g2, (ne_of_none e2 ht).symm⟩
  walk_at "go"
  refine r_neL (ms := []) hs1 (SqL.of e1) ?_
  walk_at "go"
  refine r_dn (fun hn => ?_) (fun hn => ?_)
  · walk_at "go"
    refine r_list hs1 fun c H2 hc k2 e2 => ?_
    walk_at "go"
    refine fin c ns H2 hc k2 e2 ?_ hl
    cases ns with
    | nil => exact absurd rfl hn
    | cons _ _ => exact Nat.succ_le_succ (Nat.zero_le _)
  · walk_at "go"
    refine n_lst (by show 1 ≤ 100000; decide) fun c H2 hc k2 e2 => ?_
    walk_at "go"
    exact fin c [0] H2 hc k2 e2 (by decide) (by decide)
theorem sc_law_town : FnScope ["script"] ["script"] (defScope s_law_town) := ⟨rfl, rfl, rfl, by decide +kernel, rfl, by decide +kernel, by decide +kernel⟩
theorem bd_law_town {K : PySem.W.Frag} : Bd K d_law_town ["script"] [] := fun fd F => ⟨[], .nil, FunD.bindsN F fun _ _ _ _ _ _ us hl => match us, hl with | [_], _ => rfl⟩
theorem ok_law_town {P : Program} {w : World} {K : PySem.W.Frag} {mg : Str → Option Value} {base : Heap} (T : Txt K mg) : Ok P w K mg base d_law_town 1 ["script"] (sp_law_town K) := by
  refine Ok.of (k := 0) T.d_law_town sc_law_town (fun vs H Q E h => ?_) (fun cdv A outer s H vs Q E hr h => ?_)
  · obtain ⟨a0, rfl, h⟩ := h
    rfl
  · obtain ⟨a0, rfl, h⟩ := h
    exact ⟨t_law_town K E, (pss_one (ps_ret (pe_lst (pa_cons (pe_ifExp (pt_cmpR (op_neD hr.units) (pv 0) (pe_lst pa_nil) (nomark _)) (pe_callTy c_list (by rfl) T.f_list (by decide +kernel) (pa_cons (pv 0) pa_nil)) (pe_lst (pa_cons pe_int pa_nil))) (pa_cons pe_int pa_nil))))), pure_law_town T.toTxK ⟨a0, rfl, h⟩⟩
def sp_law_draw (K : PySem.W.Frag) : Sp := Sp2 fun s m H Q _ => ∃ t c k, s = .ref t ∧ m = .int k ∧ TownAt H t c ∧ 0 < k ∧ k < 1000000 ∧ ∀ r H', 0 ≤ r → r < k → Kp (Two t c) H H' → TownAt H' t c → Q (.int r) H'
def t_law_draw (K : PySem.W.Frag) (E : XK) : TS := (tSeq (tAsg (tOp (rIxL K) (tVar 0) (tC (.int 0))) (gName 2)) (tSeq (tAsg (tOp qAdd (tOp (rIxL K) (tVar 0) (tC (.int 1))) (tC (.int 1))) (gSub (tVar 0) (tC (.int 1)) rSetL)) (tSeq (tAsg (tOp qMod (tOp (rIxL K) (tVar 0) (tC (.int 1))) (tCB (rLenS K) (tCons (tVar 2) tNil))) (gName 3)) (tSeq (tAsg (tOp (rIxL K) (tVar 2) (tVar 3)) (gName 4)) (tSeq (tIfS (tTest (tOp qGe (tVar 4) (tC (.int 1000000000000000000)))) (tSeq (tAsg (tOp qDiv (tVar 4) (tVar 1)) (gSub (tVar 2) (tVar 3) rSetL)) (tRet (tOp qMod (tVar 4) (tVar 1)))) tNext) (tSeq (tAsg (tOp qMod (tOp qAdd (tVar 4) (tOp qMul (tC (.int 104729)) (tOp (rIxL K) (tVar 0) (tC (.int 1))))) (tC (.int 4294967291))) (gName 5)) (tSeq (tAsg (tOp qMod (tOp qPow (tVar 5) (tC (.int 5))) (tC (.int 4294967279))) (gName 5)) (tRet (tOp qMod (tOp qDiv (tOp qMod (tOp qAdd (tOp qMul (tOp qDiv (tVar 5) (tC (.int 64))) (tC (.int 69621))) (tVar 5)) (tC (.int 4294967231))) (tC (.int 8))) (tVar 1))))))))))
theorem pure_law_draw {K : PySem.W.Frag} (T : TxK K) {a0 a1 : V} {H : Hp} {Q : VK} {E : XK} (h : sp_law_draw K [a0, a1] H Q E) : t_law_draw K E { nx := fun _ H' => Q .non H', rt := Q } [some a0, some a1, none, none, none, none] H := by
  obtain ⟨_, _, e, t, c, k, rfl, rfl, ht, hk, hk2, q⟩ := h
  cases e
  obtain ⟨n, cells, e1, e2, hl, hl2, htc⟩ := ht
  have k0 : ∀ m : Int, 0 < m → m < 1073741824 → CDiv m m := fun m h1 h2 => ⟨h1, h2⟩
  unfold t_law_draw
  walk_at "go"
  refine r_ixL (SqL.of e1) (v := .ref c) rfl ?_
  walk_at "go"
  refine r_ixL (SqL.of e1) (v := .int n) rfl ?_
  walk_at "go"
  show gSub _ _ _ _ _ _ _
  refine r_setL (p := t) (xs := []) (j := 0) (k := 0) ?_
  walk_at "go"
  refine r_setIx e1 (j := 1) rfl fun H1 k1 e3 => ?_
  have e3 : H1 t = some (.lst [.ref c, .int (n + 1)]) := e3
  have e4 : H1 c = _ := k1.keep _ _ e2 (fun z => htc z.symm)
  walk_at "go"
  refine r_ixL (SqL.of e3) (v := .int (n + 1)) rfl ?_
  walk_at "go"
  refine r_len (SqL.of e4) ?_
  rw [List.length_map]
  have hl3 : (0 : Int) < (cells.length : Int) := by omega
  refine r_I hl3 ?_
  walk_at "go"
  have hm0 : 0 ≤ (n + 1) % (cells.length : Int) := Int.emod_nonneg _ (by omega)
  have hm1 : (n + 1) % (cells.length : Int) < cells.length := Int.emod_lt_of_pos _ hl3
  obtain ⟨cell, hcell⟩ : ∃ cell, cells[((n + 1) % (cells.length : Int)).toNat]? = some cell := ⟨_, List.getElem?_eq_getElem (by omega)⟩
  refine r_ixL (SqL.of e4) (v := .int cell) (atI_of hm0 (by rw [List.getElem?_map, hcell]; rfl)) ?_
  walk_at "go"
  have town : ∀ H', Kp (One t) H H' → ∀ (cs : List Int), H' t = some (.lst [.ref c, .int (n + 1)]) → H' c = some (.lst (cs.map V.int)) → cs.length = cells.length → TownAt H' t c := fun H' _ cs h1 h2 h3 => ⟨n + 1, cs, h1, h2, by omega, by omega, htc⟩
  refine r_d (fun _ => ?_) (fun _ => ?_)
  · walk_at "go"
    refine r_I (C := CDiv) ⟨hk, by omega⟩ ?_
    refine r_setL (p := t) (xs := []) (j := 0) (k := 0) ?_
    walk_at "go"
    refine r_setIx e4 (ixN_of hm0 (by rw [List.length_map]; exact hm1)) fun H2 k2 e5 => ?_
    walk_at "go"
    refine r_I hk ?_
    have e6 : H2 t = _ := k2.keep _ _ e3 (fun z => htc z)
    refine q _ H2 (Int.emod_nonneg _ (by omega)) (Int.emod_lt_of_pos _ hk) ⟨fun b o h z => ?_, fun b h => k1.free _ (k2.free _ h)⟩ ⟨n + 1, cells.set ((n + 1) % (cells.length : Int)).toNat (cell / k), e6, by rw [e5, List.map_set], by rw [List.length_set]; omega, by rw [List.length_set]; omega, htc⟩
    exact k2.keep _ _ (k1.keep _ _ h fun y => z (.inl y)) fun y => z (.inr y)
  · walk_at "go"
    refine r_ixL (SqL.of e3) (v := .int (n + 1)) rfl ?_
    walk_at "go"
    refine r_I (C := CMul) (.inl ⟨by decide, by decide⟩) ?_
    walk_at "go"
    refine r_I (by decide) ?_
    walk_at "go"
    refine r_I (C := CPow) ⟨by decide, by decide, ?_⟩ ?_
    · have h1 : 0 ≤ (cell + 104729 * (n + 1)) % 4294967291 := Int.emod_nonneg _ (by decide)
      have h2 : (cell + 104729 * (n + 1)) % 4294967291 < 4294967291 := Int.emod_lt_of_pos _ (by decide)
      omega
    walk_at "go"
    refine r_I (by decide) ?_
    walk_at "go"
    generalize ((cell + 104729 * (n + 1)) % 4294967291) ^ (5 : Int).toNat % 4294967279 = z
    refine r_I (C := CDiv) ⟨by decide, by decide⟩ ?_
    walk_at "go"
    refine r_I (C := CMul) (.inr ⟨by decide, by decide⟩) ?_
    walk_at "go"
    refine r_I (by decide) ?_
    walk_at "go"
    refine r_I (C := CDiv) ⟨by decide, by decide⟩ ?_
    walk_at "go"
    refine r_I hk ?_
    refine q _ H1 (Int.emod_nonneg _ (by omega)) (Int.emod_lt_of_pos _ hk) (k1.mono fun b z => .inl z) (town H1 k1 cells e3 e4 rfl)
theorem sc_law_draw : FnScope ["town", "many", "cells", "at", "cell", "mixed"] ["town", "many"] (defScope s_law_draw) := ⟨rfl, rfl, rfl, by decide +kernel, rfl, by decide +kernel, by decide +kernel⟩
theorem bd_law_draw {K : PySem.W.Frag} : Bd K d_law_draw ["town", "many"] [] := fun fd F => ⟨[], .nil, FunD.bindsN F fun _ _ _ _ _ _ us hl => match us, hl with | [_, _], _ => rfl⟩
theorem ok_law_draw {P : Program} {w : World} {K : PySem.W.Frag} {mg : Str → Option Value} {base : Heap} (T : Txt K mg) : Ok P w K mg base d_law_draw 1 ["town", "many"] (sp_law_draw K) := by
  refine Ok.of (k := 0) T.d_law_draw sc_law_draw (fun vs H Q E h => ?_) (fun cdv A outer s H vs Q E hr h => ?_)
  · obtain ⟨a0, a1, rfl, h⟩ := h
    rfl
  · obtain ⟨a0, a1, rfl, h⟩ := h
    exact ⟨t_law_draw K E, (pss_cons (ps_set (i := 2) sc_law_draw.nd rfl (Or.inl rfl) (pe_ix ix_list (pv 0) pe_int (fun _ _ => rfl))) (pss_cons (ps_asg (pe_op op_add (pe_ix ix_list (pv 0) pe_int (fun _ _ => rfl)) pe_int) (pg_sub (pv 0) pe_int set_list)) (pss_cons (ps_set (i := 3) sc_law_draw.nd rfl (Or.inl rfl) (pe_op op_mod (pe_ix ix_list (pv 0) pe_int (fun _ _ => rfl)) (pe_callB c_len (by rfl) T.f_len PySem.boot_len (pa_cons (pv 2) pa_nil)))) (pss_cons (ps_set (i := 4) sc_law_draw.nd rfl (Or.inl rfl) (pe_ix ix_list (pv 2) (pv 3) (fun _ _ => rfl))) (pss_cons (ps_if (pt_cmpR op_ge (pv 4) pe_int (nomark _)) (pss_cons (ps_asg (pe_op op_fdiv (pv 4) (pv 1)) (pg_sub (pv 2) (pv 3) set_list)) (pss_one (ps_ret (pe_op op_mod (pv 4) (pv 1))))) pss_nil) (pss_cons (ps_set (i := 5) sc_law_draw.nd rfl (Or.inl rfl) (pe_op op_mod (pe_op op_add (pv 4) (pe_op op_mul pe_int (pe_ix ix_list (pv 0) pe_int (fun _ _ => rfl)))) pe_int)) (pss_cons (ps_set (i := 5) sc_law_draw.nd rfl (Or.inl rfl) (pe_op op_mod (pe_op op_pow (pv 5) pe_int) pe_int)) (pss_one (ps_ret (pe_op op_mod (pe_op op_fdiv (pe_op op_mod (pe_op op_add (pe_op op_mul (pe_op op_fdiv (pv 5) pe_int) pe_int) (pv 5)) pe_int) pe_int) (pv 1))))))))))), pure_law_draw T.toTxK ⟨a0, a1, rfl, h⟩⟩
def sp_law_pick (K : PySem.W.Frag) : Sp := Sp2 fun s m H Q _ => ∃ t c a xs, s = .ref t ∧ m = .ref a ∧ TownAt H t c ∧ SqL K H a xs ∧ ¬ Two t c a ∧ 1 ≤ xs.length ∧ xs.length < 1000000 ∧ ∀ v H', v ∈ xs → Kp (Two t c) H H' → TownAt H' t c → Q v H'
def t_law_pick (K : PySem.W.Frag) (E : XK) : TS := (tRet (tOp (rIxL K) (tVar 1) (tCall (sp_law_draw K) [] E (tCons (tVar 0) (tCons (tCB (rLenS K) (tCons (tVar 1) tNil)) tNil)))))
theorem pure_law_pick {K : PySem.W.Frag} (T : TxK K) {a0 a1 : V} {H : Hp} {Q : VK} {E : XK} (h : sp_law_pick K [a0, a1] H Q E) : t_law_pick K E { nx := fun _ H' => Q .non H', rt := Q } [some a0, some a1] H := by
  obtain ⟨_, _, e, t, c, a, xs, rfl, rfl, ht, hs, hn, hl, hl2, q⟩ := h
  cases e
  unfold t_law_pick
  walk_at "go"
  refine r_len hs ?_
  walk_at "go"
  refine s_2 ⟨t, c, xs.length, rfl, rfl, ht, by omega, by omega, fun r H' h0 h1 k ht' => ?_⟩
  obtain ⟨v, hv⟩ : ∃ v, xs[r.toNat]? = some v := ⟨_, List.getElem?_eq_getElem (by omega)⟩
  exact r_ixL (k.sq hn hs) (atI_of h0 hv) (q v H' (List.mem_of_getElem? hv) k ht')
theorem sc_law_pick : FnScope ["town", "some"] ["town", "some"] (defScope s_law_pick) := ⟨rfl, rfl, rfl, by decide +kernel, rfl, by decide +kernel, by decide +kernel⟩
theorem bd_law_pick {K : PySem.W.Frag} : Bd K d_law_pick ["town", "some"] [] := fun fd F => ⟨[], .nil, FunD.bindsN F fun _ _ _ _ _ _ us hl => match us, hl with | [_, _], _ => rfl⟩
theorem ok_law_pick {P : Program} {w : World} {K : PySem.W.Frag} {mg : Str → Option Value} {base : Heap} (T : Txt K mg) : Ok P w K mg base d_law_pick 2 ["town", "some"] (sp_law_pick K) := by
  refine Ok.of (k := 1) T.d_law_pick sc_law_pick (fun vs H Q E h => ?_) (fun cdv A outer s H vs Q E hr h => ?_)
  · obtain ⟨a0, a1, rfl, h⟩ := h
    rfl
  · obtain ⟨a0, a1, rfl, h⟩ := h
    exact ⟨t_law_pick K E, (pss_one (ps_ret (pe_ix ix_list (pv 1) (q_call (ok_law_draw T) bd_law_draw T.g_law_draw hr (by decide) (by rfl) pD (pa_cons (pv 0) (pa_cons (pe_callB c_len (by rfl) T.f_len PySem.boot_len (pa_cons (pv 1) pa_nil)) pa_nil))) (fun _ _ => rfl)))), pure_law_pick T.toTxK ⟨a0, a1, rfl, h⟩⟩
def isInt (x : V) : Bool := match x with
  | .int _ => true
  | _ => false
def sp_law_whole (K : PySem.W.Frag) : Sp := Sp1 fun x H Q _ => ∃ n, Tg H x n ∧ Q (.bl (isInt x)) H
def t_law_whole (K : PySem.W.Frag) (E : XK) : TS := (tRet (tAndV (tCB (rIsi K) (tCons (tVar 0) (tCons (tC (.ty "int")) tNil))) (tNotV (tCB (rIsi K) (tCons (tVar 0) (tCons (tC (.ty "bool")) tNil))))))
theorem pure_law_whole {K : PySem.W.Frag} (T : TxK K) {a0 : V} {H : Hp} {Q : VK} {E : XK} (h : sp_law_whole K [a0] H Q E) : t_law_whole K E { nx := fun _ H' => Q .non H', rt := Q } [some a0] H := by
  obtain ⟨_, e, n, ht, q⟩ := h
  cases e
  unfold t_law_whole
  walk_at "go"
  refine r_isi ht (by walk_at "ty4") ?_
  cases id ht with
  | int i =>
    rw [show isTy "int" "int" = true by decide]
    walk_at "go"
    refine r_isi ht (by walk_at "ty4") ?_
    rw [show isTy "int" "bool" = false by decide]
    exact ⟨_, rfl, q⟩
  | bl b =>
    rw [show isTy "bool" "int" = true by decide]
    walk_at "go"
    refine r_isi ht (by walk_at "ty4") ?_
    exact ⟨_, rfl, q⟩
  | non => exact ⟨_, rfl, q⟩
  | str x => exact ⟨_, rfl, q⟩
  | lst h => exact ⟨_, rfl, q⟩
  | tup h => exact ⟨_, rfl, q⟩
  | dK h => exact ⟨_, rfl, q⟩
theorem sc_law_whole : FnScope ["thing"] ["thing"] (defScope s_law_whole) := ⟨rfl, rfl, rfl, by decide +kernel, rfl, by decide +kernel, by decide +kernel⟩
theorem bd_law_whole {K : PySem.W.Frag} : Bd K d_law_whole ["thing"] [] := fun fd F => ⟨[], .nil, FunD.bindsN F fun _ _ _ _ _ _ us hl => match us, hl with | [_], _ => rfl⟩
theorem ok_law_whole {P : Program} {w : World} {K : PySem.W.Frag} {mg : Str → Option Value} {base : Heap} (T : Txt K mg) : Ok P w K mg base d_law_whole 1 ["thing"] (sp_law_whole K) := by
  refine Ok.of (k := 0) T.d_law_whole sc_law_whole (fun vs H Q E h => ?_) (fun cdv A outer s H vs Q E hr h => ?_)
  · obtain ⟨a0, rfl, h⟩ := h
    rfl
  · obtain ⟨a0, rfl, h⟩ := h
    exact ⟨t_law_whole K E, (pss_one (ps_ret (pe_and (pe_callB call_isi (by rfl) T.f_isinstance (by decide +kernel) (pa_cons (pv 0) (pa_cons (q_ty T.f_int rfl (by decide +kernel)) pa_nil))) (pe_one (pe_not (pe_callB call_isi (by rfl) T.f_isinstance (by decide +kernel) (pa_cons (pv 0) (pa_cons (q_ty T.f_bool rfl (by decide +kernel)) pa_nil)))))))), pure_law_whole T.toTxK ⟨a0, rfl, h⟩⟩
/-- of a list of whole numbers: True -/
def sp_law_whole_list (K : PySem.W.Frag) : Sp := Sp1 fun x H Q _ => ∃ (a : Addr) (ns : List Int), x = .ref a ∧ H a = some (.lst (ns.map V.int)) ∧ ns.length ≤ 100000 ∧ ∀ H', Kp No H H' → Q (.bl true) H'
def t_law_whole_list (K : PySem.W.Frag) (E : XK) : TS := (tRet (tAndV (tCB (rIsi K) (tCons (tVar 0) (tCons (tC (.ty "list")) tNil))) (tCB (rAll K) (tCons (tLc (iList K (tVar 0)) (gName 1) tYes (tCall (sp_law_whole K) [] E0 (tCons (tVar 1) tNil)) [1]) tNil))))
theorem pure_law_whole_list {K : PySem.W.Frag} (T : TxK K) {a0 : V} {H : Hp} {Q : VK} {E : XK} (h : sp_law_whole_list K [a0] H Q E) : t_law_whole_list K E { nx := fun _ H' => Q .non H', rt := Q } [some a0, none] H := by
  obtain ⟨_, e, a, ns, rfl, ha, hl, q⟩ := h
  cases e
  unfold t_law_whole_list
  walk_at "go"
  refine r_isi (Tg.lst ha) (by walk_at "ty4") ?_
  rw [show isTy "list" "list" = true by decide]
  walk_at "go"
  refine lcp_list (SqL.of ha) (by rw [List.length_map]; exact hl) (fun _ => true) (fun y => .bl (isInt y)) (fun x hx H' k R S r _ => ?_) (fun p H' hp k hd => ?_)
  · walk_at "go"
    refine ⟨rfl, ?_⟩
    walk_at "go"
    obtain ⟨i, _, rfl⟩ := List.mem_map.mp hx
    exact s_1 ⟨"int", .int i, r rfl H' Kp.refl⟩
  · have hd2 : H' p = some (.lst ((ns.map fun _ => true).map V.bl)) := by
      rw [hd, List.filter_eq_self.mpr (fun _ _ => rfl), List.map_map, List.map_map]; rfl
    walk_at "go"
    refine r_all (SqL.of hd2) ?_
    rw [show (ns.map fun _ => true).all id = true by simp]
    exact q H' k
theorem sc_law_whole_list : FnScope ["thing", "one"] ["thing"] (defScope s_law_whole_list) := ⟨rfl, rfl, rfl, by decide +kernel, rfl, by decide +kernel, by decide +kernel⟩
theorem bd_law_whole_list {K : PySem.W.Frag} : Bd K d_law_whole_list ["thing"] [] := fun fd F => ⟨[], .nil, FunD.bindsN F fun _ _ _ _ _ _ us hl => match us, hl with | [_], _ => rfl⟩
theorem ok_law_whole_list {P : Program} {w : World} {K : PySem.W.Frag} {mg : Str → Option Value} {base : Heap} (T : Txt K mg) : Ok P w K mg base d_law_whole_list 2 ["thing"] (sp_law_whole_list K) := by
  refine Ok.of (k := 1) T.d_law_whole_list sc_law_whole_list (fun vs H Q E h => ?_) (fun cdv A outer s H vs Q E hr h => ?_)
  · obtain ⟨a0, rfl, h⟩ := h
    rfl
  · obtain ⟨a0, rfl, h⟩ := h
    exact ⟨t_law_whole_list K E, (pss_one (ps_ret (pe_and (pe_callB call_isi (by rfl) T.f_isinstance (by decide +kernel) (pa_cons (pv 0) (pa_cons (q_ty T.f_list rfl (by decide +kernel)) pa_nil))) (pe_one (pe_callB (cr_all rfl) (by rfl) T.f_all (by decide +kernel) (pa_cons (pe_lc (own := [("one", 1)]) rfl sc_law_whole_list.nd (pi_list (pv 0)) (blkOk_by (N := ["thing", "one"]) (sc := defScope s_law_whole_list) (by decide +kernel)) (fun _ _ _ _ _ => (pg_name (i := 1) sc_law_whole_list.nd rfl (Or.inl rfl))) (fun _ _ _ _ _ => pts_nil) (fun _ _ _ _ _ => (q_call (ok_law_whole T) bd_law_whole T.g_law_whole hr (by decide) (by rfl) passL (pa_cons (pv 1) pa_nil)))) pa_nil)))))), pure_law_whole_list T.toTxK ⟨a0, rfl, h⟩⟩
def sp_law_byte (K : PySem.W.Frag) : Sp := Sp1 fun s H Q _ => ∃ t c, s = .ref t ∧ TownAt H t c ∧ ∀ b H', 0 ≤ b → b ≤ 255 → Kp (Two t c) H H' → TownAt H' t c → Q (.int b) H'
def t_law_byte (K : PySem.W.Frag) (E : XK) : TS := (tRet (tCall (sp_law_pick K) [] E (tCons (tVar 0) (tCons (tLst (tCons (tC (.int 0)) (tCons (tC (.int 1)) (tCons (tC (.int 255)) (tCons (tCall (sp_law_draw K) [] E (tCons (tVar 0) (tCons (tC (.int 256)) tNil))) (tCons (tCall (sp_law_draw K) [] E (tCons (tVar 0) (tCons (tC (.int 256)) tNil))) (tCons (tCall (sp_law_draw K) [] E (tCons (tVar 0) (tCons (tC (.int 4)) tNil))) tNil))))))) tNil))))
theorem pure_law_byte {K : PySem.W.Frag} (T : TxK K) {a0 : V} {H : Hp} {Q : VK} {E : XK} (h : sp_law_byte K [a0] H Q E) : t_law_byte K E { nx := fun _ H' => Q .non H', rt := Q } [some a0] H := by
  obtain ⟨_, e, t, c, rfl, ht, q⟩ := h
  cases e
  unfold t_law_byte
  walk_at "go"
  refine s_2 ⟨t, c, 256, rfl, rfl, ht, by decide, by decide, fun r1 H1 h1 h1' k1 ht1 => ?_⟩
  walk_at "go"
  refine s_2 ⟨t, c, 256, rfl, rfl, ht1, by decide, by decide, fun r2 H2 h2 h2' k2 ht2 => ?_⟩
  walk_at "go"
  refine s_2 ⟨t, c, 4, rfl, rfl, ht2, by decide, by decide, fun r3 H3 h3 h3' k3 ht3 => ?_⟩
  walk_at "go"
  refine n_lst (by show 6 ≤ 100000; decide) fun p H4 hp k4 e4 => ?_
  walk_at "go"
  refine s_2 ⟨t, c, p, _, rfl, rfl, ht3.no k4, SqL.of e4, ht3.new hp, by show 1 ≤ 6; decide, by show 6 < 1000000; decide, fun v H5 hv k5 ht5 => ?_⟩
  have hb : ∃ b, v = .int b ∧ 0 ≤ b ∧ b ≤ 255 := by
    simp only [List.mem_cons, List.not_mem_nil, or_false] at hv
    rcases hv with rfl | rfl | rfl | rfl | rfl | rfl
    · exact ⟨_, rfl, by decide, by decide⟩
    · exact ⟨_, rfl, by decide, by decide⟩
    · exact ⟨_, rfl, by decide, by decide⟩
    · exact ⟨_, rfl, by omega, by omega⟩
    · exact ⟨_, rfl, by omega, by omega⟩
    · exact ⟨_, rfl, by omega, by omega⟩
  obtain ⟨b, rfl, hb1, hb2⟩ := hb
  exact q b H5 hb1 hb2 ((((k1.trans k2).trans k3).trans k4.no).trans k5) ht5
theorem sc_law_byte : FnScope ["town"] ["town"] (defScope s_law_byte) := ⟨rfl, rfl, rfl, by decide +kernel, rfl, by decide +kernel, by decide +kernel⟩
theorem bd_law_byte {K : PySem.W.Frag} : Bd K d_law_byte ["town"] [] := fun fd F => ⟨[], .nil, FunD.bindsN F fun _ _ _ _ _ _ us hl => match us, hl with | [_], _ => rfl⟩
theorem ok_law_byte {P : Program} {w : World} {K : PySem.W.Frag} {mg : Str → Option Value} {base : Heap} (T : Txt K mg) : Ok P w K mg base d_law_byte 3 ["town"] (sp_law_byte K) := by
  refine Ok.of (k := 2) T.d_law_byte sc_law_byte (fun vs H Q E h => ?_) (fun cdv A outer s H vs Q E hr h => ?_)
  · obtain ⟨a0, rfl, h⟩ := h
    rfl
  · obtain ⟨a0, rfl, h⟩ := h
    exact ⟨t_law_byte K E, (pss_one (ps_ret (q_call (ok_law_pick T) bd_law_pick T.g_law_pick hr (by decide) (by rfl) pD (pa_cons (pv 0) (pa_cons (pe_lst (pa_cons pe_int (pa_cons pe_int (pa_cons pe_int (pa_cons (q_call (ok_law_draw T) bd_law_draw T.g_law_draw hr (by decide) (by rfl) pD (pa_cons (pv 0) (pa_cons pe_int pa_nil))) (pa_cons (q_call (ok_law_draw T) bd_law_draw T.g_law_draw hr (by decide) (by rfl) pD (pa_cons (pv 0) (pa_cons pe_int pa_nil))) (pa_cons (q_call (ok_law_draw T) bd_law_draw T.g_law_draw hr (by decide) (by rfl) pD (pa_cons (pv 0) (pa_cons pe_int pa_nil))) pa_nil))))))) pa_nil))))), pure_law_byte T.toTxK ⟨a0, rfl, h⟩⟩
def sp_law_row (K : PySem.W.Frag) : Sp := Sp2 fun s x H Q _ => ∃ t c m, s = .ref t ∧ x = .int m ∧ TownAt H t c ∧ 0 ≤ m ∧ m ≤ 1000 ∧
  ∀ p (ns : List Int) H', H p = none → Kp (Two t c) H H' → TownAt H' t c → H' p = some (.lst (ns.map V.int)) → (ns.length : Int) ≤ m → IsB ns → Q (.ref p) H'
def t_law_row (K : PySem.W.Frag) (E : XK) : TS := (tRet (tLc (iRng1 (tCons (tCall (sp_law_draw K) [] E (tCons (tVar 0) (tCons (tOp qAdd (tVar 1) (tC (.int 1))) tNil))) tNil)) (gName 2) tYes (tCall (sp_law_byte K) [] E0 (tCons (tVar 0) tNil)) [2]))
theorem pure_law_row {K : PySem.W.Frag} (T : TxK K) {a0 a1 : V} {H : Hp} {Q : VK} {E : XK} (h : sp_law_row K [a0, a1] H Q E) : t_law_row K E { nx := fun _ H' => Q .non H', rt := Q } [some a0, some a1, none] H := by
  obtain ⟨_, _, e, t, c, m, rfl, rfl, ht, hm, hm2, q⟩ := h
  cases e
  unfold t_law_row
  walk_at "go"
  refine s_2 ⟨t, c, m + 1, rfl, rfl, ht, by omega, by omega, fun r H0 h0 h1 k0 ht0 => ?_⟩
  walk_at "go"
  refine lci_range h0 (by omega) (fun i acc H' => Kp (Two t c) H0 H' ∧ TownAt H' t c ∧ ∃ ns : List Int, acc = ns.map V.int ∧ ns.length = i ∧ IsB ns) (fun H2 k2 => ⟨k2.no, ht0.no k2, [], rfl, rfl, fun _ h => by cases h⟩) ?_ ?_ ?_ ?_ ?_ ?_
  · rintro i acc H' ⟨_, _, ns, rfl, rfl, _⟩
    rw [List.length_map]
    exact Nat.le_refl _
  · rintro i acc Dl H' hi hD e ⟨k, ht', ns, rfl, hl, hb⟩
    walk_at "go"
    refine ⟨rfl, ?_⟩
    walk_at "go"
    refine s_1 ⟨t, c, rfl, ht', fun b H4 b0 b1 k4 ht4 => ?_⟩
    have nD : ¬ Two t c Dl := ht0.new hD
    refine ⟨k4.keep _ _ e nD, fun H5 k5 => ⟨((k.trans k4).fresh k5 fun x z => ?_), ht4.keep k5 (fun z => nD (.inl (show t = Dl from z).symm)) (fun z => nD (.inr (show c = Dl from z).symm)), ns ++ [b], by rw [List.map_append]; rfl, by rw [List.length_append, hl]; rfl, ?_⟩⟩
    · rw [show x = Dl from z]
      exact .inr hD
    · intro y hy
      rcases List.mem_append.mp hy with hy | hy
      · exact hb y hy
      · rw [List.mem_singleton.mp hy]
        exact ⟨b0, b1⟩
  · rintro σ2 H2 R R' hr ⟨v, e1, a, e2, t, c, e3, e4, e5⟩
    exact ⟨v, e1, a, e2, t, c, e3, e4, fun b H' h1 h2 h3 h4 => hr _ _ (e5 b H' h1 h2 h3 h4)⟩
  · exact fun _ _ R R' hr h => hr _ _ h
  · exact fun _ _ _ R R' hr h => hr _ _ h
  · rintro p acc H' hp e ⟨k, ht', ns, rfl, hl, hb⟩
    exact q p ns H' (k0.free _ hp) (k0.trans k) ht' e (by omega) hb
theorem sc_law_row : FnScope ["town", "most", "k"] ["town", "most"] (defScope s_law_row) := ⟨rfl, rfl, rfl, by decide +kernel, rfl, by decide +kernel, by decide +kernel⟩
theorem bd_law_row {K : PySem.W.Frag} : Bd K d_law_row ["town", "most"] [] := fun fd F => ⟨[], .nil, FunD.bindsN F fun _ _ _ _ _ _ us hl => match us, hl with | [_, _], _ => rfl⟩
theorem ok_law_row {P : Program} {w : World} {K : PySem.W.Frag} {mg : Str → Option Value} {base : Heap} (T : Txt K mg) : Ok P w K mg base d_law_row 4 ["town", "most"] (sp_law_row K) := by
  refine Ok.of (k := 3) T.d_law_row sc_law_row (fun vs H Q E h => ?_) (fun cdv A outer s H vs Q E hr h => ?_)
  · obtain ⟨a0, a1, rfl, h⟩ := h
    rfl
  · obtain ⟨a0, a1, rfl, h⟩ := h
    exact ⟨t_law_row K E, (pss_one (ps_ret (pe_lc (own := [("k", 2)]) rfl sc_law_row.nd (pi_range1 rfl T.f_range (pa_cons (q_call (ok_law_draw T) bd_law_draw T.g_law_draw hr (by decide) (by rfl) pD (pa_cons (pv 0) (pa_cons (pe_op op_add (pv 1) pe_int) pa_nil))) pa_nil)) (blkOk_by (N := ["town", "most", "k"]) (sc := defScope s_law_row) (by decide +kernel)) (fun _ _ _ _ _ => (pg_name (i := 2) sc_law_row.nd rfl (Or.inl rfl))) (fun _ _ _ _ _ => pts_nil) (fun _ _ _ _ _ => (q_call (ok_law_byte T) bd_law_byte T.g_law_byte hr (by decide) (by rfl) passL (pa_cons (pv 0) pa_nil)))))), pure_law_row T.toTxK ⟨a0, a1, rfl, h⟩⟩
/-- a town, a pipe of room r with ns in it, a list with ms at so -/
structure In1 (K : PySem.W.Frag) (H : Hp) (t c p l so : Addr) (r : Int) (ns ms : List Int) : Prop where
  town : TownAt H t c
  pipe : PipeAt K H p l r ns
  lst : H so = some (.lst (ms.map V.int))
  nl : ¬ Two t c l
  ns : ¬ Two t c so
  ne : so ≠ l
theorem In1.no {K : PySem.W.Frag} {H H2 : Hp} {t c p l so : Addr} {r : Int} {ns ms : List Int} (h : In1 K H t c p l so r ns ms) (k : Kp No H H2) : In1 K H2 t c p l so r ns ms :=
  ⟨h.town.no k, h.pipe.keep k (fun z => z) (fun z => z), k.keep _ _ h.lst (fun z => z), h.nl, h.ns, h.ne⟩
theorem In1.draw {K : PySem.W.Frag} {H H2 : Hp} {t c p l so : Addr} {r : Int} {ns ms : List Int} (h : In1 K H t c p l so r ns ms) (k : Kp (Two t c) H H2) (ht : TownAt H2 t c) : In1 K H2 t c p l so r ns ms :=
  ⟨ht, h.pipe.keep k (let ⟨_, e⟩ := h.pipe.ins; h.town.ins e) h.nl, k.keep _ _ h.lst h.ns, h.nl, h.ns, h.ne⟩
/-- another object is changed -/
theorem In1.at_ {K : PySem.W.Frag} {H H2 : Hp} {t c p l so b : Addr} {r : Int} {ns ms : List Int} (h : In1 K H t c p l so r ns ms) (k : Kp (One b) H H2) (h1 : ¬ Two t c b) (h2 : p ≠ b) (h3 : l ≠ b) (h4 : so ≠ b) : In1 K H2 t c p l so r ns ms :=
  ⟨h.town.keep k (fun z => h1 (.inl (show t = b from z).symm)) (fun z => h1 (.inr (show c = b from z).symm)), h.pipe.keep k h2 h3, k.keep _ _ h.lst h4, h.nl, h.ns, h.ne⟩
theorem min_fits (n : Nat) (r : Int) (m : Nat) (h : (m : Int) ≤ r) : (if r - (m : Int) < (n : Int) then r - (m : Int) else (n : Int)) = (fits n r m : Int) := by
  unfold fits
  split <;> omega
def sp_law (K : PySem.W.Frag) : Sp := Sp1 fun s H Q _ => ∃ (a : Addr) (ns : List Int), s = .ref a ∧ SqL K H a (ns.map V.int) ∧ ns.length ≤ 63 ∧ ∀ H', Q (.bl true) H'
def t_law_r1 (K : PySem.W.Frag) (E : XK) : TS := (tSeq (tIfS (tOr (tTest (tOp (rNeD K) (tMeth (He.ga K "Pipe") "held" (sp_Pipe_held K) [] E (tVar 4) tNil) (tVar 5))) (tOr (tTest (tOp rNe (tCB (rLenO (He.ga K "Pipe") (sp_Pipe_len K) E) (tCons (tVar 4) tNil)) (tCB (rLenS K) (tCons (tVar 5) tNil)))) (tTest (tOp rNe (tMeth (He.ga K "Pipe") "left" (sp_Pipe_left K) [] E (tVar 4) tNil) (tOp qSub (tVar 2) (tCB (rLenS K) (tCons (tVar 5) tNil))))))) (tRet (tC (.bl false))) tNext) (tDrop (tBM K "list" rAppend (tMeth (He.ga K "Pipe") "held" (sp_Pipe_held K) [] E (tVar 4) tNil) (tCons (tC (.int 9)) tNil))))
def t_law_b1 (K : PySem.W.Frag) (E : XK) : TS := (tSeq (tAsg (tOp rRep (tCall (sp_law_row K) [] E (tCons (tVar 1) (tCons (tC (.int 6)) tNil))) (tCall (sp_law_pick K) [] E (tCons (tVar 1) (tCons (tLst (tCons (tC (.int 1)) (tCons (tC (.int 1)) (tCons (tC (.int 1)) (tCons (tC (.int 33)) tNil))))) tNil)))) (gName 7)) (tSeq (tAsg (tCB (rListS K) (tCons (tVar 7) tNil)) (gName 8)) (tSeq (tAsg (tCB rMin2 (tCons (tCB (rLenS K) (tCons (tVar 7) tNil)) (tCons (tOp qSub (tVar 2) (tCB (rLenS K) (tCons (tVar 5) tNil))) tNil))) (gName 9)) (tSeq (tAsg (tMeth (He.ga K "Pipe") "put" (sp_Pipe_put K) [] E (tVar 4) (tCons (tVar 7) tNil)) (gName 10)) (tSeq (tIfS (tOr (tNot (tB (tCall (sp_law_whole K) [] E (tCons (tVar 10) tNil)))) (tOr (tTest (tOp rNe (tVar 10) (tVar 9))) (tTest (tOp (rNeD K) (tVar 7) (tVar 8))))) (tRet (tC (.bl false))) tNext) (tSeq (tAsg (tOp rCat (tVar 5) (tSl (rSlL K) (tVar 7) tNoPart (tPart (tVar 9)))) (gName 5)) (tSeq (tDrop (tBM K "list" rAppend (tVar 7) (tCons (tC (.int 7)) tNil))) (tSeq (tAsg (tCall (sp_law_pick K) [] E (tCons (tVar 1) (tCons (tLst (tCons (tC (.int 1)) (tCons (tC (.int 2)) (tCons (tC (.int 3)) (tCons (tC (.int 200)) tNil))))) tNil))) (gName 11)) (tSeq (tAsg (tIf (tTest (tOp rEq (tCall (sp_law_draw K) [] E (tCons (tVar 1) (tCons (tC (.int 2)) tNil))) (tC (.int 0)))) (tSl (rSlL K) (tVar 5) tNoPart (tPart (tVar 11))) (tC .non)) (gName 12)) (tSeq (tIfS (tTest (tOp rNotN (tVar 12) (tC .non))) (tSeq (tAsg (tMeth (He.ga K "Pipe") "take" (sp_Pipe_take K) [] E (tVar 4) (tCons (tVar 11) tNil)) (gName 13)) (tSeq (tIfS (tOr (tNot (tB (tCall (sp_law_whole_list K) [] E (tCons (tVar 13) tNil)))) (tTest (tOp (rNeD K) (tVar 13) (tVar 12)))) (tRet (tC (.bl false))) tNext) (tSeq (tAsg (tSl (rSlL K) (tVar 5) (tPart (tVar 11)) tNoPart) (gName 5)) (tDrop (tBM K "list" rAppend (tVar 13) (tCons (tC (.int 8)) tNil)))))) tNext) (t_law_r1 K E)))))))))))
def t_law_r2 (K : PySem.W.Frag) (E : XK) : TS := (tRet (tOp (rEqD K) (tMeth (He.ga K "Pipe") "held" (sp_Pipe_held K) [] E (tVar 4) tNil) (tVar 5)))
def t_law (K : PySem.W.Frag) (E : XK) : TS := (tSeq (tAsg (tCall (sp_law_town K) [] E (tCons (tVar 0) tNil)) (gName 1)) (tSeq (tAsg (tOp qAdd (tC (.int 1)) (tCall (sp_law_draw K) [] E (tCons (tVar 1) (tCons (tCall (sp_law_pick K) [] E (tCons (tVar 1) (tCons (tLst (tCons (tC (.int 3)) (tCons (tC (.int 40)) tNil))) tNil))) tNil)))) (gName 2)) (tSeq (tAsg (tOp rEq (tCall (sp_law_draw K) [] E (tCons (tVar 1) (tCons (tC (.int 6)) tNil))) (tC (.int 0))) (gName 3)) (tSeq (tAsg (tIf (tB (tVar 3)) (tMake (He.ga K "Pipe") (sp_Pipe_init K) [(.int 8)] E tNil) (tMakeK (He.ga K "Pipe") 0 1 (sp_Pipe_init K) (fun vs zs => vs ++ zs) E tNil (tCons (tVar 2) tNil))) (gName 4)) (tSeq (tAsg (tIf (tB (tVar 3)) (tC (.int 8)) (tVar 2)) (gName 2)) (tSeq (tAsg (tLst tNil) (gName 5)) (tSeq (tFor (iRng1 (tCons (tC (.int 14)) tNil)) (gName 6) (t_law_b1 K E)) (t_law_r2 K E))))))))
def Inv1 (K : PySem.W.Frag) (a t c p : Addr) (r : Int) (bb : Bool) (σ : L2.St) (H : Hp) : Prop := ∃ l so ns o6 o7 o8 o9 o10 o11 o12 o13,
  σ = [some (.ref a), some (.ref t), some (.int r), some (.bl bb), some (.ref p), some (.ref so), o6, o7, o8, o9, o10, o11, o12, o13] ∧ In1 K H t c p l so r ns ns
theorem tail1 {K : PySem.W.Frag} (T : TxK K) {E : XK} {D : Ends} {H : Hp} {a t c p l so : Addr} {r : Int} {bb : Bool} {ns : List Int} {o6 o7 o8 o9 o10 o11 o12 o13 : Option V} (h : In1 K H t c p l so r ns ns) (hd : ∀ σ' H', Inv1 K a t c p r bb σ' H' → D.nx σ' H') :
    t_law_r1 K E D [some (.ref a), some (.ref t), some (.int r), some (.bl bb), some (.ref p), some (.ref so), o6, o7, o8, o9, o10, o11, o12, o13] H := by
  unfold t_law_r1
  obtain ⟨dx, hp⟩ := h.pipe.ins
  walk_at "go"
  refine m_at hp (by walk_at "lk") ?_
  walk_at "go"
  refine s_1 ⟨p, l, r, ns, rfl, h.pipe, fun b1 H1 hb1 k1 e1 => ?_⟩
  have h1 := h.no k1
  obtain ⟨dx1, hp1⟩ := h1.pipe.ins
  walk_at "go"
  refine r_neL (SqL.of e1) (SqL.of h1.lst) ?_
  rw [decide_eq_true rfl]
  walk_at "go"
  refine r_F ?_
  walk_at "go"
  refine ⟨p, dx1, _, rfl, hp1, s_1 ⟨p, l, r, ns, rfl, h1.pipe, _, rfl, by omega, ?_, ?_⟩⟩
  · have := h.pipe.len
    have := h.pipe.room
    omega
  walk_at "go"
  refine r_len (SqL.of h1.lst) ?_
  rw [List.length_map]
  refine r_ne rfl ?_
  rw [decide_eq_true rfl]
  walk_at "go"
  refine r_F ?_
  walk_at "go"
  refine m_at hp1 (by walk_at "lk") ?_
  walk_at "go"
  refine s_1 ⟨p, l, r, ns, rfl, h1.pipe, ?_⟩
  walk_at "go"
  refine r_len (SqL.of h1.lst) ?_
  rw [List.length_map]
  walk_at "go"
  refine r_ne rfl ?_
  rw [decide_eq_true rfl]
  walk_at "go"
  refine r_F ?_
  walk_at "go"
  refine m_at hp1 (by walk_at "lk") ?_
  walk_at "go"
  refine s_1 ⟨p, l, r, ns, rfl, h1.pipe, fun b2 H2 hb2 k2 e2 => ?_⟩
  have h2 := h1.no k2
  refine b_lst e2 ?_
  walk_at "go"
  have := h.pipe.len
  have := h.pipe.room
  refine r_append e2 (lt_line1 (by rw [List.length_map]; omega)) fun H3 k3 e3 => ?_
  obtain ⟨dx2, hp2⟩ := h2.pipe.ins
  have h3 := h2.at_ k3 (h1.town.new hb2) (ne_of hp2 e2 (by intro z; cases z)) (fun z => by rw [← z, h1.pipe.lst] at hb2; cases hb2) (fun z => by rw [← z, h1.lst] at hb2; cases hb2)
  exact hd _ _ ⟨l, so, ns, o6, o7, o8, o9, o10, o11, o12, o13, rfl, h3⟩
theorem body1 {K : PySem.W.Frag} (T : TxK K) {E : XK} {D : Ends} {H : Hp} {a t c p l so : Addr} {r : Int} {bb : Bool} {ns : List Int} {o6 o7 o8 o9 o10 o11 o12 o13 : Option V} (h : In1 K H t c p l so r ns ns) (hd : ∀ σ' H', Inv1 K a t c p r bb σ' H' → D.nx σ' H') :
    t_law_b1 K E D [some (.ref a), some (.ref t), some (.int r), some (.bl bb), some (.ref p), some (.ref so), o6, o7, o8, o9, o10, o11, o12, o13] H := by
  unfold t_law_b1
  walk_at "go"
  -- row
  refine s_2 ⟨t, c, 6, rfl, rfl, h.town, by decide, by decide, fun b1 ms H1 hb1 k1 ht1 e1 hl1 hB1 => ?_⟩
  have h1 := h.draw k1 ht1
  walk_at "go"
  refine n_lst (by show 4 ≤ 100000; decide) fun b2 H2 hb2 k2 e2 => ?_
  walk_at "go"
  have h2 := h1.no k2
  refine s_2 ⟨t, c, b2, _, rfl, rfl, h2.town, SqL.of e2, h1.town.new hb2, by show 1 ≤ 4; decide, by show 4 < 1000000; decide, fun v H3 hv k3 ht3 => ?_⟩
  obtain ⟨kk, rfl, hv1, hv2⟩ : ∃ i : Nat, v = .int (i : Int) ∧ 0 < i ∧ i ≤ 33 := by
    simp only [List.mem_cons, List.not_mem_nil, or_false] at hv
    rcases hv with rfl | rfl | rfl | rfl
    · exact ⟨1, rfl, by decide, by decide⟩
    · exact ⟨1, rfl, by decide, by decide⟩
    · exact ⟨1, rfl, by decide, by decide⟩
    · exact ⟨33, rfl, by decide, by decide⟩
  have h3 := h2.draw k3 ht3
  have e13 : H3 b1 = _ := k3.keep _ _ (k2.keep _ _ e1 (fun z => z)) (h.town.new hb1)
  have hrl : kk * ms.length ≤ 198 := by
    have : ms.length ≤ 6 := by omega
    calc kk * ms.length ≤ 33 * 6 := Nat.mul_le_mul hv2 this
      _ = 198 := rfl
  refine r_rep e13 (by omega) (by omega) (lt_line (by rw [List.length_map, Int.toNat_natCast, Nat.mul_comm]; omega)) fun b4 H4 hb4 k4 e4 => ?_
  rw [Int.toNat_natCast, rep_ints] at e4
  generalize hrs : (List.replicate kk ms).flatten = rs at e4
  have hBr : IsB rs := by rw [← hrs]; exact rep_isB hB1
  have hlr : rs.length ≤ 198 := by rw [← hrs, rep_len]; exact hrl
  have h4 := h3.no k4
  walk_at "go"
  -- kept
  refine r_list (SqL.of e4) fun b5 H5 hb5 k5 e5 => ?_
  have h5 := h4.no k5
  have e45 : H5 b4 = _ := k5.keep _ _ e4 (fun z => z)
  walk_at "go"
  refine r_len (SqL.of e45) ?_
  walk_at "go"
  refine r_len (SqL.of h5.lst) ?_
  walk_at "go"
  rw [List.length_map, List.length_map, min_fits _ _ _ h.pipe.len]
  -- told
  obtain ⟨dx, hp5⟩ := h5.pipe.ins
  refine m_at hp5 (by walk_at "lk") ?_
  walk_at "go"
  refine s_2 ⟨p, l, r, ns, "list", rfl, h5.pipe, .lst e45, items_ints e45, fun a' ms' H6 ea hm' _ _ k6 P6 => ?_, fun hn => absurd ⟨b4, rs, rfl, e45, by omega, hBr⟩ hn⟩
  cases ea
  rw [e45] at hm'
  have hm2 : rs = ms' := by
    have z := HO.lst.inj (Option.some.inj hm')
    exact List.map_inj_right (fun a b e => V.int.inj e) |>.mp z
  subst hm2
  generalize hf : fits rs.length r ns.length = f at P6
  have hfl : f ≤ rs.length := by rw [← hf]; exact Nat.min_le_left _ _
  have n4l : b4 ≠ l := fun z => by rw [z] at hb4; rw [h3.pipe.lst] at hb4; cases hb4
  have n5l : b5 ≠ l := fun z => by rw [z] at hb5; rw [h4.pipe.lst] at hb5; cases hb5
  have t6 : TownAt H6 t c := h5.town.keep k6 (fun z => h.nl (.inl (show t = l from z).symm)) (fun z => h.nl (.inr (show c = l from z).symm))
  have s6 : H6 so = _ := k6.keep _ _ h5.lst h.ne
  have e46 : H6 b4 = _ := k6.keep _ _ e45 n4l
  have e56 : H6 b5 = _ := k6.keep _ _ e5 n5l
  have h6 : In1 K H6 t c p l so r (ns ++ rs.take f) ns := ⟨t6, P6, s6, h.nl, h.ns, h.ne⟩
  walk_at "go"
  refine s_1 ⟨"int", .int _, ?_⟩
  walk_at "go"
  refine r_F ?_
  walk_at "go"
  refine r_ne rfl ?_
  rw [decide_eq_true (show V.int (f : Int) = V.int (f : Int) from rfl)]
  walk_at "go"
  refine r_F ?_
  walk_at "go"
  refine r_neL (SqL.of e46) (SqL.of e56) ?_
  rw [decide_eq_true rfl]
  walk_at "go"
  refine r_F ?_
  walk_at "go"
  -- some = some + row[:many]
  refine r_slL (SqL.of e46) fun b7 H7 hb7 k7 e7 => ?_
  rw [cut_to (by omega), Int.toNat_natCast, ← List.map_take] at e7
  have h7 := h6.no k7
  walk_at "go"
  have hlen7 := h7.pipe.len
  have hroom := h.pipe.room
  rw [List.length_append] at hlen7
  refine r_cat h7.lst e7 (lt_line (by rw [List.length_map, List.length_map]; omega)) fun so' H8 hso k8 e8 => ?_
  rw [← List.map_append] at e8
  have h8 : In1 K H8 t c p l so' r (ns ++ rs.take f) (ns ++ rs.take f) := by
    have z := h7.no k8
    refine ⟨z.town, z.pipe, e8, z.nl, h7.town.new hso, fun y => ?_⟩
    rw [y, h7.pipe.lst] at hso
    cases hso
  have hso4 : b4 ≠ so' := fun y => by
    rw [← y, k7.keep _ _ e46 (fun z => z)] at hso
    cases hso
  have e48 : H8 b4 = _ := k8.keep _ _ (k7.keep _ _ e46 (fun z => z)) (fun z => z)
  walk_at "go"
  -- row.append(7)
  refine b_lst e48 ?_
  walk_at "go"
  refine r_append e48 (lt_line1 (by rw [List.length_map]; omega)) fun H9 k9 e9 => ?_
  obtain ⟨dx8, hp8⟩ := h8.pipe.ins
  have h9 : In1 K H9 t c p l so' r (ns ++ rs.take f) (ns ++ rs.take f) := h8.at_ k9 (h3.town.new hb4) (ne_of hp8 e48 (by intro z; cases z)) n4l.symm hso4.symm
  generalize ns ++ rs.take f = nn at h9
  walk_at "go"
  -- most
  refine n_lst (by show 4 ≤ 100000; decide) fun b10 H10 hb10 k10 e10 => ?_
  walk_at "go"
  have h10 := h9.no k10
  refine s_2 ⟨t, c, b10, _, rfl, rfl, h10.town, SqL.of e10, h9.town.new hb10, by show 1 ≤ 4; decide, by show 4 < 1000000; decide, fun v H11 hv k11 ht11 => ?_⟩
  obtain ⟨most, rfl, hm1, hm2⟩ : ∃ i : Int, v = .int i ∧ 1 ≤ i ∧ i ≤ 200 := by
    simp only [List.mem_cons, List.not_mem_nil, or_false] at hv
    rcases hv with rfl | rfl | rfl | rfl
    · exact ⟨1, rfl, by decide, by decide⟩
    · exact ⟨2, rfl, by decide, by decide⟩
    · exact ⟨3, rfl, by decide, by decide⟩
    · exact ⟨200, rfl, by decide, by decide⟩
  have h11 := h10.draw k11 ht11
  walk_at "go"
  refine s_2 ⟨t, c, 2, rfl, rfl, h11.town, by decide, by decide, fun r2 H12 _ _ k12 ht12 => ?_⟩
  have h12 := h11.draw k12 ht12
  walk_at "go"
  refine r_eq rfl ?_
  walk_at "go"
  refine r_ite (fun _ => ?_) (fun _ => ?_)
  · walk_at "go"
    refine r_slL (SqL.of h12.lst) fun b13 H13 hb13 k13 e13 => ?_
    rw [cut_to (by omega), ← List.map_take] at e13
    have h13 := h12.no k13
    walk_at "go"
    refine ⟨rfl, ?_⟩
    rw [decide_eq_false (show ¬ V.ref b13 = V.non by intro z; cases z)]
    walk_at "go"
    show if (!false) = true then _ else _
    refine r_T ?_
    walk_at "go"
    obtain ⟨dx13, hp13⟩ := h13.pipe.ins
    refine m_at hp13 (by walk_at "lk") ?_
    walk_at "go"
    refine s_2 ⟨p, l, r, nn, "int", rfl, h13.pipe, .int _, fun i b14 l' H14 ei hi1 hi2 hb14 hl' n14 k14 e14 P14 => ?_, fun hn => by rw [isW_of hm1 hm2] at hn; cases hn⟩
    cases ei
    have e1314 : H14 b13 = _ := k14.keep _ _ e13 (ne_of e13 hp13 (by intro z; cases z))
    have s14 : H14 so' = _ := k14.keep _ _ h13.lst (ne_of h13.lst hp13 (by intro z; cases z))
    have np : ¬ Two t c p := h13.town.ins hp13
    have t14 : TownAt H14 t c := h13.town.keep k14 (fun z => np (.inl (show t = p from z).symm)) (fun z => np (.inr (show c = p from z).symm))
    walk_at "go"
    have hlen13 := h13.pipe.len
    have hroom13 := h13.pipe.room
    refine s_1 ⟨b14, nn.take most.toNat, rfl, e14, by rw [List.length_take]; omega, fun H15 k15 => ?_⟩
    walk_at "go"
    refine r_F ?_
    walk_at "go"
    refine r_neL (SqL.of (k15.keep _ _ e14 fun z => z)) (SqL.of (k15.keep _ _ e1314 fun z => z)) ?_
    rw [decide_eq_true rfl]
    walk_at "go"
    refine r_F ?_
    walk_at "go"
    refine r_slL (SqL.of (k15.keep _ _ s14 fun z => z)) fun so2 H16 hso2 k16 e16 => ?_
    rw [cut_from (by omega), ← List.map_drop] at e16
    walk_at "go"
    have e146 : H16 b14 = _ := k16.keep _ _ (k15.keep _ _ e14 fun z => z) (fun z => z)
    refine b_lst e146 ?_
    walk_at "go"
    have P16 := (P14.keep k15 (fun z => z) (fun z => z)).keep k16 (fun z => z) (fun z => z)
    have P15 := P14.keep k15 (fun z => z) (fun z => z)
    have t15 : TownAt H15 t c := t14.no k15
    have h16 : In1 K H16 t c p l' so2 r (nn.drop most.toNat) (nn.drop most.toNat) := ⟨t15.no k16, P16, e16, h13.town.new hl', t15.new hso2, fun z => by rw [z, P15.lst] at hso2; cases hso2⟩
    refine r_append e146 (lt_line1 (by rw [List.length_map, List.length_take]; omega)) fun H17 k17 e17 => ?_
    obtain ⟨dx16, hp16⟩ := P16.ins
    have h17 := h16.at_ k17 (h13.town.new hb14) (ne_of hp16 e146 (by intro z; cases z)) (fun z => n14 z.symm) (fun z => by rw [z, k15.keep _ _ e14 (fun z => z)] at hso2; cases hso2)
    exact tail1 T h17 hd
  · walk_at "go"
    refine ⟨rfl, ?_⟩
    rw [decide_eq_true rfl]
    walk_at "go"
    refine r_F ?_
    walk_at "go"
    exact tail1 T h12 hd
theorem last1 {K : PySem.W.Frag} (T : TxK K) {E : XK} {H : Hp} {a t c p l : Addr} {r : Int} {bb : Bool} {D : Ends} (q : ∀ H', D.rt (.bl true) H') (ht : TownAt H t c) (hp : PipeAt K H p l r []) (nl : ¬ Two t c l) :
    tSeq (tAsg (tLst tNil) (gName 5)) (tSeq (tFor (iRng1 (tCons (tC (.int 14)) tNil)) (gName 6) (t_law_b1 K E)) (t_law_r2 K E)) D [some (.ref a), some (.ref t), some (.int r), some (.bl bb), some (.ref p), none, none, none, none, none, none, none, none, none] H := by
  walk_at "go"
  refine n_lst (by show 0 ≤ 100000; decide) fun so H1 hso k1 e1 => ?_
  have h1 : In1 K H1 t c p l so r [] [] := ⟨ht.no k1, hp.keep k1 (fun z => z) (fun z => z), e1, nl, ht.new hso, fun z => by rw [z, hp.lst] at hso; cases hso⟩
  walk_at "go"
  refine for_r ⟨by decide, by decide⟩ (fun i σ' H' => Inv1 K a t c p r bb σ' H') ⟨l, so, [], none, none, none, none, none, none, none, none, rfl, h1⟩ (fun i σ' H' hi hv => ?_) (fun σ' H' hv => ?_)
  · obtain ⟨l, so, ns, o6, o7, o8, o9, o10, o11, o12, o13, rfl, h⟩ := hv
    walk_at "go"
    exact body1 T h fun σ' H' z => z
  · obtain ⟨l, so, ns, o6, o7, o8, o9, o10, o11, o12, o13, rfl, h⟩ := hv
    show t_law_r2 K E D _ H'
    unfold t_law_r2
    walk_at "go"
    obtain ⟨dx, hp⟩ := h.pipe.ins
    refine m_at hp (by walk_at "lk") ?_
    walk_at "go"
    refine s_1 ⟨p, l, r, ns, rfl, h.pipe, fun b1 H1 hb1 k1 e1 => ?_⟩
    walk_at "go"
    refine r_eqL (SqL.of e1) (SqL.of (h.no k1).lst) ?_
    rw [decide_eq_true rfl]
    exact q _
theorem pure_law {K : PySem.W.Frag} (T : TxK K) {a0 : V} {H : Hp} {Q : VK} {E : XK} (h : sp_law K [a0] H Q E) : t_law K E { nx := fun _ H' => Q .non H', rt := Q } [some a0, none, none, none, none, none, none, none, none, none, none, none, none, none] H := by
  obtain ⟨_, e, a, ns, rfl, hs, hl, q⟩ := h
  cases e
  unfold t_law
  walk_at "go"
  refine s_1 ⟨a, ns, rfl, hs, hl, fun t c H1 nt nc k1 ht => ?_⟩
  walk_at "go"
  refine n_lst (by show 2 ≤ 100000; decide) fun b1 H2 hb1 k2 e2 => ?_
  walk_at "go"
  refine s_2 ⟨t, c, b1, _, rfl, rfl, ht.no k2, SqL.of e2, ht.new hb1, by show 1 ≤ 2; decide, by show 2 < 1000000; decide, fun v H3 hv k3 ht3 => ?_⟩
  obtain ⟨top, rfl, hv1, hv2⟩ : ∃ i, v = .int i ∧ 0 < i ∧ i ≤ 40 := by
    simp only [List.mem_cons, List.not_mem_nil, or_false] at hv
    rcases hv with rfl | rfl
    · exact ⟨_, rfl, by decide, by decide⟩
    · exact ⟨_, rfl, by decide, by decide⟩
  walk_at "go"
  refine s_2 ⟨t, c, top, rfl, rfl, ht3, hv1, by omega, fun r0 H4 h40 h41 k4 ht4 => ?_⟩
  walk_at "go"
  refine s_2 ⟨t, c, 6, rfl, rfl, ht4, by decide, by decide, fun r1 H5 _ _ k5 ht5 => ?_⟩
  walk_at "go"
  refine r_eq rfl ?_
  walk_at "go"
  generalize hbb : decide (V.int r1 = V.int 0) = bb
  cases bb with
  | true =>
    walk_at "go"
    refine k_at fun p dx H6 hp hdx ne k6 e6 _ => ?_
    refine s_2 ⟨p, dx, "int", rfl, e6, .int 8, fun i l H7 ei h1 h2 hl' k7 P7 => ⟨rfl, ?_⟩, fun hn => by cases hn⟩
    cases ei
    have t6 := ht5.no k6
    have np : ¬ Two t c p := ht5.new hp
    have t7 : TownAt H7 t c := t6.keep k7 (fun z => np (.inl (show t = p from z).symm)) (fun z => np (.inr (show c = p from z).symm))
    walk_at "go"
    exact last1 T q t7 P7 (t6.new hl')
  | false =>
    walk_at "go"
    refine kk_at rfl rfl fun p dx H6 hp hdx ne k6 e6 _ => ?_
    refine s_2 ⟨p, dx, "int", rfl, e6, .int _, fun i l H7 ei h1 h2 hl' k7 P7 => ⟨rfl, ?_⟩, fun hn => by rw [isW_of (by omega) (by omega)] at hn; cases hn⟩
    cases ei
    have t6 := ht5.no k6
    have np : ¬ Two t c p := ht5.new hp
    have t7 : TownAt H7 t c := t6.keep k7 (fun z => np (.inl (show t = p from z).symm)) (fun z => np (.inr (show c = p from z).symm))
    walk_at "go"
    exact last1 T q t7 P7 (t6.new hl')
theorem sc_law : FnScope ["script", "town", "space", "bare", "pipe", "some", "turn", "row", "kept", "many", "told", "most", "due", "found"] ["script"] (defScope s_law) := ⟨rfl, rfl, rfl, by decide +kernel, rfl, by decide +kernel, by decide +kernel⟩
theorem bd_law {K : PySem.W.Frag} : Bd K d_law ["script"] [] := fun fd F => ⟨[], .nil, FunD.bindsN F fun _ _ _ _ _ _ us hl => match us, hl with | [_], _ => rfl⟩
theorem ok_law {P : Program} {w : World} {K : PySem.W.Frag} {mg : Str → Option Value} {base : Heap} (T : Txt K mg) : Ok P w K mg base d_law 5 ["script"] (sp_law K) := by
  refine Ok.of (k := 4) T.d_law sc_law (fun vs H Q E h => ?_) (fun cdv A outer s H vs Q E hr h => ?_)
  · obtain ⟨a0, rfl, h⟩ := h
    rfl
  · obtain ⟨a0, rfl, h⟩ := h
    exact ⟨t_law K E, (pss_cons (ps_set (i := 1) sc_law.nd rfl (Or.inl rfl) (q_call (ok_law_town T) bd_law_town T.g_law_town hr (by decide) (by rfl) pD (pa_cons (pv 0) pa_nil))) (pss_cons (ps_set (i := 2) sc_law.nd rfl (Or.inl rfl) (pe_op op_add pe_int (q_call (ok_law_draw T) bd_law_draw T.g_law_draw hr (by decide) (by rfl) pD (pa_cons (pv 1) (pa_cons (q_call (ok_law_pick T) bd_law_pick T.g_law_pick hr (by decide) (by rfl) pD (pa_cons (pv 1) (pa_cons (pe_lst (pa_cons pe_int (pa_cons pe_int pa_nil))) pa_nil))) pa_nil))))) (pss_cons (ps_set (i := 3) sc_law.nd rfl (Or.inl rfl) (pe_cmpR op_eq (q_call (ok_law_draw T) bd_law_draw T.g_law_draw hr (by decide) (by rfl) pD (pa_cons (pv 1) (pa_cons pe_int pa_nil))) pe_int (nomark _))) (pss_cons (ps_set (i := 4) sc_law.nd rfl (Or.inl rfl) (pe_ifExp (pt_val (pv 3)) (q_make0 (ok_Pipe_init T) T.n_Pipe bd_Pipe_init_1 T.g_Pipe hr (by decide) (by rfl) pD) (q_makeK0 (n := 0) (ok_Pipe_init T) T.n_Pipe bk_Pipe_init_room T.g_Pipe hr (by decide) (by rfl) pD (pk_cons (pv 2) pk_nil)))) (pss_cons (ps_set (i := 2) sc_law.nd rfl (Or.inl rfl) (pe_ifExp (pt_val (pv 3)) pe_int (pv 2))) (pss_cons (ps_set (i := 5) sc_law.nd rfl (Or.inl rfl) (pe_lst pa_nil)) (pss_cons (ps_for pO rfl (pi_range1 rfl T.f_range (pa_cons pe_int pa_nil)) (pg_name (i := 6) sc_law.nd rfl (Or.inl rfl)) (pss_cons (ps_set (i := 7) sc_law.nd rfl (Or.inl rfl) (pe_op op_rep (q_call (ok_law_row T) bd_law_row T.g_law_row hr (by decide) (by rfl) pD (pa_cons (pv 1) (pa_cons pe_int pa_nil))) (q_call (ok_law_pick T) bd_law_pick T.g_law_pick hr (by decide) (by rfl) pD (pa_cons (pv 1) (pa_cons (pe_lst (pa_cons pe_int (pa_cons pe_int (pa_cons pe_int (pa_cons pe_int pa_nil))))) pa_nil))))) (pss_cons (ps_set (i := 8) sc_law.nd rfl (Or.inl rfl) (pe_callTy c_list (by rfl) T.f_list (by decide +kernel) (pa_cons (pv 7) pa_nil))) (pss_cons (ps_set (i := 9) sc_law.nd rfl (Or.inl rfl) (pe_callB (c_min2 rfl) (by rfl) T.f_min (by decide +kernel) (pa_cons (pe_callB c_len (by rfl) T.f_len PySem.boot_len (pa_cons (pv 7) pa_nil)) (pa_cons (pe_op op_sub (pv 2) (pe_callB c_len (by rfl) T.f_len PySem.boot_len (pa_cons (pv 5) pa_nil))) pa_nil)))) (pss_cons (ps_set (i := 10) sc_law.nd rfl (Or.inl rfl) (q_meth (ok_Pipe_put T) (pv 4) T.c_Pipe T.m_Pipe_put bd_Pipe_put hr (by decide) pD (pa_cons (pv 7) pa_nil))) (pss_cons (ps_if (PW.pt (pw_or (pt_not (pt_val (q_call (ok_law_whole T) bd_law_whole T.g_law_whole hr (by decide) (by rfl) pD (pa_cons (pv 10) pa_nil)))) (pw_or (pt_cmpR op_ne (pv 10) (pv 9) (nomark _)) (pw_or1 (pt_cmpR (op_neD hr.units) (pv 7) (pv 8) (nomark _)))))) (pss_one (ps_ret pe_bl)) pss_nil) (pss_cons (ps_set (i := 5) sc_law.nd rfl (Or.inl rfl) (pe_op op_cat (pv 5) (pe_slice sl_list (pv 7) po_none (po_some (pv 9))))) (pss_cons (ps_expr (pe_bm PySem.F.plainAttrs_list PySem.F.slot_list_append PySem.F.type_list_append mt_append (pv 7) (pa_cons pe_int pa_nil))) (pss_cons (ps_set (i := 11) sc_law.nd rfl (Or.inl rfl) (q_call (ok_law_pick T) bd_law_pick T.g_law_pick hr (by decide) (by rfl) pD (pa_cons (pv 1) (pa_cons (pe_lst (pa_cons pe_int (pa_cons pe_int (pa_cons pe_int (pa_cons pe_int pa_nil))))) pa_nil)))) (pss_cons (ps_set (i := 12) sc_law.nd rfl (Or.inl rfl) (pe_ifExp (pt_cmpR op_eq (q_call (ok_law_draw T) bd_law_draw T.g_law_draw hr (by decide) (by rfl) pD (pa_cons (pv 1) (pa_cons pe_int pa_nil))) pe_int (nomark _)) (pe_slice sl_list (pv 5) po_none (po_some (pv 11))) pe_non)) (pss_cons (ps_if (pt_cmpR op_notN1 (pv 12) pe_non (nomark _)) (pss_cons (ps_set (i := 13) sc_law.nd rfl (Or.inl rfl) (q_meth (ok_Pipe_take T) (pv 4) T.c_Pipe T.m_Pipe_take bd_Pipe_take hr (by decide) pD (pa_cons (pv 11) pa_nil))) (pss_cons (ps_if (PW.pt (pw_or (pt_not (pt_val (q_call (ok_law_whole_list T) bd_law_whole_list T.g_law_whole_list hr (by decide) (by rfl) pD (pa_cons (pv 13) pa_nil)))) (pw_or1 (pt_cmpR (op_neD hr.units) (pv 13) (pv 12) (nomark _))))) (pss_one (ps_ret pe_bl)) pss_nil) (pss_cons (ps_set (i := 5) sc_law.nd rfl (Or.inl rfl) (pe_slice sl_list (pv 5) (po_some (pv 11)) po_none)) (pss_one (ps_expr (pe_bm PySem.F.plainAttrs_list PySem.F.slot_list_append PySem.F.type_list_append mt_append (pv 13) (pa_cons pe_int pa_nil))))))) pss_nil) (pss_cons (ps_if (PW.pt (pw_or (pt_cmpR (op_neD hr.units) (q_meth0 (ok_Pipe_held T) (pv 4) T.c_Pipe T.m_Pipe_held bd_Pipe_held hr (by decide) pD) (pv 5) (nomark _)) (pw_or (pt_cmpR op_ne (pe_callB (c_lenO (ok_Pipe_len T) T.m_Pipe_len bd_Pipe_len hr (by decide) pD) (by rfl) T.f_len PySem.boot_len (pa_cons (pv 4) pa_nil)) (pe_callB c_len (by rfl) T.f_len PySem.boot_len (pa_cons (pv 5) pa_nil)) (nomark _)) (pw_or1 (pt_cmpR op_ne (q_meth0 (ok_Pipe_left T) (pv 4) T.c_Pipe T.m_Pipe_left bd_Pipe_left hr (by decide) pD) (pe_op op_sub (pv 2) (pe_callB c_len (by rfl) T.f_len PySem.boot_len (pa_cons (pv 5) pa_nil))) (nomark _)))))) (pss_one (ps_ret pe_bl)) pss_nil) (pss_one (ps_expr (pe_bm PySem.F.plainAttrs_list PySem.F.slot_list_append PySem.F.type_list_append mt_append (q_meth0 (ok_Pipe_held T) (pv 4) T.c_Pipe T.m_Pipe_held bd_Pipe_held hr (by decide) pD) (pa_cons pe_int pa_nil)))))))))))))))) (pss_one (ps_ret (pe_cmpR (op_eqD hr.units) (q_meth0 (ok_Pipe_held T) (pv 4) T.c_Pipe T.m_Pipe_held bd_Pipe_held hr (by decide) pD) (pv 5) (nomark _))))))))))), pure_law T.toTxK ⟨a0, rfl, h⟩⟩
theorem law_at {P : Program} {w : World} {K : PySem.W.Frag} {mg : Str → Option Value} {base : Heap} {fd : FuncData} (T : Txt K mg) (F : DFun K d_law fd) : FnOk P w K mg base (L2.CX P w) 5 (He.fAd K d_law.at_) fd ["script"] (sp_law K) := by
  obtain ⟨fd2, F2, G⟩ := (ok_law (P := P) (w := w) (base := base) T).ex
  have e : fd2 = fd := fd_same F2 F
  exact e ▸ G
end Ph
namespace Ph
open PySem PySem.Spec PyProof.Rows L2
def fn : List He.DefD := ([d_is_whole, d_look_number, d_look_bytes, d_Pipe_init, d_Pipe_put, d_Pipe_take, d_Pipe_left, d_Pipe_held, d_Pipe_len, d_law_town, d_law_draw, d_law_pick, d_law_whole, d_law_whole_list, d_law_byte, d_law_row, d_law] : List He.DefD)
def fa : List He.Fa := ([.glo "is_whole", .glo "look_number", .glo "look_bytes", .glo "_law_town", .glo "_law_draw", .glo "_law_pick", .glo "_law_whole", .glo "_law_whole_list", .glo "_law_byte", .glo "_law_row", .int "MOST_ROOM" 40, .int "MOST_BYTES" 200, .free "len", .free "min", .free "list", .free "isinstance", .free "int", .free "bool", .free "all", .free "range"] : List He.Fa) ++ ([.free "ValueError", .glo "HouseError", .exc "HouseError", .glo "BadBytes", .exc "BadBytes", .glo "BadNumber", .exc "BadNumber", .glo "Pipe", .cls "Pipe", .mkr "Pipe", .meth "Pipe" "put", .meth "Pipe" "take", .meth "Pipe" "left", .meth "Pipe" "held", .meth "Pipe" "__len__", .noat "Pipe" "room", .noat "Pipe" "some", .glo "law"] : List He.Fa)
def names : List Str := (["__name__", "HouseError", "BadBytes", "BadNumber", "is_whole", "look_number", "look_bytes", "MOST_ROOM", "MOST_BYTES", "Pipe", "_law_town", "_law_draw", "_law_pick", "_law_whole", "_law_whole_list", "_law_byte", "_law_row"] : List Str)
theorem txk_of {K : PySem.W.Frag} (c : He.SaysD fa fn K) : TxK K where
  x_HouseError := xok (He.exc_ok (c.fact 22 rfl))
  x_BadBytes := xok (He.exc_ok (c.fact 24 rfl))
  x_BadNumber := xok (He.exc_ok (c.fact 26 rfl))
  c_Pipe := He.cls_ok (c.fact 28 rfl)
  n_Pipe := He.mkr_ok (c.fact 29 rfl)
  m_Pipe_put := He.meth_ok (c.fact 30 rfl)
  m_Pipe_take := He.meth_ok (c.fact 31 rfl)
  m_Pipe_left := He.meth_ok (c.fact 32 rfl)
  m_Pipe_held := He.meth_ok (c.fact 33 rfl)
  m_Pipe_len := He.meth_ok (c.fact 34 rfl)
  a_Pipe_room := He.noat_ok (c.fact 35 rfl)
  a_Pipe_some := He.noat_ok (c.fact 36 rfl)
theorem txt_of {K : PySem.W.Frag} {h : Heap} {mg : Str → Option Value} (X : K.In h) (G : h.Ns mainGlobals mg) (c : He.SaysD fa fn K) : Txt K mg where
  toTxK := txk_of c
  d_is_whole := c.def_ 0 rfl
  g_is_whole := He.glo_ok X G (c.fact 0 rfl)
  d_look_number := c.def_ 1 rfl
  g_look_number := He.glo_ok X G (c.fact 1 rfl)
  d_look_bytes := c.def_ 2 rfl
  g_look_bytes := He.glo_ok X G (c.fact 2 rfl)
  d_Pipe_init := c.def_ 3 rfl
  d_Pipe_put := c.def_ 4 rfl
  d_Pipe_take := c.def_ 5 rfl
  d_Pipe_left := c.def_ 6 rfl
  d_Pipe_held := c.def_ 7 rfl
  d_Pipe_len := c.def_ 8 rfl
  d_law_town := c.def_ 9 rfl
  g_law_town := He.glo_ok X G (c.fact 3 rfl)
  d_law_draw := c.def_ 10 rfl
  g_law_draw := He.glo_ok X G (c.fact 4 rfl)
  d_law_pick := c.def_ 11 rfl
  g_law_pick := He.glo_ok X G (c.fact 5 rfl)
  d_law_whole := c.def_ 12 rfl
  g_law_whole := He.glo_ok X G (c.fact 6 rfl)
  d_law_whole_list := c.def_ 13 rfl
  g_law_whole_list := He.glo_ok X G (c.fact 7 rfl)
  d_law_byte := c.def_ 14 rfl
  g_law_byte := He.glo_ok X G (c.fact 8 rfl)
  d_law_row := c.def_ 15 rfl
  g_law_row := He.glo_ok X G (c.fact 9 rfl)
  d_law := c.def_ 16 rfl
  k_MOST_ROOM := con_int (He.int_ok X G (c.fact 10 rfl))
  k_MOST_BYTES := con_int (He.int_ok X G (c.fact 11 rfl))
  f_len := He.free_ok X G (c.fact 12 rfl)
  f_min := He.free_ok X G (c.fact 13 rfl)
  f_list := He.free_ok X G (c.fact 14 rfl)
  f_isinstance := He.free_ok X G (c.fact 15 rfl)
  f_int := He.free_ok X G (c.fact 16 rfl)
  f_bool := He.free_ok X G (c.fact 17 rfl)
  f_all := He.free_ok X G (c.fact 18 rfl)
  f_range := He.free_ok X G (c.fact 19 rfl)
  f_ValueError := He.free_ok X G (c.fact 20 rfl)
  g_HouseError := He.glo_ok X G (c.fact 21 rfl)
  g_BadBytes := He.glo_ok X G (c.fact 23 rfl)
  g_BadNumber := He.glo_ok X G (c.fact 25 rfl)
  g_Pipe := He.glo_ok X G (c.fact 27 rfl)
abbrev R : PySem.W.OpenRow := PySem.W.OpenLaw.row PySem.Challenge.rw_pipehouse_k01_whole_pipes
abbrev hk : PySem.W.Hook := He.hookD 5 fa fn
def ob (s : PySem.W.SharedT) : He.AlD := He.obsDG 5 fa fn (HandSHeadRun.getT s)
theorem ob_eq (s : PySem.W.SharedT) : ob s = hk.obs s.abs := He.obsDG_eq (HandSHeadRun.getT_eq s)
set_option maxHeartbeats 0 in
theorem run (w : World) : HandSHeadRun.RunEq R (PySem.W.view R.prog [19]) hk ob 13000 names w := by
  intro os
  kernel_rfl
theorem facts {P : Program} {w : World} {K : PySem.W.Frag} {h : Heap} {mg : Str → Option Value} {f : Addr} (X : K.In h) (G : h.Ns mainGlobals mg) (hfa : mg ("law" : Str) = some (.ref f)) (c : He.SaysD fa fn K) :
    ∃ fd : FuncData, (∀ (s : Shared) (v : Value), BindsTo s fd ⟨[v], []⟩ [("script", v)]) ∧ ∀ base : Heap, K.In base → base.Ns mainGlobals mg → FnOk P w K mg base CX0 5 f fd ["script"] (sp_law K) := by
  have T := txt_of X G c
  obtain ⟨fd, F⟩ := T.d_law
  have e := hfa.symm.trans (He.glo_ok X G (c.fact 37 (f := .glo "law") rfl))
  cases e
  have b := FunD.bindsA (ps := ["script"]) F fun _ _ _ _ _ _ us hl => match us, hl with | [_], _ => rfl
  refine ⟨fd, fun s v => b s [v] rfl, fun base _ _ => ?_⟩
  have sc := sc_law
  exact fn_calm (law_at T F) fun vs H Q E h => h
end Ph
open PySem PySem.W PySem.Calls PyProof.Rows in
set_option maxRecDepth 100000 in
set_option maxHeartbeats 0 in
theorem PySem.Challenge.cw_pipehouse_k01_whole_pipes_holds : PySem.Challenge.rw_pipehouse_k01_whole_pipes.Holds := by
  w_on; o_law
  refine HandSHeadRun.head_any (r := OpenLaw.row PySem.Challenge.rw_pipehouse_k01_whole_pipes) (q := view (OpenLaw.row PySem.Challenge.rw_pipehouse_k01_whole_pipes).prog [19]) (H := Ph.hk) (ob := Ph.ob) (M := 13000) (loose := Ph.names) (d := HandSHeadRun.topDef (OpenLaw.row PySem.Challenge.rw_pipehouse_k01_whole_pipes).prog 19) (kwd := []) Ph.ob_eq
    (by kernel_rfl) (fun s => by kernel_rfl) Ph.run (by kernel_rfl) (by kernel_rfl) (by kernel_rfl) (by rfl) (by first | assumption | decide +kernel) (by decide +kernel) ⟨rfl, rfl, rfl, rfl, rfl, by decide +kernel⟩ ?hw ?hc
  case hw => w_witness2
  case hc =>
    refine L2.walk_ofE (l := PySem.Challenge.rw_pipehouse_k01_whole_pipes) (n := 63) (k := 5) (x := "script") (CX := L2.CX0) rfl (by decide) (by kernel_rfl) ⟨rfl, by decide, by decide⟩ ?F (fun _ _ _ _ z => z)
    intro w mg fa h Y G hmg0
    obtain ⟨K, KX, c⟩ := Y
    have hmg : mg ("law" : PySem.Str) = some (.ref fa) := by
      have e : (HandSHeadRun.topDef (OpenLaw.row PySem.Challenge.rw_pipehouse_k01_whole_pipes).prog 19).name = ("law" : PySem.Str) := by kernel_rfl
      rw [← e]
      exact hmg0
    obtain ⟨fd, hb, hF⟩ := Ph.facts (P := (PySem.Challenge.rw_pipehouse_k01_whole_pipes).prog) (w := w) KX G hmg c
    exact ⟨K, fd, Ph.sp_law K, KX, hb, fun H a ns hl _ hS => ⟨_, rfl, a, ns, rfl, hS, hl, fun _ => rfl⟩, hF⟩
