import PyProof.Rows.All
import Wide.All
import OpenK.AllK
import Wide.FinOn
import HandS.ForMost
import HandS.ForExc
import HandS.ExcInit
import HandS.TryMany
import HandS.ExcField
import HandS.IsInst
import HandS.Property
import HandS.Wide
import HandS.Defaults
import HandS.Conv
import HandS.HeadHook1
import HandS.HeadHook2
import HandS.HeadNt
import HandS.HeadEnd
import HandS.Head0
import HandS.Head1
import HandS.Head2
import KE.KDictDisplayH
import HandS.Walk
import HandS.Style
import HandS.More
import HandS.SlotsOwn
import PySem.Challenge.RW_albumforms_k01_ways_refused
set_option Elab.async false
set_option linter.all false
set_option maxRecDepth 100000
set_option maxHeartbeats 4000000
/-! PART base: facts of the written part by one hook, calls by name. -/
namespace Ab
open PySem PySem.Spec PyProof.Rows L2

/-! ### the hook: facts as Bools, defs as data -/
abbrev Fr0 := PySem.W.Frag
abbrev Fact := Fr0 → Bool
def saysB (fs : List Fact) (fn : List He5.DefA) (K : Fr0) : He.AlD :=
  (fs.all (fun f => f K) && fn.all (fun d => d.ok K), fn.map (fun d => He5.fnA K (d.at_ K)))
def valB (fn : List He5.DefA) : He.AlD := (true, fn.map He5.DefA.val)
def SaysB (fs : List Fact) (fn : List He5.DefA) (K : Fr0) : Prop := saysB fs fn K = valB fn
def lookB (n : Nat) (fs : List Fact) (fn : List He5.DefA) (g : Addr → Option Obj) : He.AlD := saysB fs fn (He.frG g (He5.asA g n))
def hookB (n : Nat) (fs : List Fact) (fn : List He5.DefA) : PySem.W.Hook where
  α := He.AlD
  obs := fun s => lookB n fs fn s.heap.get?
  val := fun _ => valB fn
  says := fun _ h => ∃ K : Fr0, K.In h ∧ SaysB fs fn K
  of := fun _ _ e => ⟨_, He.frG_in, e⟩
  keeps := fun _ _ _ ⟨K, hK, c⟩ k => ⟨K, PySem.W.Frag.In.keeps hK k, c⟩
theorem lookB_hook {n : Nat} {fs : List Fact} {fn : List He5.DefA} {g : Addr → Option Obj} {s : Shared} (h : ∀ a, g a = s.heap.get? a) :
    lookB n fs fn g = (hookB n fs fn).obs s := by
  obtain rfl : g = s.heap.get? := funext h
  rfl
theorem SaysB.fact {fs : List Fact} {fn : List He5.DefA} {K : Fr0} (c : SaysB fs fn K) (i : Nat) {f : Fact} (h : fs[i]? = some f := by rfl) : f K = true := by
  have a : (fs.all (fun f => f K) && fn.all (fun d => d.ok K)) = true := congrArg Prod.fst c
  rw [Bool.and_eq_true] at a
  exact List.all_eq_true.mp a.1 f (List.mem_of_getElem? h)
theorem SaysB.dfn {fs : List Fact} {fn : List He5.DefA} {K : Fr0} (c : SaysB fs fn K) (i : Nat) {d : He5.DefA} (h : fn[i]? = some d := by rfl) :
    ∃ fd, FunD K d.name d.qual d.params d.body d.scope (d.dvs K) (d.kws K) (d.at_ K) fd := by
  have a : (fs.all (fun f => f K) && fn.all (fun d => d.ok K)) = true := congrArg Prod.fst c
  have b : fn.map (fun d => He5.fnA K (d.at_ K)) = fn.map He5.DefA.val := congrArg Prod.snd c
  rw [Bool.and_eq_true] at a
  have b2 := congrArg (fun l => l[i]?) b
  simp only [List.getElem?_map, h, Option.map_some] at b2
  exact He5.DefA.funD (Option.some.inj b2) (List.all_eq_true.mp a.2 d (List.mem_of_getElem? h))

/-! ### a global def, by its name -/
abbrev fA (K : Fr0) (x : Str) : Addr := He.ga K x
abbrev mA (K : Fr0) (C m : Str) : Addr := He.ma K (He.ga K C) m
/-- the def x of the top, whose text is st -/
structure Top (K : Fr0) (mg : Str → Option Value) (x : Str) (st : Stmt) : Prop where
  fn : ∃ fd, FunD K x x (defArgs st) (defBody st) (defScope st) [] [] (fA K x) fd
  gl : mg x = some (.ref (fA K x))
/-- the def x is there and keeps sp -/
structure Ok (P : Program) (w : World) (K : Fr0) (mg : Str → Option Value) (base : Heap) (CX : CXT) (k : Nat) (x : Str) (ps : List Str) (sp : Sp) : Prop where
  fn : ∃ fd, FnOk P w K mg base CX k (fA K x) fd ps sp ∧ Binds K fd ps [] ∧ ∃ oc od osl, K.lookup (fA K x) = some ⟨oc, od, .func fd, osl⟩
  gl : mg x = some (.ref (fA K x))
  kp : PySem.W.keepIn K (.ref (fA K x)) = true
/-- how a def without defaults binds -/
def BindsAs (st : Stmt) (x q : Str) (ps : List Str) : Prop := ∀ (kV doc pm : Value) (an : Option Addr) (cdv ct : Value) (us : List Value), us.length = ps.length →
  bindArgs (PySem.W.fnOf x q (defArgs st) (defBody st) (defScope st) .none kV doc pm an cdv ct) ⟨us, []⟩ = pure (ps.zip us)
section
variable {P : Program} {w : World} {K : Fr0} {mg : Str → Option Value} {base : Heap} {CX : CXT} {x : Str} {st : Stmt} {N ps : List Str} {k : Nat} {sp : Sp}
theorem Top.ok (D : Top K mg x st) (S : FnScope N ps (defScope st)) (b : BindsAs st x x ps) (len : ∀ vs H Q E, sp vs H Q E → vs.length = ps.length)
    (body : ∀ (cdv : Value) (A : Around) (outer : List Env) (s : Shared) (H : Hp) (vs : List V) (Q : VK) (E : XK), Room k (A.deeper (envOfC x (defScope st) s.heap.objs.size (fA K x) cdv)) → sp vs H Q E →
      ∃ t, PSs (cxOf CX P w K mg base N x (defScope st) (fA K x) cdv A outer s H E) (defBody st) t ∧ t { nx := fun _ H' => Q .non H', rt := Q } (start N vs) H) :
    Ok P w K mg base CX (k + 1) x ps sp := by
  obtain ⟨fd, F⟩ := D.fn
  refine ⟨⟨fd, F.ok S len body, F.bindsN b, ?_⟩, D.gl, F.kp⟩
  obtain ⟨oc, od, _, _, _, _, _, _, _, osl, _, e, _⟩ := F.ex
  exact ⟨oc, od, osl, e⟩
/-- at the def's own record -/
theorem fn_of_ok {q : Str} {pa : Arguments} {bo : List Stmt} {sc : Scope} {dv : List V} {kw : List (Str × V)} {fd : FuncData} (G : Ok P w K mg base CX k x ps sp) (F : FunD K x q pa bo sc dv kw (fA K x) fd) : FnOk P w K mg base CX k (fA K x) fd ps sp := by
  obtain ⟨fd', F', _, oc, od, osl, e⟩ := G.fn
  obtain ⟨oc2, od2, _, _, _, _, _, _, _, osl2, _, e2, _⟩ := F.ex
  rw [e] at e2
  have z := Option.some.inj e2
  injection z with z1 z2 z3
  injection z3 with z3
  subst z3
  exact F'
theorem Ok.imp {sp' : Sp} (G : Ok P w K mg base CX k x ps sp) (h : ∀ vs H Q E, sp' vs H Q E → sp vs H Q E) : Ok P w K mg base CX k x ps sp' := by
  obtain ⟨fd, F, b⟩ := G.fn
  exact ⟨⟨fd, F.imp h, b⟩, G.gl, G.kp⟩
end
section
variable {X : Cx} {CX : CXT} {k : Nat} {x : Str} {ps : List Str} {sp : Sp} {E : XK} {p pos : Pos} {e : Expr} {es : List Expr} {t : TA}
/-- x(e, ..) -/
theorem pe_f (G : Ok X.prog X.w X.K X.mg X.base CX k x ps sp) (hr : Room k X.A) (hx : Passes CX X E) (ha : PA X (e :: es) t) (hg : Gl X x := by rfl)
    (hdb : (x == ("__debug__" : Str)) = false := by decide) (he : starEach (e :: es) X.env = (false, eval e X.env) :: starEach es X.env := by rfl) (hpl : (backTo pos (starEach es X.env)).any (·.1) = false := by rfl) :
    PE X (.Call (.Name x p) (e :: es) [] pos) (tCall sp [] E t) := by
  obtain ⟨fd, F, b, _⟩ := G.fn
  exact pe_call F hr hg G.gl G.kp b .nil hx ha hdb he hpl
/-- x() -/
theorem pe_f0 (G : Ok X.prog X.w X.K X.mg X.base CX k x ps sp) (hr : Room k X.A) (hx : Passes CX X E) (hg : Gl X x := by rfl)
    (hdb : (x == ("__debug__" : Str)) = false := by decide) : PE X (.Call (.Name x p) [] [] pos) (tCall sp [] E tNil) := by
  obtain ⟨fd, F, b, _⟩ := G.fn
  exact pe_call0 F hr hg G.gl G.kp b .nil hx hdb
/-- x(e, ..), what it lets out goes on, or is caught -/
theorem pe_fS {W : WX} (G : Ok X.prog X.w X.K X.mg X.base (L2.CX X.prog X.w) k x ps sp) (hr : Room k X.A) (tk : Takes X W) (ha : PA X (e :: es) t) (hg : Gl X x := by rfl)
    (hdb : (x == ("__debug__" : Str)) = false := by decide) (he : starEach (e :: es) X.env = (false, eval e X.env) :: starEach es X.env := by rfl) (hpl : (backTo pos (starEach es X.env)).any (·.1) = false := by rfl) :
    PE X (.Call (.Name x p) (e :: es) [] pos) (tCallS sp (WE W) t) := by
  obtain ⟨fd, F, b, _⟩ := G.fn
  exact pe_callS F hr hg G.gl G.kp b (fun σ => passAt tk σ) ha hdb he hpl
end
end Ab
/-! PART reads: what is kept, data at any depth, the readings step by step. -/
namespace Ab
open PySem PySem.Spec PyProof.Rows L2

/-! ### what is kept -/
theorem same_new {H : Hp} {p : Addr} {o : HO} (n : H p = none) : Same H (upd H p o) := fun b u e => by rw [upd_ne (ne_of_none e n)]; exact e
theorem same_add {H H' : Hp} {p : Addr} {o : HO} (s : Same H H') (n : H' p = none) : Same H (upd H' p o) := s.trans (same_new n)
/-- all but the list at r is kept -/
structure Chg (r : Addr) (H H' : Hp) : Prop where
  was : ∃ l, H r = some (.lst l)
  kp : ∀ b o, b ≠ r → H b = some o → H' b = some o
theorem Chg.upd {r : Addr} {H : Hp} {l : List V} {o : HO} (h : H r = some (.lst l)) : Chg r H (upd H r o) := ⟨⟨l, h⟩, fun b u n e => by rw [upd_ne n]; exact e⟩
theorem Chg.at {r a : Addr} {H H' : Hp} {o : HO} (c : Chg r H H') (e : H a = some o) (n : ∀ l, o ≠ .lst l) : H' a = some o := by
  obtain ⟨l, hl⟩ := c.was
  refine c.kp a o (fun z => ?_) e
  subst z
  rw [hl] at e
  exact n l (Option.some.inj e).symm
theorem Chg.ne {r a : Addr} {H H' : Hp} {o : HO} (c : Chg r H H') (e : H a = some o) (n : ∀ l, o ≠ .lst l) : a ≠ r := by
  obtain ⟨l, hl⟩ := c.was
  intro z
  subst z
  rw [hl] at e
  exact n l (Option.some.inj e).symm
theorem rd_same {H H' : Hp} {a : Addr} {u : HO} (s : Same H H') (h : Rd H a u) : Rd H' a u := by
  rcases h with h | ⟨o, h⟩
  · exact .inl (s _ _ h)
  · exact .inr ⟨o, s _ _ h⟩
theorem sql_same {K : Fr0} {H H' : Hp} {a : Addr} {xs : List V} (s : Same H H') (h : SqL K H a xs) : SqL K H' a xs := s.seq h
theorem sqt_same {K : Fr0} {H H' : Hp} {a : Addr} {xs : List V} (s : Same H H') (h : SqT K H a xs) : SqT K H' a xs := by
  rcases h with h | h
  · exact .inl (rd_same s h)
  · exact .inr h
theorem sqt_chg {K : Fr0} {H H' : Hp} {r a : Addr} {xs : List V} (c : Chg r H H') (h : SqT K H a xs) : SqT K H' a xs := by
  rcases h with (h | ⟨o, h⟩) | h
  · exact .inl (.inl (c.at h fun _ z => nomatch z))
  · exact .inl (.inr ⟨o, c.at h fun _ z => nomatch z⟩)
  · exact .inr h
theorem sql_chg {K : Fr0} {H H' : Hp} {r a : Addr} {xs : List V} (c : Chg r H H') (n : a ≠ r) (h : SqL K H a xs) : SqL K H' a xs := by
  rcases h with (h | ⟨o, h⟩) | h
  · exact .inl (.inl (c.kp _ _ n h))
  · exact .inl (.inr ⟨o, c.at h fun _ z => nomatch z⟩)
  · exact .inr h

/-! ### data -/
mutual
theorem dp_same {K : Fr0} {H H' : Hp} (s : Same H H') : ∀ {d : PyData} {v : V}, Dp K H v d → Dp K H' v d
  | .none, _, h => by cases h; exact .non
  | .bool b, _, h => by cases h; exact .bl b
  | .int i, _, h => by cases h; exact .int i
  | .str x, _, h => by cases h; exact .str x
  | .list ds, _, h => by
    cases h with
    | lst h1 h2 => exact .lst (sql_same s h1) (dpA_same s h2)
  | .tuple ds, _, h => by
    cases h with
    | tup h1 h2 => exact .tup (sqt_same s h1) (dpA_same s h2)
  | .dict _, _, h => by cases h
theorem dpA_same {K : Fr0} {H H' : Hp} (s : Same H H') : ∀ {ds : List PyData} {vs : List V}, DpAll K H vs ds → DpAll K H' vs ds
  | [], _, h => by cases h; exact .nil
  | d :: ds, _, h => by
    cases h with
    | cons h1 h2 => exact .cons (dp_same s h1) (dpA_same s h2)
end
/-- no lists within -/
def nol : PyData → Bool
  | .list _ => false
  | .tuple [] => true
  | .tuple (d :: ds) => nol d && nol (.tuple ds)
  | _ => true
theorem dp_chg {K : Fr0} {H H' : Hp} {r : Addr} (c : Chg r H H') : ∀ {d : PyData} {v : V}, nol d = true → Dp K H v d → Dp K H' v d := by
  have all : ∀ (n : Nat), (∀ {d : PyData} {v : V}, sizeOf d ≤ n → nol d = true → Dp K H v d → Dp K H' v d) ∧ (∀ {ds : List PyData} {vs : List V}, sizeOf ds ≤ n → nol (.tuple ds) = true → DpAll K H vs ds → DpAll K H' vs ds) := by
    intro n
    induction n with
    | zero =>
      refine ⟨fun {d v} hz => ?_, fun {ds vs} hz => ?_⟩
      · exfalso; cases d <;> simp at hz
      · exfalso; cases ds <;> simp at hz
    | succ n ih =>
      refine ⟨fun {d v} hz hn h => ?_, fun {ds vs} hz hn h => ?_⟩
      · cases h with
        | non => exact .non
        | bl b => exact .bl b
        | int i => exact .int i
        | str x => exact .str x
        | lst h1 h2 => exact absurd hn (by rw [nol]; decide)
        | tup h1 h2 => exact .tup (sqt_chg c h1) (ih.2 (by simp at hz; omega) hn h2)
      · cases h with
        | nil => exact .nil
        | cons h1 h2 =>
          rw [nol, Bool.and_eq_true] at hn
          refine .cons (ih.1 ?_ hn.1 h1) (ih.2 ?_ hn.2 h2)
          · simp at hz; omega
          · simp at hz; omega
  intro d v hn h
  exact (all (sizeOf d)).1 (Nat.le_refl _) hn h
theorem dp_tup {K : Fr0} {H : Hp} {v : V} {ds : List PyData} (h : Dp K H v (.tuple ds)) : ∃ a xs, v = .ref a ∧ SqT K H a xs ∧ DpAll K H xs ds := by
  cases h with
  | tup h1 h2 => exact ⟨_, _, rfl, h1, h2⟩
theorem dp_lst {K : Fr0} {H : Hp} {v : V} {ds : List PyData} (h : Dp K H v (.list ds)) : ∃ a xs, v = .ref a ∧ SqL K H a xs ∧ DpAll K H xs ds := by
  cases h with
  | lst h1 h2 => exact ⟨_, _, rfl, h1, h2⟩
theorem dpA_len {K : Fr0} {H : Hp} : ∀ {ds : List PyData} {vs : List V}, DpAll K H vs ds → vs.length = ds.length
  | [], _, h => by cases h; rfl
  | d :: ds, _, h => by
    cases h with
    | cons h1 h2 => exact congrArg Nat.succ (dpA_len h2)
theorem dpA_get {K : Fr0} {H : Hp} : ∀ {ds : List PyData} {vs : List V} {i : Nat} {d : PyData}, DpAll K H vs ds → ds[i]? = some d → ∃ v, vs[i]? = some v ∧ Dp K H v d
  | [], _, _, _, _, e => by simp at e
  | d :: ds, _, 0, _, h, e => by
    cases h with
    | cons h1 h2 =>
      simp at e
      subst e
      exact ⟨_, rfl, h1⟩
  | d :: ds, _, i + 1, _, h, e => by
    cases h with
    | cons h1 h2 =>
      obtain ⟨v, e1, e2⟩ := dpA_get (i := i) h2 (by simpa using e)
      exact ⟨v, by simpa using e1, e2⟩
theorem dpA_at {K : Fr0} {H : Hp} {ds : List PyData} {vs : List V} {i : Int} {d : PyData} (h : DpAll K H vs ds) (e : atI ds i = some d) : ∃ v, atI vs i = some v ∧ Dp K H v d := by
  unfold atI at e ⊢
  rw [dpA_len h]
  cases q : ixN ds.length i with
  | none => rw [q] at e; exact nomatch e
  | some j =>
    rw [q] at e
    exact dpA_get h e
theorem dpA_app {K : Fr0} {H : Hp} {v : V} {d : PyData} (h2 : Dp K H v d) : ∀ {ds : List PyData} {vs : List V}, DpAll K H vs ds → DpAll K H (vs ++ [v]) (ds ++ [d])
  | [], _, h => by cases h; exact .cons h2 .nil
  | _ :: ds, _, h => by
    cases h with
    | cons a b => exact .cons a (dpA_app h2 b)
theorem dpA_ints {K : Fr0} {H : Hp} : ∀ ns : List Int, DpAll K H (ns.map V.int) (ns.map PyData.int)
  | [] => .nil
  | n :: ns => .cons (.int n) (dpA_ints ns)
abbrev pr (a b : Int) : PyData := .tuple [.int a, .int b]
theorem dp_pr {K : Fr0} {H : Hp} {p : Addr} {a b : Int} (h : SqT K H p [.int a, .int b]) : Dp K H (.ref p) (pr a b) := .tup h (.cons (.int a) (.cons (.int b) .nil))

/-! ### readings, step by step -/
section
variable {K : Fr0} {σ σ' : L2.St} {H : Hp} {D : Ends} {t u : TS} {te ta tb tc : TE} {tt uu : TT} {Q : VK} {QT : Bool → Hp → Prop} {QA : List V → Hp → Prop} {v x y : V} {i j : Int} {n : Nat} {r r' : R2} {tr : TA}
theorem r_seq (h : t ⟨fun σ' H' => u D σ' H', D.rt, D.bk, D.ct⟩ σ H) : tSeq t u D σ H := h
theorem r_next (h : D.nx σ H) : tNext D σ H := h
theorem r_brk (h : D.bk σ H) : tBreak D σ H := h
theorem r_cont (h : D.ct σ H) : tCont D σ H := h
theorem r_ret (h : te σ H D.rt) : tRet te D σ H := h
theorem r_retN (h : D.rt .non H) : tRetN D σ H := h
theorem r_drop (h : te σ H fun _ H1 => D.nx σ H1) : tDrop te D σ H := h
theorem r_asg {g : TG} (h : te σ H fun x H1 => g x σ H1 D.nx) : tAsg te g D σ H := h
theorem r_name {QS : L2.St → Hp → Prop} (h : QS (σ.set n (some v)) H) : gName n v σ H QS := h
theorem r_pairS {P : L2.St → Hp → Prop} {k : Nat} (h : P ((σ.set n (some x)).set k (some y)) H) :
    ∃ v w, [x, y] = [v, w] ∧ P ((σ.set n (some v)).set k (some w)) H := ⟨x, y, rfl, h⟩
theorem r_par {k : Nat} (h : tr σ H fun vs H1 => ∃ v w, vs = [v, w] ∧ D.nx ((σ.set n (some v)).set k (some w)) H1) : tPar n k tr D σ H := h
theorem r_ifS (h : tt σ H fun b H1 => if b = true then t D σ H1 else u D σ H1) : tIfS tt t u D σ H := h
theorem r_var (e : σ[n]? = some (some v)) (h : Q v H) : tVar n σ H Q := ⟨v, e, h⟩
theorem r_c (h : Q v H) : tC v σ H Q := h
theorem r_op (h : ta σ H fun x H1 => tb σ H1 fun y H2 => r x y H2 Q) : tOp r ta tb σ H Q := h
theorem r_un {f : V → Hp → VK → Prop} (h : ta σ H fun x H1 => f x H1 Q) : tUn f ta σ H Q := h
theorem r_i0 {g : Int → Int → V} (h : Q (g i j) H) : rI0 g (.int i) (.int j) H Q := ⟨i, j, rfl, rfl, h⟩
theorem r_i {C : Int → Int → Prop} {g : Int → Int → V} (c : C i j) (h : Q (g i j) H) : rI C g (.int i) (.int j) H Q := ⟨i, j, rfl, rfl, c, h⟩
theorem r_u {g : Int → V} (h : Q (g i) H) : rU g (.int i) H Q := ⟨i, rfl, h⟩
theorem r_test (h : te σ H fun x H' => ∃ k, x = .bl k ∧ QT k H') : tTest te σ H QT := h
theorem r_B (h : te σ H fun x H' => ∃ k, x = .bl k ∧ QT k H') : tB te σ H QT := h
theorem r_bl {b : Bool} (h : QT b H) : ∃ k, V.bl b = .bl k ∧ QT k H := ⟨b, rfl, h⟩
theorem r_not (h : tt σ H fun c H1 => QT (!c) H1) : tNot tt σ H QT := h
theorem r_and (h : tt σ H fun c H1 => if c = true then uu σ H1 QT else QT false H1) : tAnd tt uu σ H QT := h
theorem r_or (h : tt σ H fun c H1 => if c = true then QT true H1 else uu σ H1 QT) : tOr tt uu σ H QT := h
theorem r_andV (h : ta σ H fun x H1 => ∃ c, x = .bl c ∧ if c = true then tb σ H1 Q else Q (.bl false) H1) : tAndV ta tb σ H Q := h
theorem r_orV (h : ta σ H fun x H1 => ∃ c, x = .bl c ∧ if c = true then Q (.bl true) H1 else tb σ H1 Q) : tOrV ta tb σ H Q := h
theorem r_notV (h : ta σ H fun x H1 => ∃ c, x = .bl c ∧ Q (.bl (!c)) H1) : tNotV ta σ H Q := h
theorem r_if (h : tt σ H fun c H1 => if c = true then ta σ H1 Q else tb σ H1 Q) : tIf tt ta tb σ H Q := h
theorem r_chain (h : ta σ H fun x H1 => tb σ H1 fun y H2 => r x y H2 fun z H3 => ∃ k, z = .bl k ∧ (if k = true then tc σ H3 fun w' H4 => r' y w' H4 Q else Q (.bl false) H3)) : tChain r r' ta tb tc σ H Q := h
theorem r_nil (h : QA [] H) : tNil σ H QA := h
theorem r_cons (h : ta σ H fun x H1 => tr σ H1 fun xs H2 => QA (x :: xs) H2) : tCons ta tr σ H QA := h
theorem r_tup (h : tr σ H fun xs H1 => xs.length ≤ sizeLine ∧ ∀ p, H1 p = none → Q (.ref p) (upd H1 p (.tup xs))) : tTup tr σ H Q := h
theorem r_lst (h : tr σ H fun xs H1 => xs.length ≤ sizeLine ∧ ∀ p, H1 p = none → Q (.ref p) (upd H1 p (.lst xs))) : tLst tr σ H Q := h
theorem r_cb {f : List V → Hp → VK → Prop} (h : tr σ H fun vs H1 => f vs H1 Q) : tCB f tr σ H Q := h
theorem r_call {sp : Sp} {dvs : List V} {E : XK} (h : tr σ H fun vs H1 => sp (vs ++ dvs) H1 Q E) : tCall sp dvs E tr σ H Q := h
theorem r_callS {sp : Sp} {E : L2.St → XK} (h : tr σ H fun vs H1 => sp vs H1 Q (E σ)) : tCallS sp E tr σ H Q := h
theorem r_bm {T : String} {f : V → List V → Hp → VK → Prop} (h : te σ H fun x H1 => tyV K T x H1 ∧ tr σ H1 fun xs H2 => f x xs H2 Q) : tBM K T f te tr σ H Q := h
theorem r_bm0 {T : String} {f : V → List V → Hp → VK → Prop} (h : te σ H fun x H1 => tyV K T x H1 ∧ f x [] H1 Q) : tBM0 K T f te σ H Q := h
theorem r_for {wi : TI} {g : TG} {tb : TS} (h : wi σ H fun J H1 => ∃ W : Nat → Nat → L2.St → Hp → Prop, (∃ m, W 0 m σ H1) ∧ ∀ i m σ H, W i m σ H →
  (J.stop i H ∧ D.nx σ H) ∨ (J.go i H ∧ ∃ N : L2.St → Hp → Prop, (∀ σ' H', N σ' H' → ∃ m', m' < m ∧ W (i + 1) m' σ' H') ∧ ∀ x H', J.yld i H x H' → g x σ H' fun σ2 H2 => tb { D with nx := N, ct := N, bk := D.nx } σ2 H2)) : tFor wi g tb D σ H := h
/-- a while, its test monotone -/
theorem r_while {c : TT} {tb : TS} (W : Nat → L2.St → Hp → Prop) (m : Nat) (h0 : W m σ H) (mono : ∀ σ H (q q' : Bool → Hp → Prop), (∀ b H1, q b H1 → q' b H1) → c σ H q → c σ H q')
    (hs : ∀ m σ H, W m σ H → c σ H fun b H1 => if b = true then tb ⟨fun σ' H' => ∃ m', m' < m ∧ W m' σ' H', D.rt, D.nx, fun σ' H' => ∃ m', m' < m ∧ W m' σ' H'⟩ σ H1 else D.nx σ H1) : tWhile c tb D σ H := by
  refine ⟨W, ⟨m, h0⟩, fun m σ H w => mono σ H _ _ (fun b H1 q => ?_) (hs m σ H w)⟩
  cases b with
  | true => exact ⟨_, fun _ _ n => n, q⟩
  | false => exact q
theorem r_slice {f : V → Option Int → Option Int → Hp → VK → Prop} {tl th : TO} (h : te σ H fun x H1 => tl σ H1 fun l H2 => th σ H2 fun u H3 => f x l u H3 Q) : tSl f te tl th σ H Q := h
theorem r_part {QO : Option Int → Hp → Prop} (h : te σ H fun x H1 => ∃ i, x = .int i ∧ QO (some i) H1) : tPart te σ H QO := h
theorem r_nopart {QO : Option Int → Hp → Prop} (h : QO none H) : tNoPart σ H QO := h
theorem r_vei (h : tr σ H fun vs H1 => ∃ (a C : Addr) (ws : List V), vs = .ref a :: ws ∧ ws.length ≤ 1000 ∧ OexC K C ∧ H1 a = some (exo a C none) ∧ Q .non H1) : tVeI K tr σ H Q := h
theorem r_ost {f : Str} (h : tb σ H fun y H1 => ta σ H1 fun x H2 => ∃ a C : Addr, x = .ref a ∧ OexC K C ∧ PySem.W.findIn K (.ref C) f = some none ∧
  ((H2 a = some (exo a C none) ∧ ∀ dx, H2 dx = none → dx ≠ a → D.nx σ (upd (upd H2 dx (exd dx [(f, y)])) a (exo a C (some dx)))) ∨
    ∃ (dx : Addr) (fs : List (Str × V)), H2 a = some (exo a C (some dx)) ∧ H2 dx = some (exd dx fs) ∧ fs.length ≤ 900 ∧ D.nx σ (upd H2 dx (exd dx ((f, y) :: fs))))) : tOst K f ta tb D σ H := h
/-- an item of data -/
theorem r_ixD {d : PyData} {ds : List PyData} (h : Dp K H v (.tuple ds)) (e : atI ds i = some d) (k : ∀ w, Dp K H w d → Q w H) : rIxT K v (.int i) H Q := by
  obtain ⟨a, xs, rfl, h1, h2⟩ := dp_tup h
  obtain ⟨w, e1, e2⟩ := dpA_at h2 e
  exact ⟨a, xs, i, w, rfl, rfl, h1, e1, k w e2⟩
theorem r_ixI {ds : List PyData} (h : Dp K H v (.tuple ds)) (e : atI ds i = some (.int j)) (k : Q (.int j) H) : rIxT K v (.int i) H Q :=
  r_ixD h e fun w hw => by cases hw; exact k
theorem r_fst {a b : Int} (h : Dp K H v (pr a b)) (k : Q (.int a) H) : rIxT K v (.int 0) H Q := r_ixI h rfl k
theorem r_snd {a b : Int} (h : Dp K H v (pr a b)) (k : Q (.int b) H) : rIxT K v (.int 1) H Q := r_ixI h rfl k
theorem r_ixDL {d : PyData} {ds : List PyData} (h : Dp K H v (.list ds)) (e : atI ds i = some d) (k : ∀ w, Dp K H w d → Q w H) : rIxL K v (.int i) H Q := by
  obtain ⟨a, xs, rfl, h1, h2⟩ := dp_lst h
  obtain ⟨w, e1, e2⟩ := dpA_at h2 e
  exact ⟨a, xs, i, w, rfl, rfl, h1, e1, k w e2⟩
theorem r_ixIL {ds : List PyData} (h : Dp K H v (.list ds)) (e : atI ds i = some (.int j)) (k : Q (.int j) H) : rIxL K v (.int i) H Q :=
  r_ixDL h e fun w hw => by cases hw; exact k
theorem r_dec {p : Prop} [Decidable p] {A B : Prop} (h1 : p → A) (h2 : ¬ p → B) : if decide p = true then A else B := by
  by_cases h : p
  · rw [decide_eq_true h]; exact iteT (h1 h)
  · rw [decide_eq_false h]; exact iteF (h2 h)
theorem r_ndec {p : Prop} [Decidable p] {A B : Prop} (h1 : ¬ p → A) (h2 : p → B) : if (!decide p) = true then A else B := by
  by_cases h : p
  · rw [decide_eq_true h]; exact iteF (h2 h)
  · rw [decide_eq_false h]; exact iteT (h1 h)
end
end Ab
/-! PART errors: the program's own errors, made, let out, read. -/
namespace Ab
open PySem PySem.Spec PyProof.Rows L2

/-! ### what the written part says of an error's class -/
def oexB (K : Fr0) (C : Addr) : Bool :=
  (match K.lookup C with
    | some ⟨.type t, _, .cls cd, sl⟩ =>
      (match cd.mro, sl.toList with
        | .ref B :: bm, [_, _, _, _, some (.builtin n), _] => decide (t = "type") && (decide (B = C) && (decide (n = "ValueError.__new__") && (!cd.hasDel && (cd.hasDict && PySem.HandSPX.refsVE bm))))
        | _, _ => false)
    | _ => false) &&
  (He.eqO (PySem.W.findIn K (.ref C) "__setattr__") (some (some (.builtin "object.__setattr__"))) &&
    (decide (PySem.W.subIn K (.ref C) (.type "BaseException") = some true) && (decide (PySem.W.typeIn K (.ref C) = some (.type "type")) && PySem.W.keepIn K (.ref C))))
theorem oexB_ok {K : Fr0} {C : Addr} (h : oexB K C = true) : OexC K C := by
  unfold oexB at h
  obtain ⟨h1, h⟩ := He.ba h
  obtain ⟨h2, h⟩ := He.ba h
  obtain ⟨h3, h⟩ := He.ba h
  obtain ⟨h4, h5⟩ := He.ba h
  refine ⟨?_, He.eqO_ok h2, of_decide_eq_true h3, of_decide_eq_true h4, h5⟩
  split at h1
  · rename_i t dd cd sl lk
    split at h1
    · rename_i B bm k0 k1 k2 k3 n k5 em es
      obtain ⟨a1, h1⟩ := He.ba h1
      obtain ⟨a2, h1⟩ := He.ba h1
      obtain ⟨a3, h1⟩ := He.ba h1
      obtain ⟨a4, h1⟩ := He.ba h1
      obtain ⟨a5, a6⟩ := He.ba h1
      obtain rfl := of_decide_eq_true a1
      obtain rfl := of_decide_eq_true a2
      obtain rfl := of_decide_eq_true a3
      obtain ⟨nm, bs, mro, ns, qn, hd, sn, sub, ab, col, del⟩ := cd
      dsimp only at em a4 a5
      subst em
      obtain rfl : del = false := by simpa using a4
      subst a5
      obtain ⟨sl⟩ := sl
      dsimp only at es
      subst es
      exact ⟨nm, qn, ns, bs, bm, sn, sub, ab, col, dd, k0, k1, k2, k3, k5, lk, a6⟩
    · cases h1
  · cases h1
/-- an error's class x with the fields fs and an __init__ of its own -/
structure ExcF (K : Fr0) (x : Str) (fs : List Str) : Prop where
  o : OexC K (fA K x)
  ini : PySem.W.findIn K (.ref (fA K x)) "__init__" = some (some (.ref (mA K x "__init__")))
  tin : PySem.W.typeIn K (.ref (mA K x "__init__")) = some (.type "function")
  rd : XfC K (fA K x)
  no : ∀ f ∈ fs, PySem.W.findIn K (.ref (fA K x)) f = some none
def excB (x : Str) (fs : List Str) (K : Fr0) : Bool := oexB K (fA K x) && (He.eqO (PySem.W.findIn K (.ref (fA K x)) "__init__") (some (some (.ref (mA K x "__init__")))) &&
  (decide (PySem.W.typeIn K (.ref (mA K x "__init__")) = some (.type "function")) && (xfB K (fA K x) && fs.all fun f => He.eqO (PySem.W.findIn K (.ref (fA K x)) f) (some none))))
theorem excB_ok {K : Fr0} {x : Str} {fs : List Str} (h : excB x fs K = true) : ExcF K x fs := by
  unfold excB at h
  obtain ⟨h1, h⟩ := He.ba h
  obtain ⟨h2, h⟩ := He.ba h
  obtain ⟨h3, h⟩ := He.ba h
  obtain ⟨h4, h5⟩ := He.ba h
  exact ⟨oexB_ok h1, He.eqO_ok h2, of_decide_eq_true h3, xfB_ok h4, fun f hf => He.eqO_ok (List.all_eq_true.mp h5 f hf)⟩
/-- the base of them all, read for its __init__ -/
structure BaseF (K : Fr0) (A : Addr) : Prop where
  rd : PySem.W.readsIn K A (.type "type") = true
  ga : PySem.W.specialIn K (.ref A) "__getattribute__" = some (some (.builtin "type.__getattribute__"))
  fi : PySem.W.findCls K (.ref A) (.type "type") "__init__" = some (.val (.builtin "ValueError.__init__"))
def isVI : Option PySem.W.CFound → Bool
  | some (.val (.builtin n)) => decide (n = "ValueError.__init__")
  | _ => false
def baseB (x : Str) (K : Fr0) : Bool := PySem.W.readsIn K (fA K x) (.type "type") && (He.eqO (PySem.W.specialIn K (.ref (fA K x)) "__getattribute__") (some (some (.builtin "type.__getattribute__"))) &&
  isVI (PySem.W.findCls K (.ref (fA K x)) (.type "type") "__init__"))
theorem baseB_ok {K : Fr0} {x : Str} (h : baseB x K = true) : BaseF K (fA K x) := by
  unfold baseB at h
  obtain ⟨h1, h⟩ := He.ba h
  obtain ⟨h2, h3⟩ := He.ba h
  refine ⟨h1, He.eqO_ok h2, ?_⟩
  unfold isVI at h3
  split at h3
  · rename_i n e
    rw [e, of_decide_eq_true h3]
  · cases h3
/-- a method of a class, as it stands behind the top -/
structure TopM (K : Fr0) (C m q : Str) (st : Stmt) : Prop where
  fn : ∃ fd, FunD K m q (defArgs st) (defBody st) (defScope st) [] [] (mA K C m) fd
structure OkM (P : Program) (w : World) (K : Fr0) (mg : Str → Option Value) (base : Heap) (CX : CXT) (k : Nat) (C m : Str) (ps : List Str) (sp : Sp) : Prop where
  fn : ∃ fd, FnOk P w K mg base CX k (mA K C m) fd ps sp ∧ Binds K fd ps []
section
variable {P : Program} {w : World} {K : Fr0} {mg : Str → Option Value} {base : Heap} {CX : CXT} {C m q : Str} {st : Stmt} {N ps : List Str} {k : Nat} {sp : Sp}
theorem TopM.ok (D : TopM K C m q st) (S : FnScope N ps (defScope st)) (b : BindsAs st m q ps) (len : ∀ vs H Q E, sp vs H Q E → vs.length = ps.length)
    (body : ∀ (cdv : Value) (A : Around) (outer : List Env) (s : Shared) (H : Hp) (vs : List V) (Q : VK) (E : XK), Room k (A.deeper (envOfC q (defScope st) s.heap.objs.size (mA K C m) cdv)) → sp vs H Q E →
      ∃ t, PSs (cxOf CX P w K mg base N q (defScope st) (mA K C m) cdv A outer s H E) (defBody st) t ∧ t { nx := fun _ H' => Q .non H', rt := Q } (start N vs) H) :
    OkM P w K mg base CX (k + 1) C m ps sp := by
  obtain ⟨fd, F⟩ := D.fn
  exact ⟨fd, F.ok S len body, F.bindsN b⟩
end
section
variable {X : Cx} {k : Nat} {CX : CXT} {x y : Str} {ps fs : List Str} {sp : Sp} {p p1 p2 pos : Pos} {e : Expr} {es : List Expr} {ta : TA} {A : Addr}
/-- Base.__init__(self, ..) -/
theorem pe_alb {pl : Sem Bool} (B : BaseF X.K A) (hm : X.mg x = some (.ref A)) (ha : PA X (e :: es) ta) (hg : Gl X x := by rfl) (hdb : (x == ("__debug__" : Str)) = false := by decide)
    (hc : eval (.Call (.Attribute (.Name x p1) "__init__" p2) (e :: es) [] pos) X.env = (do
      let ov ← eval (.Name x p1) X.env
      standAt p2.atName
      let (f, first) ← holding [ov] (getMethod ov "__init__" pl)
      callWith pos f first (backTo pos (starEach (e :: es) X.env)) (backToKw pos (keywordEach [] X.env))) := by rfl)
    (he : starEach (e :: es) X.env = (false, eval e X.env) :: starEach es X.env := by rfl) (hpl : (backTo pos (starEach es X.env)).any (·.1) = false := by rfl) :
    PE X (.Call (.Attribute (.Name x p1) "__init__" p2) (e :: es) [] pos) (tVeI X.K ta) := by
  constructor
  intro pins s σ H Q I h
  refine PySem.W.methodCall_KW (ld_glob I hg hm ?_ hdb) hc
  refine PySem.W.method_cls I.kIn B.ga (PySem.W.cls_value I.kIn B.rd B.fi rfl ?_)
  show wpAny _ _ (callWith pos (Value.builtin "ValueError.__init__") [] (backTo pos (starEach (e :: es) X.env)) []) _ _ _
  refine PyProof.Rows.callWith_method1 (thn (ha.run pos pins _ σ H _ (I.tok _) h) ?_) he hpl
  rintro us s1 ⟨vs, H1, I1, rv, a, C, ws, rfl, hl, T, ea, q⟩
  cases rv with
  | cons ra rw' =>
    cases ra
    have hz := Paired.length rw'
    refine oinit_ok T I1 ea (by rw [sizeLine_eq]; omega) fun s2 J => ⟨.non, H1, J, rfl, q⟩
/-- x(e, ..), an error with an __init__ of its own -/
theorem pmk_x (T : ExcF X.K x fs) (hm : X.mg x = some (.ref (fA X.K x))) (G : OkM X.prog X.w X.K X.mg X.base CX k x "__init__" ps sp) (hr : Room (k + 1) X.A) (hx : Passes CX X E0) (ha : PA X (e :: es) ta) (hg : Gl X x := by rfl)
    (hdb : (x == ("__debug__" : Str)) = false := by decide) (he : starEach (e :: es) X.env = (false, eval e X.env) :: starEach es X.env := by rfl) (hpl : (backTo pos (starEach es X.env)).any (·.1) = false := by rfl) :
    PMk X (.Call (.Name x p) (e :: es) [] pos) (tMkO (fA X.K x) sp [] ta) := by
  obtain ⟨fd, F, b⟩ := G.fn
  exact pmk_oex T.o T.ini T.tin F hr b .nil hx hg hm ha hdb he hpl
end
/-! ### the promise of such an __init__: one field, two -/
def spI1 (K : Fr0) (x f : Str) : Sp := fun vs H Q _ => ∃ (a : Addr) (y : V), vs = [.ref a, y] ∧ H a = some (exo a (fA K x) none) ∧
  ∀ dx, H dx = none → dx ≠ a → Q .non (upd (upd H dx (exd dx [(f, y)])) a (exo a (fA K x) (some dx)))
section
variable {K : Fr0} {x f : Str} {σ : L2.St} {H : Hp} {ta : TA} {W : WX} {D : Ends} {y : V}
/-- the heap behind the making of an error with one field -/
theorem mk1_heap {H H2 : Hp} {a d C : Addr} {y : V} (na : H a = none) (nd : H d = none) (ne : d ≠ a) (e : H2 = upd (upd (upd H a (exo a C none)) d (exd d [(f, y)])) a (exo a C (some d))) :
    Same H (upd (del H2 a) d (.xd [(f, y)])) ∧ (upd (del H2 a) d (.xd [(f, y)])) d = some (.xd [(f, y)]) := by
  subst e
  refine ⟨fun b o hb => ?_, upd_same⟩
  have hba := ne_of_none hb na
  have hbd := ne_of_none hb nd
  rw [upd_ne hbd, del_ne hba, upd_ne hba, upd_ne hbd, upd_ne hba]
  exact hb
theorem r_mk1 {C : Addr} (hC : C = fA K x) {Q : XK} {vs : List V} (h1 : vs = [y]) (h : ∀ d H', H d = none → Same H H' → H' d = some (.xd [(f, y)]) → Q (.ref C) (some d) H') :
    vs.length ≤ 1000 ∧ ∀ a, H a = none → spI1 K x f (.ref a :: (vs ++ [])) (upd H a (exo a C none))
      (fun v H2 => v = .non ∧ ∃ (d : Addr) (fs : List (Str × V)), H2 a = some (exo a C (some d)) ∧ H2 d = some (exd d fs) ∧ H d = none ∧ Q (.ref C) (some d) (upd (del H2 a) d (.xd fs))) (fun _ _ _ => False) := by
  subst h1 hC
  refine ⟨by show 1 ≤ 1000; decide, fun a na => ⟨a, y, rfl, upd_same, fun dx nd ne => ⟨rfl, dx, [(f, y)], upd_same, ?_, ?_, ?_⟩⟩⟩
  · rw [upd_ne ne, upd_same]
  · rw [upd_ne ne] at nd
    exact nd
  · rw [upd_ne ne] at nd
    obtain ⟨s, e⟩ := mk1_heap (C := fA K x) (f := f) (y := y) na nd ne rfl
    exact h dx _ nd s e
end
/-- a field of the error that was caught -/
theorem r_xf {C a dd : Addr} {te : TE} {Q : VK} {f : Str} {σ : L2.St} {H : Hp} (h : te σ H fun x H1 => x = .ref a ∧ ∃ (fs : List (Str × V)) (v : V), H1 dd = some (.xd fs) ∧ fs.lookup f = some v ∧ Q v H1) : tXf a (.ref C) (some dd) C f te σ H Q := by
  have e : (fun (x : V) (H1 : Hp) => x = V.ref a ∧ Value.ref C = Value.ref C ∧ ∃ (d : Addr) (fs : List (Str × V)) (v : V), some dd = some d ∧ H1 d = some (.xd fs) ∧ fs.lookup f = some v ∧ Q v H1) =
      fun (x : V) (H1 : Hp) => x = .ref a ∧ ∃ (fs : List (Str × V)) (v : V), H1 dd = some (.xd fs) ∧ fs.lookup f = some v ∧ Q v H1 := by
    funext x H1
    refine propext ⟨fun ⟨h1, _, d, fs, v, h2, h3⟩ => ?_, fun ⟨h1, fs, v, h3⟩ => ⟨h1, rfl, dd, fs, v, rfl, h3⟩⟩
    injection h2 with h2
    subst h2
    exact ⟨h1, fs, v, h3⟩
  show te σ H (fun (x : V) (H1 : Hp) => x = V.ref a ∧ Value.ref C = Value.ref C ∧ ∃ (d : Addr) (fs : List (Str × V)) (v : V), some dd = some d ∧ H1 d = some (.xd fs) ∧ fs.lookup f = some v ∧ Q v H1)
  rw [e]
  exact h
theorem look1 {f : Str} {v : V} {r : List (Str × V)} : ((f, v) :: r).lookup f = some v := by simp [List.lookup]
/-! ### constants of the top -/
theorem pe_gi {X : Cx} {x : Str} {i : Int} {pos : Pos} (h : ∃ t, X.mg x = some (.int i t)) (hg : Gl X x := by rfl) (hd : (x == ("__debug__" : Str)) = false := by decide) : PE X (.Name x pos) (tC (.int i)) := by
  obtain ⟨t, e⟩ := h
  exact pe_glob hg e ⟨t, rfl⟩ hd
theorem pe_gr {X : Cx} {x : Str} {a : Addr} {pos : Pos} (h : X.mg x = some (.ref a)) (hg : Gl X x := by rfl) (hd : (x == ("__debug__" : Str)) = false := by decide) : PE X (.Name x pos) (tC (.ref a)) := pe_glob hg h rfl hd
theorem pe_gs {X : Cx} {x z : Str} {pos : Pos} (h : ∃ t, X.mg x = some (.str z t)) (hg : Gl X x := by rfl) (hd : (x == ("__debug__" : Str)) = false := by decide) : PE X (.Name x pos) (tC (.str z)) := by
  obtain ⟨t, e⟩ := h
  exact pe_glob hg e ⟨t, rfl⟩ hd
end Ab
/-! PART values: any value handed in, what is raised of it; lists that are changed. -/
namespace Ab
open PySem PySem.Spec PyProof.Rows L2
/-- any value that a law hands in: its type's name -/
inductive AnyV (K : Fr0) (H : Hp) : V → String → Prop
  | int (i : Int) : AnyV K H (.int i) "int"
  | bl (b : Bool) : AnyV K H (.bl b) "bool"
  | non : AnyV K H .non "NoneType"
  | str (x : Str) : AnyV K H (.str x) "str"
  | tup {a : Addr} (h : TyX K H (.ref a) (.type "tuple")) : AnyV K H (.ref a) "tuple"
  | lst {a : Addr} (h : TyX K H (.ref a) (.type "list")) : AnyV K H (.ref a) "list"
  | dct {a : Addr} (h : TyX K H (.ref a) (.type "dict")) : AnyV K H (.ref a) "dict"
def isI : V → Bool
  | .int _ => true
  | _ => false
theorem AnyV.tyx {K : Fr0} {H : Hp} {v : V} {t : String} (h : AnyV K H v t) : TyX K H v (.type t) := by
  cases h with
  | int i => exact .base (.int i)
  | bl b => exact .base (.bl b)
  | non => exact .base .non
  | str x => exact .base (.str x)
  | tup h => exact h
  | lst h => exact h
  | dct h => exact h
theorem isi_ty {K : Fr0} {H : Hp} {v : V} {t T : String} {b : Bool} {Q : VK} (h : AnyV K H v t) (e : kitB t T = some b) (q : Q (.bl b) H) : rIsi K [v, .ty T] H Q :=
  ⟨v, .ty T, .type t, .type T, b, rfl, .ty T, h.tyx, kit_ty e, q⟩
/-- an int from lo to hi -/
def isIn (lo hi : Int) : V → Bool
  | .int i => decide (lo ≤ i) && decide (i ≤ hi)
  | _ => false
theorem AnyV.same {K : Fr0} {H H' : Hp} {v : V} {t : String} (s : Same H H') (h : AnyV K H v t) : AnyV K H' v t := by
  have key : ∀ {a : Addr} {u : Value}, (u = .type "tuple" ∨ u = .type "list" ∨ u = .type "dict") → TyX K H (.ref a) u → TyX K H' (.ref a) u := by
    intro a u hu h
    cases h with
    | base h =>
      cases h with
      | lst e => exact .base (.lst (s _ _ e))
      | frz e => exact .base (.frz (s _ _ e))
      | tup e => exact .base (.tup (s _ _ e))
      | dK e => exact .base (.dK (s _ _ e))
      | dT e => exact .base (.dT (s _ _ e))
      | ins e cl => rcases hu with hu | hu | hu <;> cases hu
    | set e => exact .set (s _ _ e)
    | kList e c => exact .kList e c
    | kTuple e c => exact .kTuple e c
    | kDict e c => exact .kDict e c
    | fTuple e => exact .fTuple (s _ _ e)
    | fDict e => exact .fDict (s _ _ e)
  cases h with
  | int i => exact .int i
  | bl b => exact .bl b
  | non => exact .non
  | str x => exact .str x
  | tup h => exact .tup (key (.inl rfl) h)
  | lst h => exact .lst (key (.inr (.inl rfl)) h)
  | dct h => exact .dct (key (.inr (.inr rfl)) h)
/-- an error of the class x is let out, its field f holds y -/
def Raised (K : Fr0) (x f : Str) (y : V) (H : Hp) (E : XK) : Prop := ∀ d H', H d = none → Same H H' → H' d = some (.xd [(f, y)]) → E (.ref (fA K x)) (some d) H'
theorem Raised.same {K : Fr0} {x f : Str} {y : V} {H H1 : Hp} {E : XK} (s : Same H H1) (h : Raised K x f y H E) : Raised K x f y H1 E := fun d H' n s' e => h d H' (s.free n) (s.trans s') e
/-- the heap without the list at r -/
def cut (H : Hp) (r : Addr) : Hp := fun b => if b = r then none else H b
theorem cut_at {H : Hp} {r : Addr} : cut H r r = none := if_pos rfl
theorem cut_ne {H : Hp} {r b : Addr} (h : b ≠ r) : cut H r b = H b := if_neg h
theorem cut_same {H : Hp} {r : Addr} : Same (cut H r) H := fun b o e => by
  by_cases h : b = r
  · rw [h, cut_at] at e; cases e
  · rwa [cut_ne h] at e
theorem cut_chg {H : Hp} {r : Addr} {l : List V} (h : H r = some (.lst l)) : Chg r H (cut H r) := ⟨⟨l, h⟩, fun b o n e => by rw [cut_ne n]; exact e⟩
theorem cut_of {G H : Hp} {r : Addr} (s : Same G H) (n : G r = none) : Same G (cut H r) := fun b o e => by
  rw [cut_ne (ne_of_none e n)]
  exact s b o e
theorem same_put {G H : Hp} {r : Addr} {o : HO} (s : Same G H) (n : G r = none) : Same G (upd H r o) := fun b u e => by
  rw [upd_ne (ne_of_none e n)]
  exact s b u e
/-! ### ways joined, loops, lists grown -/
section
variable {K : Fr0} {σ : L2.St} {H : Hp} {D : Ends} {t : TS} {te : TE} {ta : TA} {Q : VK} {R : It → Hp → Prop}
theorem r_via (P : V → Hp → Prop) (h : ∀ Q' : VK, (∀ v H', P v H' → Q' v H') → te σ H Q') (J : ∀ v H', P v H' → Q v H') : te σ H Q := h Q J
theorem r_viaT {tt : TT} {QT : Bool → Hp → Prop} (P : Bool → Hp → Prop) (h : ∀ Q' : Bool → Hp → Prop, (∀ v H', P v H' → Q' v H') → tt σ H Q') (J : ∀ v H', P v H' → QT v H') : tt σ H QT := h QT J
theorem r_viaS (P : L2.St → Hp → Prop) (h : ∀ nx : L2.St → Hp → Prop, (∀ σ' H', P σ' H' → nx σ' H') → t ⟨nx, D.rt, D.bk, D.ct⟩ σ H) (J : ∀ σ' H', P σ' H' → D.nx σ' H') : t D σ H := h D.nx J
theorem r_rng1 (h : ta σ H fun vs H1 => ∃ j : Int, vs = [.int j] ∧ -(2 ^ 62) ≤ j ∧ j < 2 ^ 62 ∧ R (Itr 0 j.toNat) H1) : iRng1 ta σ H R := h
theorem r_rng2 (h : ta σ H fun vs H1 => ∃ i j : Int, vs = [.int i, .int j] ∧ (-(2 ^ 62) ≤ i ∧ i < 2 ^ 62 ∧ -(2 ^ 62) ≤ j ∧ j < 2 ^ 62) ∧ R (Itr i (j - i).toNat) H1) : iRng2 ta σ H R := h
theorem r_rng3 (h : ta σ H fun vs H1 => ∃ (i j c : Int) (n : Nat), vs = [.int i, .int j, .int c] ∧ RgC i j c n ∧ R (Itc i c n) H1) : iRng3 ta σ H R := h
theorem r_iList {tl : TE} (h : tl σ H fun x H1 => ∃ a, x = .ref a ∧ (∃ xs, SqL K H1 a xs) ∧ R (Itl K a) H1) : iList K tl σ H R := h
theorem r_iTup {tl : TE} (h : tl σ H fun x H1 => ∃ a, x = .ref a ∧ (∃ xs, SqT K H1 a xs) ∧ R (Itt K a) H1) : iTup K tl σ H R := h
theorem r_append {l : Addr} {xs : List V} {y : V} (h : H l = some (.lst xs)) (hz : xs.length < 100000) (q : Q .non (upd H l (.lst (xs ++ [y])))) : rAppend (.ref l) [y] H Q :=
  ⟨l, xs, y, rfl, rfl, h, Nat.lt_of_lt_of_le hz (by decide), q⟩
theorem ty_lst {l : Addr} {xs : List V} (h : H l = some (.lst xs)) : tyV K "list" (.ref l) H := .inl ⟨rfl, _, SqL.of h⟩
theorem r_max2 {a : Addr} {i j : Int} (h : H a = some (.lst [.int i, .int j])) (q : Q (.int (max i j)) H) : rMax K [.ref a] H Q := by
  refine ⟨a, [i, j], rfl, SqL.of h, (by show 0 < 2; decide), fun m hm hl => ?_⟩
  have h1 := hl i (by simp)
  have h2 := hl j (by simp)
  have e : m = max i j := by
    rcases List.mem_cons.mp hm with e | hm
    · omega
    · rcases List.mem_cons.mp hm with e | hm
      · omega
      · cases hm
  rw [e]
  exact q
theorem r_min2 {a : Addr} {i j : Int} (h : H a = some (.lst [.int i, .int j])) (q : Q (.int (min i j)) H) : rMin K [.ref a] H Q := by
  refine ⟨a, [i, j], rfl, SqL.of h, (by show 0 < 2; decide), fun m hm hl => ?_⟩
  have h1 := hl i (by simp)
  have h2 := hl j (by simp)
  have e : m = min i j := by
    rcases List.mem_cons.mp hm with e | hm
    · omega
    · rcases List.mem_cons.mp hm with e | hm
      · omega
      · cases hm
  rw [e]
  exact q
end
theorem small_sz {n : Nat} (h : n ≤ 100000) : n ≤ sizeLine := Nat.le_trans h (by decide)
def nolA (ds : List PyData) : Bool := nol (.tuple ds)
theorem dpA_chg {K : Fr0} {H H' : Hp} {r : Addr} (c : Chg r H H') : ∀ {ds : List PyData} {vs : List V}, nolA ds = true → DpAll K H vs ds → DpAll K H' vs ds
  | [], _, _, h => by cases h; exact .nil
  | d :: ds, _, hn, h => by
    cases h with
    | cons h1 h2 =>
      unfold nolA at hn
      rw [nol, Bool.and_eq_true] at hn
      exact .cons (dp_chg c hn.1 h1) (dpA_chg c (show nolA ds = true from hn.2) h2)
theorem nolA_app {ds : List PyData} {d : PyData} (h : nolA ds = true) (hd : nol d = true) : nolA (ds ++ [d]) = true := by
  induction ds with
  | nil => unfold nolA; rw [List.nil_append, nol, hd, Bool.true_and, nol]
  | cons a ds ih =>
    unfold nolA at h ⊢
    rw [nol, Bool.and_eq_true] at h
    rw [List.cons_append, nol, h.1, Bool.true_and]
    exact ih h.2
theorem nolA_map {α : Type} (f : α → PyData) (h : ∀ a, nol (f a) = true) : ∀ l : List α, nolA (l.map f) = true
  | [] => by unfold nolA; rw [List.map_nil, nol]
  | a :: l => by
    unfold nolA
    rw [List.map_cons, nol, h a, Bool.true_and]
    exact nolA_map f h l
theorem isIn_nat {lo hi : Int} {n : Nat} (h1 : lo ≤ (n : Int)) (h2 : (n : Int) ≤ hi) : isIn lo hi (.int n) = true := by unfold isIn; simp [h1, h2]
end Ab
/-! PART draws: the law's row, what a draw leaves. -/
namespace Ab
open PySem PySem.Spec PyProof.Rows L2
section
variable {K : Fr0} {σ : L2.St} {H : Hp} {Q : VK} {v : V} {p : Addr} {xs : List V} {i : Int} {j : Nat}
theorem r_ixA (h : H p = some (.lst xs)) (e : atI xs i = some v) (q : Q v H) : rIxL K (.ref p) (.int i) H Q := ⟨p, xs, i, v, rfl, rfl, SqL.of h, e, q⟩
theorem r_ixS (h : SqL K H p xs) (e : atI xs i = some v) (q : Q v H) : rIxL K (.ref p) (.int i) H Q := ⟨p, xs, i, v, rfl, rfl, h, e, q⟩
theorem r_gsub {to ti : TE} {t : TSet} {QS : L2.St → Hp → Prop} (h : to σ H fun o H1 => ti σ H1 fun i H2 => t o i v H2 fun H3 => QS σ H3) : gSub to ti t v σ H QS := h
theorem r_setL {QH : Hp → Prop} (h : H p = some (.lst xs)) (e : ixN xs.length i = some j) (q : QH (upd H p (.lst (xs.set j v)))) : rSetL (.ref p) (.int i) v H QH := ⟨p, xs, i, j, rfl, rfl, h, e, q⟩
theorem r_setA {QH : Hp → Prop} (ys : List V) (h : H p = some (.lst xs)) (e : ixN xs.length i = some j) (e2 : xs.set j v = ys) (q : ∀ H', H' p = some (.lst ys) → Chg p H H' → QH H') : rSetL (.ref p) (.int i) v H QH :=
  ⟨p, xs, i, j, rfl, rfl, h, e, by rw [e2]; exact q _ upd_same (Chg.upd h)⟩
theorem r_lenS (h : SqL K H p xs) (q : Q (.int xs.length) H) : (fun (xs : List V) (H : Hp) (Q : VK) => ∃ p ys, xs = [.ref p] ∧ (SqL K H p ys ∨ SqT K H p ys) ∧ Q (.int ys.length) H) [.ref p] H Q := ⟨p, xs, rfl, .inl h, q⟩
end
/-- the script's list at s is not the row at r, or stands in the written part -/
def Off (K : Fr0) (s r : Addr) (xs : List V) : Prop := s ≠ r ∨ ∀ H, SqL K H s xs
theorem sql_off {K : Fr0} {H H' : Hp} {r s : Addr} {xs : List V} (c : Chg r H H') (n : Off K s r xs) (h : SqL K H s xs) : SqL K H' s xs := by
  rcases n with n | n
  · exact sql_chg c n h
  · exact n H'
theorem Off.of {K : Fr0} {H : Hp} {r s : Addr} {xs : List V} (n : H r = none) (h : SqL K H s xs) : Off K s r xs := by
  rcases h with (h | ⟨o, h⟩) | h
  · exact .inl (fun z => by rw [z, n] at h; cases h)
  · exact .inl (fun z => by rw [z, n] at h; cases h)
  · exact .inr fun H => .inr h
/-- the row at r: the script, how many cells were taken, the mixed number, the rest of a great cell -/
def RowAt (K : Fr0) (H : Hp) (r : Addr) : Prop := ∃ (s : Addr) (ns : List Int) (p : Nat) (m c : Int), H r = some (.lst [.ref s, .int p, .int m, .int c]) ∧ SqL K H s (ns.map V.int) ∧ Off K s r (ns.map V.int)
theorem RowAt.same {K : Fr0} {H H' : Hp} {r : Addr} (s : Same H H') (h : RowAt K H r) : RowAt K H' r := by
  obtain ⟨a, ns, p, m, c, h1, h2, h3⟩ := h
  exact ⟨a, ns, p, m, c, s _ _ h1, sql_same s h2, h3⟩
theorem RowAt.lst {K : Fr0} {H : Hp} {r : Addr} (h : RowAt K H r) : ∃ l, H r = some (.lst l) := by
  obtain ⟨a, ns, p, m, c, h1, h2, h3⟩ := h
  exact ⟨_, h1⟩
/-- the row changed and nothing else -/
theorem RowAt.put {K : Fr0} {H : Hp} {r s : Addr} {ns : List Int} {l : List V} (p : Nat) (m c : Int) (h1 : H r = some (.lst l)) (h2 : SqL K H s (ns.map V.int)) (h3 : Off K s r (ns.map V.int)) : RowAt K (upd H r (.lst [.ref s, .int p, .int m, .int c])) r :=
  ⟨s, ns, p, m, c, upd_same, sql_off (Chg.upd h1) h3 h2, h3⟩
theorem RowAt.mk' {K : Fr0} {H H' : Hp} {r s : Addr} {ns : List Int} {p : Nat} {m c : Int} (h1 : H' r = some (.lst [.ref s, .int p, .int m, .int c])) (g : Chg r H H') (h2 : SqL K H s (ns.map V.int)) (h3 : Off K s r (ns.map V.int)) : RowAt K H' r :=
  ⟨s, ns, p, m, c, h1, sql_off g h3 h2, h3⟩
theorem Chg.refl' {H : Hp} {r : Addr} {l : List V} (h : H r = some (.lst l)) : Chg r H H := ⟨⟨l, h⟩, fun _ _ _ e => e⟩
theorem Chg.tr {r : Addr} {H H1 H2 : Hp} (a : Chg r H H1) (b : Chg r H1 H2) : Chg r H H2 := ⟨a.was, fun c o n e => b.kp c o n (a.kp c o n e)⟩
theorem Chg.same {r : Addr} {H H1 H2 : Hp} (a : Chg r H H1) (b : Same H1 H2) : Chg r H H2 := ⟨a.was, fun c o n e => b c o (a.kp c o n e)⟩
theorem Same.chg {r : Addr} {H H1 H2 : Hp} {l : List V} (a : Same H H1) (h : H r = some (.lst l)) (b : Chg r H1 H2) : Chg r H H2 := ⟨⟨l, h⟩, fun c o n e => b.kp c o n (a c o e)⟩
/-- a draw -/
def spTaken (K : Fr0) : Sp := fun vs H Q _ => ∃ (r : Addr) (m : Nat), vs = [.ref r, .int m] ∧ RowAt K H r ∧ 0 < m ∧ m < 1073741824 ∧
  ∀ (d : Nat) (H' : Hp), d < m → Chg r H H' → RowAt K H' r → Q (.int d) H'
theorem c_taken {K : Fr0} {H : Hp} {r : Addr} {m : Nat} {Q : VK} {E : XK} (h : RowAt K H r) (h0 : 0 < m) (h1 : m < 1073741824) (k : ∀ (d : Nat) (H' : Hp), d < m → Chg r H H' → RowAt K H' r → Q (.int d) H') :
    spTaken K ([.ref r, .int m] ++ []) H Q E := ⟨r, m, rfl, h, h0, h1, k⟩
/-- a new row -/
theorem RowAt.new {K : Fr0} {H : Hp} {r s : Addr} {ns : List Int} {z : Int} (n : H r = none) (h : SqL K H s (ns.map V.int)) : RowAt K (upd H r (.lst [.ref s, .int 0, .int z, .int 0])) r :=
  ⟨s, ns, 0, z, 0, upd_same, sql_same (same_new n) h, .of n h⟩
/-- the law itself: handed the script's list, it answers True -/
def spLaw (K : Fr0) : Sp := fun vs H Q _ => ∃ (a : Addr) (ns : List Int), vs = [.ref a] ∧ SqL K H a (ns.map V.int) ∧ ns.length ≤ 63 ∧ ∀ H', Q (.bl true) H'
theorem r_eqD {K : Fr0} {H : Hp} {x y : V} {d : PyData} {Q : VK} (h1 : Dp K H x d) (h2 : Dp K H y d) (s : SeqAt.shaped d = true) (q : Q (.bl true) H) : rEqD K x y H Q :=
  ⟨d, d, h1, h2, s, s, by rw [SeqAt.eqv_refl d (SeqAt.canLay_of_shaped s)]; exact q⟩
theorem r_neD {K : Fr0} {H : Hp} {x y : V} {d : PyData} {Q : VK} (h1 : Dp K H x d) (h2 : Dp K H y d) (s : SeqAt.shaped d = true) (q : Q (.bl false) H) : rNeD K x y H Q :=
  ⟨d, d, h1, h2, s, s, by rw [SeqAt.eqv_refl d (SeqAt.canLay_of_shaped s)]; exact q⟩
theorem sh_pr {a b : Int} : SeqAt.shaped (pr a b) = true := rfl
/-- a value of a law's own list: a number, a text, a truth value, None -/
inductive Leaf : PyData → V → String → Prop
  | int (i : Int) : Leaf (.int i) (.int i) "int"
  | bl (b : Bool) : Leaf (.bool b) (.bl b) "bool"
  | non : Leaf .none .non "NoneType"
  | str (x : Str) : Leaf (.str x) (.str x) "str"
theorem Leaf.any {K : Fr0} {H : Hp} {d : PyData} {v : V} {t : String} (h : Leaf d v t) : AnyV K H v t := by
  cases h
  · exact .int _
  · exact .bl _
  · exact .non
  · exact .str _
theorem Leaf.dp {K : Fr0} {H : Hp} {d : PyData} {v : V} {t : String} (h : Leaf d v t) : Dp K H v d := by
  cases h
  · exact .int _
  · exact .bl _
  · exact .non
  · exact .str _
theorem atI_last {α : Type} {xs : List α} {v : α} {n : Nat} (h : xs[n]? = some v) (len : xs.length = n + 1) : atI xs (-1) = some v := by
  have e : ixN (n + 1) (-1) = some n := by
    unfold ixN
    rw [if_neg (by decide), if_pos (by omega)]
    congr 1
    omega
  unfold atI
  rw [len, e]
  exact h
/-- a draw while a new list waits at b -/
theorem c_pick {K : Fr0} {H : Hp} {r b : Addr} {xs : List V} (m : Nat) {Q : VK} {E : XK} (h : RowAt K H r) (nb : H b = none) (h0 : 0 < m) (h1 : m < 1073741824)
    (k : ∀ (d : Nat) (H' : Hp), d < m → Chg r H H' → RowAt K H' r → H' b = some (.lst xs) → Q (.int d) H') : spTaken K ([.ref r, .int m] ++ []) (upd H b (.lst xs)) Q E := by
  refine c_taken (h.same (same_new nb)) h0 h1 fun d H' hd c h' => ?_
  obtain ⟨l, hl⟩ := h.lst
  refine k d H' hd (Same.chg (same_new nb) hl c) h' (c.kp _ _ (fun z => ?_) upd_same)
  rw [z, hl] at nb
  cases nb
theorem nat_two {d : Nat} (h : d < 2) : d = 0 ∨ d = 1 := by omega
theorem nat_three {d : Nat} (h : d < 3) : d = 0 ∨ d = 1 ∨ d = 2 := by omega
theorem nat_five {d : Nat} (h : d < 5) : d = 0 ∨ d = 1 ∨ d = 2 ∨ d = 3 ∨ d = 4 := by omega
theorem nat_six {d : Nat} (h : d < 6) : d = 0 ∨ d = 1 ∨ d = 2 ∨ d = 3 ∨ d = 4 ∨ d = 5 := by omega
end Ab
/-! PART tables: a table that is written with one pair, its key a tuple. -/
namespace Ab
open PySem PySem.Spec PyProof.Rows L2
def tDispT (trs : List (TE × TE)) : TE := fun σ H Q => ∀ p, H p = none → tPairs trs σ (upd H p (.dT [])) fun ps H2 => ∃ b k y, ps = [(.ref b, y)] ∧ H2 b = some (.tup (k.map kV)) ∧ H2 p = some (.dT []) ∧ Q (.ref p) (upd H2 p (.dT [(k, y)]))
theorem pe_dispT {X : Cx} {pos : Pos} {keys : List (Option Expr)} {values : List Expr} {trs : List (TE × TE)} (hu : X.A.units + 1 < cLine) (h : PPs X pos keys values trs) (hall : keys.all (·.isSome) = true) (hl : keys.length = values.length) (h0 : keys ≠ [])
    (h15 : keys.length ≤ 15) : PE X (.Dict keys values pos) (tDispT trs) := by
  refine ⟨fun pins s σ H Q I q => ?_⟩
  have hn := I.hok.fresh (Nat.le_refl s.heap.objs.size)
  have I1 := I.laid (a := s.heap.objs.size) (o := .dT []) (h' := s.heap.push { cls := .type "dict", data := .dict #[] }) (t' := s.toks) (fun _ _ q => Heap.get?_push_of_some _ q) (Nat.le_refl _) (dt_empty s.heap I.big)
  have hz := pairTrees_length keys values X.env pos hall hl
  rw [arm_eval_Dict, zip_pairTrees keys values X.env pos hall hl, dictDisplay_pairs (pairTrees keys values X.env pos) (by intro e; rw [e] at hz; exact h0 (List.length_eq_zero_iff.mp hz.symm)) (by omega)]
  refine wpAny_bind (wpAny_standAt (wpAny_bind (wpAny_subDictH (knd := tupleKind (mixKind X.prog X.w)) (Nat.lt_of_succ_lt hu) (by omega) ?_)))
  refine thn (h.run pins _ σ _ _ I1 (q _ hn)) fun ws s2 ⟨ps, H2, I2, rel, b, k, y, ep, eb, e, q2⟩ => ?_
  subst ep
  cases rel with
  | @cons p0 w0 _ _ h1 t =>
    cases t
    obtain ⟨w1, w2⟩ := w0
    obtain ⟨h1, h2⟩ := h1
    cases (show w1 = Value.ref b from h1)
    obtain ⟨z, hd, xs0, r0, dd⟩ := dt_of I2.hok e
    cases r0
    refine ⟨[(k, b, w2)], ⟨rfl, rfl, key_of I2.hok eb, True.intro⟩, dd, fun h' tk dd' hs => wpAny_pure ⟨.ref s.heap.objs.size, _, ?_, rfl, q2⟩⟩
    obtain ⟨qo, es, ep, hq, g2, g3, g4, _, g5⟩ := dd'
    have nb : b ≠ s.heap.objs.size := fun zz => by
      subst zz
      rw [eb] at e
      cases e
    refine d_write I2 (by rw [e]; exact True.intro) hs ⟨qo, hq⟩ ⟨(by show 1 ≤ sizeLine; decide), hd, [(k, b, w2)], ?_, qo, es, ep, hq, g2, g3, g4, g5⟩
    refine .cons ⟨rfl, ?_, h2⟩ .nil
    rw [upd_ne nb]
    exact eb
section
variable {K : Fr0} {σ : L2.St} {H : Hp} {D : Ends} {t : TS} {te : TE} {ta : TA} {Q : VK}
theorem r_dispT {trs : List (TE × TE)} (h : ∀ p, H p = none → tPairs trs σ (upd H p (.dT [])) fun ps H2 => ∃ b k y, ps = [(.ref b, y)] ∧ H2 b = some (.tup (k.map kV)) ∧ H2 p = some (.dT []) ∧ Q (.ref p) (upd H2 p (.dT [(k, y)]))) : tDispT trs σ H Q := h
theorem r_prs {tk tv : TE} {r : List (TE × TE)} {QP : List (V × V) → Hp → Prop} (h : tk σ H fun x H1 => tv σ H1 fun y H2 => tPairs r σ H2 fun ps H3 => QP ((x, y) :: ps) H3) : tPairs ((tk, tv) :: r) σ H QP := h
theorem r_prs0 {QP : List (V × V) → Hp → Prop} (h : QP [] H) : tPairs [] σ H QP := h
theorem r_dput {td ty tv : TE} (h : tv σ H fun v H1 => td σ H1 fun x H2 => ty σ H2 fun y H3 => ∃ a H4, x = .ref a ∧ DPut H3 a y v H4 ∧ D.nx σ H4) : sDPut td ty tv D σ H := h
theorem r_dget {td ty : TE} (h : td σ H fun x H1 => ty σ H1 fun y H2 => ∃ a v, x = .ref a ∧ DGet H2 a y (some v) ∧ Q v H2) : tDGet td ty σ H Q := h
end
theorem dg_at {H : Hp} {p b : Addr} {kvs : List (List Key × V)} {x y : Int} {v : V} (hp : H p = some (.dT kvs)) (hb : H b = some (.tup [.int x, .int y])) (hv : valV kvs [.inl x, .inl y] = some v) :
    DGet H p (.ref b) (some v) := hv ▸ DGet.t (k := [.inl x, .inl y]) hp hb
theorem dput_at {H : Hp} {p b : Addr} {kvs : List (List Key × V)} {x y : Int} {v : V} (hp : H p = some (.dT kvs)) (hb : H b = some (.tup [.int x, .int y])) (hl : kvs.length < 100000) :
    DPut H p (.ref b) v (upd H p (.dT (putK kvs [.inl x, .inl y] v))) := DPut.t (k := [.inl x, .inl y]) hp hb (Nat.lt_of_lt_of_le hl (by decide))
theorem sqt_cutT {K : Fr0} {H : Hp} {p a : Addr} {kvs : List (List Key × V)} {xs : List V} (hp : H p = some (.dT kvs)) (h : SqT K H a xs) : SqT K (cut H p) a xs := by
  have key : ∀ {o : HO}, H a = some o → (∀ l, o ≠ .dT l) → cut H p a = some o := fun {o} e n => by
    rw [cut_ne]
    · exact e
    · intro z
      subst z
      rw [hp] at e
      exact n _ (Option.some.inj e).symm
  rcases h with (h | ⟨o, h⟩) | h
  · exact .inl (.inl (key h fun _ z => nomatch z))
  · exact .inl (.inr ⟨o, key h fun _ z => nomatch z⟩)
  · exact .inr h
theorem dp_cutT {K : Fr0} {H : Hp} {p : Addr} {kvs : List (List Key × V)} {v : V} {a b : Int} (hp : H p = some (.dT kvs)) (h : Dp K H v (pr a b)) : Dp K (cut H p) v (pr a b) := by
  obtain ⟨q, xs, rfl, h1, h2⟩ := dp_tup h
  refine .tup (sqt_cutT hp h1) ?_
  cases h2 with
  | cons a h2 =>
    cases a
    cases h2 with
    | cons a h2 =>
      cases a
      cases h2
      exact .cons (.int _) (.cons (.int _) .nil)
end Ab
/-! PART clauses: several clauses of a try, each with a name for the error. -/
namespace Ab
open PySem PySem.Spec PyProof.Rows L2
abbrev ClauseT := Value × Nat × (Addr → Value → Option Addr → TS)
/-- the wish at the first clause, behind it at the next ones -/
def wAll (K : Fr0) (Wo : WX) (D : Ends) : List ClauseT → WX
  | [] => Wo
  | (c, i, ts) :: r => wAs K c i ts (wAll K Wo D r) D
inductive HdsA (X : Cx) : List ExceptHandler → List ClauseT → Prop
  | nil : HdsA X [] []
  | cons {x n : Str} {c : Value} {i : Nat} {ts : Addr → Value → Option Addr → TS} {st : Stmt} {sts : List Stmt} {p1 p2 : Pos} {rest : List ExceptHandler} {l : List ClauseT}
      (hc : Names X x c) (hi : X.N[i]? = some n) (hk : X.env.kindOf n = some .local)
      (su : ∀ (b : Addr) (ob : Obj) (cl : Value) (dd : Option Addr) (pns : List (Addr × Obj)), Zc cl dd ob → (∃ ws, ob.data = .fields ws) → PSs (X.suite b ((b, ob) :: pns)) (st :: sts) (ts b cl dd))
      (r : HdsA X rest l) : HdsA X (.ExceptHandler (some (.Name x p1)) (some n) (st :: sts) p2 :: rest) ((c, i, ts) :: l)
section
variable {X : Cx} {body : List Stmt} {hd0 : ExceptHandler} {hds0 : List ExceptHandler} {l : List ClauseT} {pos : Pos} {tb : WX → TS} {Wo : WX}
theorem ps_try_manyA (st : X.stack = X.env :: X.outer) (fr : X.env.frame = some X.env.locals) (nd : X.N.Nodup) (tk : Takes X Wo)
    (bd : ∀ (W : WX) (pns : List (Addr × Obj)) (xx : Value → Shared → Prop), Takes (X.tr pns xx) W → PassesOwn (model X.prog X.w) X.A X.env xx → PSs (X.tr pns xx) body (tb W))
    (hh : HdsA X (hd0 :: hds0) l) : PS X (.Try body (hd0 :: hds0) [] [] pos) (fun D σ H => tb (wAll X.K Wo D l) D σ H) := by
  refine ⟨fun pins s0 σ0 H0 D I0 w0 => ?_⟩
  have fine := I0.ok
  have frs0 : X.A.frames = some (X.env :: X.outer) := by rw [fine.frames, st]
  refine wpAny_Try_except (wpAny_mono ((bd (wAll X.K Wo D l) (X.pn ++ pins)
    (fun er sa => wpAny (model X.prog X.w) X.A (noteFrame er X.env)
      (fun _ sb => wpAny (model X.prog X.w) X.A (setFlight er none)
        (fun _ sc => wpAny (model X.prog X.w) X.A (handleBy er X.env (hd0 :: hds0)) (SP X pins D) X.xe sc) X.xe sb) X.xe sa)
    (fun v0 sq got => ?_) PassesOwn.looking).run [] s0 σ0 H0 D (I0.toTry _) w0) (fun fl sz done => ?_) (fun _ _ z => z))
  case refine_2 =>
    cases fl with
    | next => obtain ⟨_, _, J, q⟩ := done; exact wpAny_execs_nil ⟨_, _, J.ofTry fine, q⟩
    | brk => obtain ⟨_, _, J, q⟩ := done; exact ⟨_, _, J.ofTry fine, q⟩
    | cont => obtain ⟨_, _, J, q⟩ := done; exact ⟨_, _, J.ofTry fine, q⟩
    | ret _ => obtain ⟨_, _, _, J, rel, q⟩ := done; exact ⟨_, _, _, J.ofTry fine, rel, q⟩
  obtain ⟨b, B, sI, pins2, σ, H, cl, dd, rfl, JT, fresh, up, sky, nb, osame, ag, want⟩ := got
  have J : Inv X pins σ H sI := JT.ofTry fine
  have sky2 : Sky B (X.env :: X.outer) b (Zc cl dd) X.env.locals sq.heap := by rw [← st]; exact sky
  show wpAny (model X.prog X.w) X.A (noteFrame (.ref b) X.env) _ _ _
  refine Sky.land Zc.steady frs0 fr sky2 fun g1 land1 up1 => ?_
  have J1 : Inv X pins σ H { sq with heap := g1 } := J.landed fresh land1.1 (up.trans up1) osame ag
  obtain ⟨ob1, ws1, at1, zc1, dat1⟩ := land1.there
  have out : b ∉ frs (X.env :: X.outer) := fun hm => by
    obtain ⟨_, o2, at2, no⟩ := land1.2.2.1.mem hm
    rw [at1] at at2
    cases at2
    exact no _ dat1
  have nL : b ≠ X.env.locals := fun z => out (List.mem_filterMap.mpr ⟨X.env, List.mem_cons_self, by rw [fr, z]⟩)
  have nF : b ∉ X.fs := fun hm => by
    obtain ⟨en, hen, hfr⟩ := List.mem_filterMap.mp hm
    exact out (List.mem_filterMap.mpr ⟨en, List.mem_cons_of_mem _ hen, hfr⟩)
  have U := J1.suite at1 dat1 nb nL nF
  have looks : PySem.W.Looks (model X.prog X.w) g1 (typeOf (.ref b)) cl := fun _ _ _ _ kp q => wpAny_typeOf_ref (kp _ _ at1) (by rw [zc1.1]; exact q)
  have go : ∀ {hs1 : List ExceptHandler} {l1 : List ClauseT}, HdsA X hs1 l1 → wAll X.K Wo D l1 cl dd σ H →
      wpAny (model X.prog X.w) X.A (handleBy (.ref b) X.env hs1) (SP X pins D) X.xe { sq with heap := g1 } := by
    intro hs1 l1 der
    induction der with
    | nil =>
      intro wish
      refine wpAny_handleBy_nil ?_
      obtain ⟨_, _, _, ob2, ws2, T, oT, tts, at2, zc2, dat2, f2, _⟩ := id land1
      unfold PySem.passOn
      refine wpAny_bind (wpAny_field at2 dat2 f2 ?_)
      rw [if_neg (show ¬ ((Value.ref T == Value.none) = true) by simp)]
      have last : wpAny (model X.prog X.w) X.A (setFlight (.ref b) X.env.frame) (fun _ sd => wpAny (model X.prog X.w) X.A (throw (.ref b) : Sem Flow) (SP X pins D) X.xe sd) X.xe { sq with heap := g1 } := by
        rw [fr]
        refine HandSPX.setFlight_upZ land1 fun g2 fly up2 => wpAny_throw (tk _ _ ⟨b, B, sI, pins, σ, H, cl, dd, rfl, J, fresh, (up.trans up1).trans up2, .inr (.inr ?_), nb, osame, ag, wish⟩)
        rw [st]
        exact fly
      first
        | exact wpAny_bind (wpAny_pure (wpAny_bind last))
        | exact wpAny_bind last
    | @cons x n c i ts s1 sts p1 p2 rest l2 hc hi hk su r ih =>
      intro wish
      obtain ⟨fits, he, yes, no⟩ := wish
      have LM := PySem.W.exm_one (M := model X.prog X.w) (J1.kIn) looks he
      refine wpAny_handleBy_cons (codeAny_handlers_test ?_) (fun z => by cases z)
      have named : ∀ {Q E : Value → Shared → Prop}, Q c { sq with heap := g1 } → wpAny (model X.prog X.w) (X.A.mark (some (.ref b))) (eval (.Name x p1) X.env) Q E { sq with heap := g1 } := by
        intro Q E q
        obtain ⟨hg, hdb, hm | ⟨hm, hv, hnn⟩⟩ := hc
        · exact ld_glob (X := X.suite b ((b, ob1) :: (X.pn ++ pins))) U hg hm q hdb
        · exact ld_blt (X := X.suite b ((b, ob1) :: (X.pn ++ pins))) U hg hm hv q hnn hdb
      refine named (LM.here ?_)
      cases fits with
      | false => exact ih (no rfl)
      | true =>
        refine codeAny_handlers_suite_as (HandSPX.lands_againZ land1 fun g2 land2 up2 => ?_)
        have J2 : Inv X pins σ H { sq with heap := g2 } := J.landed fresh land2.1 ((up.trans up1).trans up2) osame ag
        obtain ⟨ob2, ws2, at2, zc2, dat2⟩ := land2.there
        have U2 := J2.suite at2 dat2 nb nL nF
        refine store_ok (X := X.suite b ((b, ob2) :: (X.pn ++ pins))) (v := .ref b) U2 nd hi (.inl hk) rfl (fun s5 U5 => ?_) (.inr hk)
        refine wpAny_mono ((su b ob2 cl dd (X.pn ++ pins) zc2 ⟨_, dat2⟩).run [] s5 _ H _ U5 (yes rfl b nb)) (fun fl s6 done => ?_) (fun _ _ z => z.elim)
        have gone : ∀ {σ6 : L2.St} {H6 : Hp} {Q : Shared → Prop}, Inv (X.suite b ((b, ob2) :: (X.pn ++ pins))) [] σ6 H6 s6 → (∀ s7, Inv X pins (σ6.set i none) H6 s7 → Q s7) →
            wpAny (model X.prog X.w) X.A (do bindName X.env n .none; unbindBehindTheSuite X.env n p2) (fun _ s7 => Q s7) X.xe s6 :=
          fun U6 q => gone_ok (U6.unsuite fine) nd hi hk q
        cases fl with
        | next => obtain ⟨_, _, U6, q⟩ := done; exact gone U6 fun _ J7 => ⟨_, _, J7, q⟩
        | brk => obtain ⟨_, _, U6, q⟩ := done; exact gone U6 fun _ J7 => ⟨_, _, J7, q⟩
        | cont => obtain ⟨_, _, U6, q⟩ := done; exact gone U6 fun _ J7 => ⟨_, _, J7, q⟩
        | ret _ => obtain ⟨_, _, _, U6, rel, q⟩ := done; exact gone U6 fun _ J7 => ⟨_, _, _, J7, rel, q⟩
  exact go hh want
end
end Ab
/-! PART lists: lists of data that are made by a comprehension. -/
namespace Ab
open PySem PySem.Spec PyProof.Rows L2
/-- at D a list of data grows; all else stands in G -/
structure Grown (K : Fr0) (H0 : Hp) (D : Addr) (ds : List PyData) (G H : Hp) (acc : List V) : Prop where
  at_ : H D = some (.lst acc)
  was : Same H0 G
  now : Same G H
  off : G D = none
  dat : DpAll K G acc ds
theorem Grown.len {K : Fr0} {H0 : Hp} {D : Addr} {ds : List PyData} {G H : Hp} {acc : List V} (g : Grown K H0 D ds G H acc) : acc.length = ds.length := dpA_len g.dat
theorem Grown.same {K : Fr0} {H0 : Hp} {D : Addr} {ds : List PyData} {G H : Hp} {acc : List V} (g : Grown K H0 D ds G H acc) : Same H0 H := g.was.trans g.now
theorem Grown.dp {K : Fr0} {H0 : Hp} {D : Addr} {ds : List PyData} {G H : Hp} {acc : List V} (g : Grown K H0 D ds G H acc) : Dp K H (.ref D) (.list ds) := .lst (SqL.of g.at_) (dpA_same g.now g.dat)
theorem Grown.new {K : Fr0} {H0 : Hp} {D : Addr} (n : H0 D = none) : Grown K H0 D [] H0 (upd H0 D (.lst [])) [] := ⟨upd_same, Same.refl _, same_new n, n, .nil⟩
theorem Grown.step {K : Fr0} {H0 : Hp} {D : Addr} {ds : List PyData} {G H H' : Hp} {acc : List V} {y : V} {d : PyData} (g : Grown K H0 D ds G H acc) (s : Same H H') (hy : Dp K H' y d) (nl : nol d = true) :
    Grown K H0 D (ds ++ [d]) (cut H' D) (upd H' D (.lst (acc ++ [y]))) (acc ++ [y]) :=
  ⟨upd_same, g.was.trans (cut_of (g.now.trans s) g.off), same_put cut_same cut_at, cut_at, dpA_app (dp_chg (cut_chg (s _ _ g.at_)) nl hy) (dpA_same (cut_of (g.now.trans s) g.off) g.dat)⟩
theorem Grown.mono {K : Fr0} {H0 : Hp} {D : Addr} {ds : List PyData} {G H H' : Hp} {acc : List V} (g : Grown K H0 D ds G H acc) (s : Same H H') : Grown K H0 D ds G H' acc :=
  ⟨s _ _ g.at_, g.was, g.now.trans s, g.off, g.dat⟩
/-- a comprehension without a test that makes data, over whole numbers -/
theorem lc_nums {K : Fr0} {J : It} {n : Nat} {h : Nat → V} (w : Walk J n (fun _ => True) (YFn h)) {g : TG} {te : TE} {vs : List Nat} {σ : L2.St} {H1 : Hp} {D : Addr} {Qd : Hp → Prop} (f : Nat → PyData) (nl : ∀ i, nol (f i) = true) (hn : n < 100000) (nD : H1 D = none)
    (hs : ∀ (i : Nat) (H : Hp) (Q' : VK), i < n → Same H1 H → (∀ y H4, Same H H4 → Dp K H4 y (f i) → Q' y H4) → g (h i) (wipe σ vs) H fun σ2 H2 => wipe σ2 vs = wipe σ vs ∧ te σ2 H2 Q')
    (hd : ∀ G H acc, Grown K H1 D ((List.range n).map f) G H acc → Qd H) :
    ∃ W : Nat → Nat → Hp → Prop, (∃ m, W 0 m (upd H1 D (.lst []))) ∧ ∀ i m H, W i m H →
      (J.stop i H ∧ Qd H) ∨ (J.go i H ∧ ∃ Nx : Hp → Prop, (∀ H', Nx H' → ∃ m', m' < m ∧ W (i + 1) m' H') ∧ ∀ x H', J.yld i H x H' → g x (wipe σ vs) H' fun σ2 H2 => wipe σ2 vs = wipe σ vs ∧ tYes σ2 H2 fun b H3 =>
        if b = true then te σ2 H3 fun y H4 => ∃ acc, H4 D = some (.lst acc) ∧ acc.length < sizeLine ∧ Nx (upd H4 D (.lst (acc ++ [y]))) else Nx H3) := by
  refine lc_it w (fun i H => ∃ G acc, Grown K H1 D ((List.range i).map f) G H acc) ⟨_, _, Grown.new nD⟩ (fun _ _ _ _ => True.intro) ?_ (fun H ⟨G, acc, q⟩ => hd G H acc q)
  rintro i x H H' hi ⟨G, acc, q⟩ hy
  obtain ⟨rfl, rfl⟩ := hy
  refine hs i _ _ hi q.same fun y H4 s4 d4 => ?_
  have len : acc.length = i := by rw [q.len]; simp
  refine ⟨acc, s4 _ _ q.at_, Nat.lt_of_lt_of_le (show acc.length < 100000 by omega) (by decide), cut H4 D, acc ++ [y], ?_⟩
  have z := q.step s4 d4 (nl i)
  rwa [show (List.range i).map f ++ [f i] = (List.range (i + 1)).map f by rw [List.range_succ, List.map_append]; rfl] at z
/-- the same over a list -/
theorem lc_vals {K : Fr0} {a : Addr} {xs : List V} {g : TG} {te : TE} {vs : List Nat} {σ : L2.St} {H1 : Hp} {D : Addr} {Qd : Hp → Prop} (f : Nat → PyData) (nl : ∀ i, nol (f i) = true) (hn : xs.length < 100000) (nD : H1 D = none) (hx : SqL K H1 a xs)
    (hs : ∀ (i : Nat) (x : V) (H : Hp) (Q' : VK), xs[i]? = some x → Same H1 H → (∀ y H4, Same H H4 → Dp K H4 y (f i) → Q' y H4) → g x (wipe σ vs) H fun σ2 H2 => wipe σ2 vs = wipe σ vs ∧ te σ2 H2 Q')
    (hd : ∀ G H acc, Grown K H1 D ((List.range xs.length).map f) G H acc → Qd H) :
    ∃ W : Nat → Nat → Hp → Prop, (∃ m, W 0 m (upd H1 D (.lst []))) ∧ ∀ i m H, W i m H →
      ((Itl K a).stop i H ∧ Qd H) ∨ ((Itl K a).go i H ∧ ∃ Nx : Hp → Prop, (∀ H', Nx H' → ∃ m', m' < m ∧ W (i + 1) m' H') ∧ ∀ x H', (Itl K a).yld i H x H' → g x (wipe σ vs) H' fun σ2 H2 => wipe σ2 vs = wipe σ vs ∧ tYes σ2 H2 fun b H3 =>
        if b = true then te σ2 H3 fun y H4 => ∃ acc, H4 D = some (.lst acc) ∧ acc.length < sizeLine ∧ Nx (upd H4 D (.lst (acc ++ [y]))) else Nx H3) := by
  refine lc_list (xs := xs) (fun i H => ∃ G acc, Grown K H1 D ((List.range i).map f) G H acc) ⟨_, _, Grown.new nD⟩ (fun _ _ _ ⟨G, acc, q⟩ => sql_same q.same hx) ?_ (fun H ⟨G, acc, q⟩ => hd G H acc q)
  rintro i x H hi ⟨G, acc, q⟩
  have lt := (List.getElem?_eq_some_iff.mp hi).1
  refine hs i x _ _ hi q.same fun y H4 s4 d4 => ?_
  have len : acc.length = i := by rw [q.len]; simp
  refine ⟨acc, s4 _ _ q.at_, Nat.lt_of_lt_of_le (show acc.length < 100000 by omega) (by decide), cut H4 D, acc ++ [y], ?_⟩
  have z := q.step s4 d4 (nl i)
  rwa [show (List.range i).map f ++ [f i] = (List.range (i + 1)).map f by rw [List.range_succ, List.map_append]; rfl] at z
section
variable {K : Fr0} {σ : L2.St} {H : Hp} {Q : VK}
theorem r_lc {wi : TI} {g : TG} {tt : TT} {te : TE} {vs : List Nat} (h : wi σ H fun J H1 => ∀ D, H1 D = none → ∃ W : Nat → Nat → Hp → Prop, (∃ m, W 0 m (upd H1 D (.lst []))) ∧ ∀ i m H, W i m H →
    (J.stop i H ∧ Q (.ref D) H) ∨ (J.go i H ∧ ∃ Nx : Hp → Prop, (∀ H', Nx H' → ∃ m', m' < m ∧ W (i + 1) m' H') ∧ ∀ x H', J.yld i H x H' → g x (wipe σ vs) H' fun σ2 H2 => wipe σ2 vs = wipe σ vs ∧ tt σ2 H2 fun b H3 =>
      if b = true then te σ2 H3 fun y H4 => ∃ acc, H4 D = some (.lst acc) ∧ acc.length < sizeLine ∧ Nx (upd H4 D (.lst (acc ++ [y]))) else Nx H3)) : tLc wi g tt te vs σ H Q := h
theorem r_gtup {a : Addr} {n : Nat} {xs : List V} {t : TGs} {QS : L2.St → Hp → Prop} (h : SqT K H a xs) (len : xs.length = n) (q : t xs σ H QS) : gTup K n t (.ref a) σ H QS := ⟨a, xs, rfl, h, len, q⟩
theorem r_gcons {x : V} {xs : List V} {g : TG} {u : TGs} {QS : L2.St → Hp → Prop} (q : g x σ H fun σ' H' => u xs σ' H' QS) : gCons g u (x :: xs) σ H QS := ⟨x, xs, rfl, q⟩
theorem r_gnil {QS : L2.St → Hp → Prop} (q : QS σ H) : gNil [] σ H QS := ⟨rfl, q⟩
theorem r_eqI {i j : Int} (q : Q (.bl (decide (i = j))) H) : rEq (.int i) (.int j) H Q := ⟨rfl, by rw [show decide (V.int i = V.int j) = decide (i = j) from decide_eq_decide.mpr ⟨V.int.inj, congrArg _⟩]; exact q⟩
theorem r_neI {i j : Int} (q : Q (.bl (!decide (i = j))) H) : rNe (.int i) (.int j) H Q := ⟨rfl, by rw [show decide (V.int i = V.int j) = decide (i = j) from decide_eq_decide.mpr ⟨V.int.inj, congrArg _⟩]; exact q⟩
theorem r_iff {A B : Prop} (h : B) : if false = true then A else B := h
theorem r_ift {A B : Prop} (h : A) : if true = true then A else B := h
theorem r_cat {l b : Addr} {xs zs : List V} (h1 : H l = some (.lst xs)) (h2 : H b = some (.lst zs)) (hl : xs.length + zs.length < 100000) (q : ∀ p, H p = none → Q (.ref p) (upd H p (.lst (xs ++ zs)))) : rCat (.ref l) (.ref b) H Q :=
  ⟨l, b, xs, zs, rfl, rfl, h1, h2, Nat.le_of_lt (Nat.lt_of_lt_of_le hl (by decide)), q⟩
end
/-! ### lists that may be compared -/
theorem lay_map {α : Type} (f : α → PyData) (h : ∀ a, (f a).canLay0 = true) : ∀ l : List α, PyData.canLayAll0 (l.map f) = true
  | [] => rfl
  | a :: l => by rw [List.map_cons, PyData.canLayAll0, h a, lay_map f h l]; rfl
theorem dep_map {α : Type} {m : Nat} (f : α → PyData) (h : ∀ a, (f a).depth ≤ m) : ∀ l : List α, PyData.depthAll (l.map f) ≤ m
  | [] => by rw [List.map_nil, PyData.depthAll]; exact Nat.zero_le _
  | a :: l => by
    rw [List.map_cons, PyData.depthAll]
    exact Nat.max_le.mpr ⟨h a, dep_map f h l⟩
theorem sh_list {α : Type} (f : α → PyData) (h : ∀ a, (f a).canLay0 = true) (d : ∀ a, (f a).depth ≤ 9) (l : List α) : SeqAt.shaped (.list (l.map f)) = true := by
  unfold SeqAt.shaped
  rw [Bool.and_eq_true, PyData.canLay0, PyData.depth]
  exact ⟨lay_map f h l, decide_eq_true (by have := dep_map f d l; omega)⟩
theorem sh_tuple {α : Type} (f : α → PyData) (h : ∀ a, (f a).canLay0 = true) (d : ∀ a, (f a).depth ≤ 9) (l : List α) : SeqAt.shaped (.tuple (l.map f)) = true := by
  unfold SeqAt.shaped
  rw [Bool.and_eq_true, PyData.canLay0, PyData.depth]
  exact ⟨lay_map f h l, decide_eq_true (by have := dep_map f d l; omega)⟩
theorem sh_ints (l : List Int) : SeqAt.shaped (.list (l.map .int)) = true := sh_list _ (fun _ => rfl) (fun _ => by rw [PyData.depth]; exact Nat.zero_le _) l
theorem sh_nats (l : List Nat) : SeqAt.shaped (.list (l.map fun n : Nat => PyData.int (n : Int))) = true := sh_list (fun n : Nat => PyData.int (n : Int)) (fun _ => rfl) (fun _ => by rw [PyData.depth]; exact Nat.zero_le _) l
theorem dep_pr (a b : Int) : (pr a b).depth ≤ 9 := by show PyData.depth (.tuple [.int a, .int b]) ≤ 9; simp [PyData.depth, PyData.depthAll]
theorem sh_prs {α : Type} (f g : α → Int) (l : List α) : SeqAt.shaped (.list (l.map fun a => pr (f a) (g a))) = true := sh_list _ (fun _ => rfl) (fun _ => dep_pr _ _) l
theorem nol_int (i : Int) : nol (.int i) = true := by simp [nol]
theorem nol_pr (a b : Int) : nol (pr a b) = true := by simp [nol]
/-! ### within a comprehension: the written part is the same -/
section
variable {X : Cx} {K : Fr0}
theorem ixlK (h : X.K = K) : IxR X (rIxL K) := h ▸ ix_list
theorem ixtK (h : X.K = K) : IxR X (rIxT K) := h ▸ ix_tup
theorem lenK (h : X.K = K) : CallR X (.builtin "len") (fun xs H Q => ∃ p ys, xs = [.ref p] ∧ (SqL K H p ys ∨ SqT K H p ys) ∧ Q (.int ys.length) H) := h ▸ call_len_seq
theorem isiKK (h : X.K = K) : CallR X (.builtin "isinstance") (rIsi K) := h ▸ call_isi
theorem eqDK (h : X.K = K) (hu : X.A.units + 64 < cLine) : OpR X (compareOp .Eq) (rEqD K) := h ▸ op_eqD hu
theorem neDK (h : X.K = K) (hu : X.A.units + 64 < cLine) : OpR X (compareOp .NotEq) (rNeD K) := h ▸ op_neD hu
theorem inK (h : X.K = K) : OpR X (compareOp .In) (rIn K false) := h ▸ op_in_seq
theorem notInK (h : X.K = K) : OpR X (compareOp .NotIn) (rIn K true) := h ▸ op_notIn_seq
end
theorem dpA_ints_eq {K : Fr0} {H : Hp} : ∀ {l : List Int} {acc : List V}, DpAll K H acc (l.map .int) → acc = l.map V.int
  | [], _, h => by cases h; rfl
  | i :: l, _, h => by
    rw [List.map_cons] at h
    cases h with
    | cons h1 h2 =>
      cases h1
      rw [dpA_ints_eq h2]
      rfl
theorem Grown.ints {K : Fr0} {H0 : Hp} {D : Addr} {G H : Hp} {acc : List V} {n : Nat} {f : Nat → Int} (g : Grown K H0 D ((List.range n).map fun m => PyData.int (f m)) G H acc) : H D = some (.lst ((List.range n).map fun m => V.int (f m))) := by
  have z := g.dat
  rw [show ((List.range n).map fun m => PyData.int (f m)) = ((List.range n).map f).map .int by rw [List.map_map]; rfl] at z
  have e := dpA_ints_eq z
  rw [g.at_, e, List.map_map]
  rfl
theorem ints_at {n m : Nat} (f : Nat → Int) (h : m < n) : atI ((List.range n).map fun m => V.int (f m)) (m : Int) = some (.int (f m)) := atI_nat (by simp [h])
theorem dpA_append {K : Fr0} {H : Hp} : ∀ {ds es : List PyData} {vs ws : List V}, DpAll K H vs ds → DpAll K H ws es → DpAll K H (vs ++ ws) (ds ++ es)
  | [], _, _, _, h, h2 => by cases h; exact h2
  | _ :: ds, _, _, _, h, h2 => by
    cases h with
    | cons a b => exact .cons a (dpA_append b h2)
theorem dpA_rev {K : Fr0} {H : Hp} : ∀ {ds : List PyData} {vs : List V}, DpAll K H vs ds → DpAll K H vs.reverse ds.reverse
  | [], _, h => by cases h; exact .nil
  | _ :: ds, _, h => by
    cases h with
    | cons a b =>
      rw [List.reverse_cons, List.reverse_cons]
      exact dpA_append (dpA_rev b) (.cons a .nil)
theorem r_revL {K : Fr0} {σ : L2.St} {H : Hp} {Q : VK} {te : TE} (h : te σ H fun x H1 => ∃ a xs, x = .ref a ∧ SqL K H1 a xs ∧ ∀ p, H1 p = none → Q (.ref p) (upd H1 p (.lst xs.reverse))) : tRevL K te σ H Q := h
end Ab
/-! PART classes: own classes, their making, methods, properties. -/
namespace Ab
open PySem PySem.Spec PyProof.Rows L2
/-- the getter of a property -/
def gA (K : Fr0) (C f : Str) : Addr := match PySem.W.recIn K (mA K C f) "property" with
  | some (.ref g :: _) => g
  | _ => 0
def propB (C f : Str) (K : Fr0) : Bool := He.eqO (PySem.W.findIn K (.ref (fA K C)) f) (some (some (.ref (mA K C f)))) && (He.eqO (PySem.W.specialIn K (.ref (mA K C f)) "__get__") (some (some (.builtin "property.__get__"))) &&
  (decide (PySem.W.takesIn K (.ref (mA K C f)) = some true) && (match PySem.W.recIn K (mA K C f) "property" with
    | some (.ref _ :: _) => true
    | _ => false)))
theorem propB_ok {K : Fr0} {C f : Str} (h : propB C f K = true) : PropOf K (fA K C) f (mA K C f) (gA K C f) := by
  unfold propB at h
  obtain ⟨h1, h⟩ := He.ba h
  obtain ⟨h2, h⟩ := He.ba h
  obtain ⟨h3, h4⟩ := He.ba h
  refine ⟨He.eqO_ok h1, He.eqO_ok h2, of_decide_eq_true h3, ?_⟩
  unfold gA
  split at h4
  · rename_i g rest e
    rw [e]
    exact ⟨rest, rfl⟩
  · cases h4
/-- a property's getter, as it stands behind the top -/
structure TopP (K : Fr0) (C m q : Str) (st : Stmt) : Prop where
  fn : ∃ fd, FunD K m q (defArgs st) (defBody st) (defScope st) [] [] (gA K C m) fd
structure OkP (P : Program) (w : World) (K : Fr0) (mg : Str → Option Value) (base : Heap) (CX : CXT) (k : Nat) (C m : Str) (ps : List Str) (sp : Sp) : Prop where
  fn : ∃ fd, FnOk P w K mg base CX k (gA K C m) fd ps sp ∧ Binds K fd ps []
section
variable {P : Program} {w : World} {K : Fr0} {mg : Str → Option Value} {base : Heap} {CX : CXT} {C m q : Str} {st : Stmt} {N ps : List Str} {k : Nat} {sp : Sp}
theorem TopP.ok (D : TopP K C m q st) (S : FnScope N ps (defScope st)) (b : BindsAs st m q ps) (len : ∀ vs H Q E, sp vs H Q E → vs.length = ps.length)
    (body : ∀ (cdv : Value) (A : Around) (outer : List Env) (s : Shared) (H : Hp) (vs : List V) (Q : VK) (E : XK), Room k (A.deeper (envOfC q (defScope st) s.heap.objs.size (gA K C m) cdv)) → sp vs H Q E →
      ∃ t, PSs (cxOf CX P w K mg base N q (defScope st) (gA K C m) cdv A outer s H E) (defBody st) t ∧ t { nx := fun _ H' => Q .non H', rt := Q } (start N vs) H) :
    OkP P w K mg base CX (k + 1) C m ps sp := by
  obtain ⟨fd, F⟩ := D.fn
  exact ⟨fd, F.ok S len body, F.bindsN b⟩
end
/-- what an isinstance asks of the class of an instance -/
structure InsF (K : Fr0) (C : Addr) : Prop where
  ca : PySem.W.findIn K (.ref C) "__class__" = some (some (.builtin "object.__class__"))
  cn : PySem.W.specialIn K (.builtin "object.__class__") "__get__" = some (some (.builtin "getset_descriptor.__get__"))
  ct : PySem.W.takesIn K (.builtin "object.__class__") = some true
  cm : PySem.W.mroIn K C (.type "object") = some true
def insB (x : Str) (K : Fr0) : Bool := He.eqO (PySem.W.findIn K (.ref (fA K x)) "__class__") (some (some (.builtin "object.__class__"))) && (He.eqO (PySem.W.specialIn K (.builtin "object.__class__") "__get__") (some (some (.builtin "getset_descriptor.__get__"))) &&
  (decide (PySem.W.takesIn K (.builtin "object.__class__") = some true) && decide (PySem.W.mroIn K (fA K x) (.type "object") = some true)))
theorem insB_ok {K : Fr0} {x : Str} (h : insB x K = true) : InsF K (fA K x) := by
  unfold insB at h
  obtain ⟨h1, h⟩ := He.ba h
  obtain ⟨h2, h⟩ := He.ba h
  obtain ⟨h3, h4⟩ := He.ba h
  exact ⟨He.eqO_ok h1, He.eqO_ok h2, of_decide_eq_true h3, of_decide_eq_true h4⟩
section
variable {X : Cx} {k : Nat} {CX : CXT} {x m : Str} {ps : List Str} {sp : Sp} {p apos pos : Pos} {o e : Expr} {es : List Expr} {te : TE} {ta : TA} {E : XK}
/-- x(e, ..), an instance of an own class -/
theorem pe_mk (M : Mk X.K (fA X.K x) (mA X.K x "__init__")) (G : OkM X.prog X.w X.K X.mg X.base CX k x "__init__" ps sp) (hr : Room (k + 1) X.A) (hx : Passes CX X E) (hm : X.mg x = some (.ref (fA X.K x))) (ha : PA X (e :: es) ta) (hg : Gl X x := by rfl)
    (hdb : (x == ("__debug__" : Str)) = false := by decide) (he : starEach (e :: es) X.env = (false, eval e X.env) :: starEach es X.env := by rfl) (hpl : (backTo pos (starEach es X.env)).any (·.1) = false := by rfl) :
    PE X (.Call (.Name x p) (e :: es) [] pos) (tMake (fA X.K x) sp [] E ta) := by
  obtain ⟨fd, F, b⟩ := G.fn
  exact pe_make M F hr hg hm b .nil hx ha hdb he hpl
/-- o.m(e, ..) -/
theorem pe_m {pl : Sem Bool} {C : Str} (ho : PE X o te) (c : Cls X.K (fA X.K C)) (hm : Meth X.K (fA X.K C) m (mA X.K C m)) (G : OkM X.prog X.w X.K X.mg X.base CX k C m ps sp) (hr : Room k X.A) (hx : Passes CX X E) (ha : PA X (e :: es) ta)
    (hst : starEach (e :: es) X.env = (false, eval e X.env) :: starEach es X.env := by rfl) (hpl : (backTo pos (starEach es X.env)).any (·.1) = false := by rfl)
    (ht : eval (.Call (.Attribute o m apos) (e :: es) [] pos) X.env = (do
      let ov ← eval o X.env
      standAt apos.atName
      let (f, first) ← holding [ov] (getMethod ov m pl)
      callWith pos f first (backTo pos (starEach (e :: es) X.env)) (backToKw pos (keywordEach [] X.env))) := by rfl) :
    PE X (.Call (.Attribute o m apos) (e :: es) [] pos) (tMeth (fA X.K C) m sp [] E te ta) := by
  obtain ⟨fd, F, b⟩ := G.fn
  exact pe_meth ho c hm F hr b .nil hx ha hst hpl ht
/-- o.m() -/
theorem pe_m0 {pl : Sem Bool} {C : Str} (ho : PE X o te) (c : Cls X.K (fA X.K C)) (hm : Meth X.K (fA X.K C) m (mA X.K C m)) (G : OkM X.prog X.w X.K X.mg X.base CX k C m ps sp) (hr : Room k X.A) (hx : Passes CX X E)
    (ht : eval (.Call (.Attribute o m apos) [] [] pos) X.env = (do
      let ov ← eval o X.env
      standAt apos.atName
      let (f, first) ← holding [ov] (getMethod ov m pl)
      callWith pos f first [] (backToKw pos (keywordEach [] X.env))) := by rfl) :
    PE X (.Call (.Attribute o m apos) [] [] pos) (tMeth (fA X.K C) m sp [] E te tNil) := by
  obtain ⟨fd, F, b⟩ := G.fn
  exact pe_meth0 ho c hm F hr b .nil hx ht
/-- o.f, a property -/
theorem pe_prp {C : Str} (ho : PE X o te) (c : Cls X.K (fA X.K C)) (hp : PropOf X.K (fA X.K C) m (mA X.K C m) (gA X.K C m)) (G : OkP X.prog X.w X.K X.mg X.base CX k C m ps sp) (hr : Room (k + 1) X.A) (hx : Passes CX X.nox E)
    (hab : attributeBase o m X.env (eval o X.env) = eval o X.env) : PE X (.Attribute o m pos) (tProp (fA X.K C) sp [] E te) := by
  obtain ⟨fd, F, b⟩ := G.fn
  exact pe_prop ho c hp F hr b .nil hx hab
end
section
variable {K : Fr0} {σ : L2.St} {H : Hp} {Q : VK} {te : TE} {f : Str}
theorem r_fld (h : te σ H fun x H1 => ∃ a C dx fs v, x = .ref a ∧ H1 a = some (.ins C dx fs) ∧ Cls K C ∧ NoAttr K C f ∧ fs.lookup f = some v ∧ Q v H1) : tFld K te f σ H Q := h
theorem r_make {C : Addr} {sp : Sp} {E : XK} {t : TA} (h : t σ H fun vs H1 => ∀ x dx, H1 x = none → H1 dx = none → dx ≠ x →
  sp (.ref x :: (vs ++ [])) (upd (upd H1 dx (.own x)) x (.ins C dx [])) (fun v H2 => v = .non ∧ Q (.ref x) H2) E) : tMake C sp [] E t σ H Q := h
theorem r_sfld {D : Ends} {ta tv : TE} (h : tv σ H fun y H1 => ta σ H1 fun x H2 => ∃ a C dx fs, x = .ref a ∧ H2 a = some (.ins C dx fs) ∧ Cls K C ∧ NoAttr K C f ∧ fs.length < 1000 ∧
  D.nx σ (upd H2 a (.ins C dx (putF f y fs)))) : sFld K ta tv f D σ H := h
theorem r_disp {trs : List (TE × TE)} (h : ∀ p, H p = none → tPairs trs σ (upd H p (.dK [])) fun ps H2 => H2 p = some (.dK []) ∧ ∃ kvs : List (Key × V), ps = kvs.map (fun kv => (kV kv.1, kv.2)) ∧ kvs.length ≤ 15 ∧ Q (.ref p) (upd H2 p (.dK (mergeK [] kvs)))) : tDisp trs σ H Q := h
end
theorem upd_upd {H : Hp} {a : Addr} {x y : HO} : upd (upd H a x) a y = upd H a y := by
  funext b
  by_cases h : b = a
  · subst h
    rw [upd_same, upd_same]
  · rw [upd_ne h, upd_ne h, upd_ne h]
/-- all but what stands at a is kept -/
def But (a : Addr) (H H' : Hp) : Prop := ∀ b o, b ≠ a → H b = some o → H' b = some o
theorem But.refl' {a : Addr} {H : Hp} : But a H H := fun _ _ _ e => e
theorem But.set {a : Addr} {H H' : Hp} {o : HO} (h : But a H H') : But a H (upd H' a o) := fun b u n e => by rw [upd_ne n]; exact h b u n e
theorem But.same {a : Addr} {H H' H2 : Hp} (h : But a H H') (s : Same H' H2) : But a H H2 := fun b u n e => s _ _ (h b u n e)
end Ab
/-! PART calls of an item, own ==, dicts compared. -/
namespace Ab
open PySem PySem.Spec PyProof.Rows L2
/-- (an expression that gives a def)(e, ..) -/
def tCallE (P : Program) (w : World) (K : Fr0) (mg : Str → Option Value) (base : Heap) (k : Nat) (W : WX) (te : TE) (t : TA) : TE := fun σ H Q => te σ H fun x H1 => ∃ (y : Str) (ps : List Str) (sp : Sp), x = .ref (fA K y) ∧ Ok P w K mg base (L2.CX P w) k y ps sp ∧ t σ H1 fun vs H2 => sp vs H2 Q (WE W σ)
section
variable {X : Cx} {k : Nat} {W : WX} {te : TE} {t : TA} {fe e : Expr} {es : List Expr} {pos : Pos}
theorem pe_callE {P : Program} {w : World} {K : Fr0} {mg : Str → Option Value} {base : Heap} (eP : X.prog = P) (ew : X.w = w) (eK : X.K = K) (em : X.mg = mg) (eb : X.base = base) (hf : PE X fe te) (hr : Room k X.A) (tk : Takes X W) (ha : PA X (e :: es) t)
    (hc : eval (.Call fe (e :: es) [] pos) X.env = (do callWith pos (← eval fe X.env) [] (backTo pos (starEach (e :: es) X.env)) (backToKw pos (keywordEach [] X.env))) := by rfl)
    (he : starEach (e :: es) X.env = (false, eval e X.env) :: starEach es X.env := by rfl) (hpl : (backTo pos (starEach es X.env)).any (·.1) = false := by rfl) :
    PE X (.Call fe (e :: es) [] pos) (tCallE P w K mg base k W te t) := by
  subst eP ew eK em eb
  refine ⟨fun pins s σ H Q I h => ?_⟩
  rw [hc]
  refine wpAny_bind (thn (hf.run pins s σ H _ I h) fun u s1 ⟨x, H1, I1, rx, y, ps, sp, ex, G, q⟩ => ?_)
  subst ex
  cases (show u = Value.ref _ from rx)
  obtain ⟨fd, F, b, _⟩ := G.fn
  refine PySem.W.callWith_K (h₀ := X.base) I1.ok.mod.kin G.kp (thn (ha.run pos pins s1 σ H1 _ I1 q) fun us s2 ⟨vs, H2, I2, r, q2⟩ => ⟨I2.kIn, ?_⟩) he hpl
  exact run_fnS F hr b (passAt tk σ) I2 r q2
end
section
variable {K : Fr0} {σ : L2.St} {H : Hp} {Q : VK} {te : TE} {t : TA}
theorem r_callE {P : Program} {w : World} {mg : Str → Option Value} {base : Heap} {k : Nat} {W : WX} (h : te σ H fun x H1 => ∃ (y : Str) (ps : List Str) (sp : Sp), x = .ref (fA K y) ∧ Ok P w K mg base (L2.CX P w) k y ps sp ∧ t σ H1 fun vs H2 => sp vs H2 Q (WE W σ)) : tCallE P w K mg base k W te t σ H Q := h
end
/-! ### == by an own def -/
def rOwnI (K : Fr0) (C : Addr) (sp : Sp) (E : XK) : R2 := fun x y H Q => ∃ a dx fs tb, x = .ref a ∧ H a = some (.ins C dx fs) ∧ TyX K H y tb ∧ PySem.W.notFirst K C tb = true ∧ sp [x, y] H Q E
section
variable {X : Cx} {CX : CXT} {k : Nat} {x m : Str} {ps : List Str} {sp : Sp} {E : XK} {te : TE} {ta : TA}
theorem op_ownI {op : CmpOp} (hm : Meth X.K (fA X.K x) m (mA X.K x m)) (hop : ∀ a b, compareOp op a b = richCompare op a b) (hs : (cmpInfo op).2.1 = m) (G : OkM X.prog X.w X.K X.mg X.base CX k x m ps sp) (hr : Room k X.A) (hx : Passes CX X E) :
    OpR X (compareOp op) (rOwnI X.K (fA X.K x) sp E) := by
  intro pins s σ H x1 y v u Q I rx ry h
  obtain ⟨a, dx, fs, tb, rfl, ha, ty, hn, q⟩ := h
  cases (show v = Value.ref a from rx)
  obtain ⟨mA, O, _⟩ := ins_get I.hok ha
  obtain ⟨od, J, _⟩ := O.look
  obtain ⟨P, Z, p, _⟩ := kit_of I ry ty
  obtain ⟨fd, F, b⟩ := G.fn
  obtain ⟨mm, hF⟩ := I.fr
  rw [hop]
  refine PySem.W.cmp_K (op := op) (tb := tb) hr.units0 hF I.ok.mod.kin J (Z.ty _ _ I.kIn p) hn (by rw [hs]; exact hm.at_) hm.fn ?_
  have e0 : sp ([V.ref a, y] ++ []) H Q E := q
  refine wpAny_mono (run_fn (us := [.ref a, u]) F hr b .nil hx I (.cons (show RelV (V.ref a) (Value.ref a) from rfl) (.cons ry .nil)) e0) (fun w s' z => ?_) fun _ _ x => x
  obtain ⟨z', H', I', rz, qz⟩ := z
  exact SlX.cmpback rz ⟨z', H', I', rz, qz⟩
end
/-! ### dicts of whole numbers compared -/
theorem eqAt_int {A : Around} {s : Shared} {i j : Int} {u u' : Value} (r : RelV (.int i) u) (r' : RelV (.int j) u') : SeqAt.EqAt A s u u' (i == j) := by
  obtain ⟨t, rfl⟩ := (show ∃ t, u = Value.int i t from r)
  obtain ⟨t', rfl⟩ := (show ∃ t, u' = Value.int j t from r')
  exact SeqAt.EqAt.int_int i t j t'
theorem hits_int {κ : Type} [DecidableEq κ] {A : Around} {s : Shared} {kvs : List (κ × V)} {vb : List (κ × Value)} (rb : KV kvs vb) : ∀ {ts : List (κ × Int × Int)} {va : List (κ × Value)}, KV (ts.map fun t => (t.1, V.int t.2.1)) va →
    (∀ t ∈ ts, valV kvs t.1 = some (.int t.2.2)) → PySem.W.KeqHits A s vb va (ts.all fun t => t.2.1 == t.2.2)
  | [], va, ra, _ => by
    unfold KV at ra
    cases ra
    exact .nil
  | t :: ts, va, ra, hp => by
    unfold KV at ra
    rw [List.map_cons] at ra
    cases ra with
    | @cons _ q _ qs h r =>
      obtain ⟨h1, h2⟩ := h
      have rr : RelO (some (V.int t.2.2)) (valueAt vb t.1) := by rw [← hp t List.mem_cons_self]; exact rb.val t.1
      obtain ⟨y, hy, ry⟩ := rr.some_of
      obtain ⟨k, v⟩ := q
      have h1' : t.1 = k := h1
      rw [h1'] at hy
      rw [List.all_cons]
      exact .hit hy (eqAt_int h2 ry) (hits_int rb r fun p' hm => hp p' (List.mem_cons_of_mem _ hm))
def rEqDI : R2 := fun x y H Q => ∃ (a b : Addr) (ts : List (Key × Int × Int)) (ls : List (Key × V)), x = .ref a ∧ y = .ref b ∧ H a = some (.dK (ts.map fun t => (t.1, V.int t.2.1))) ∧ H b = some (.dK ls) ∧ ls.length = ts.length ∧ (∀ t ∈ ts, valV ls t.1 = some (.int t.2.2)) ∧ Q (.bl (ts.all fun t => t.2.1 == t.2.2)) H
theorem op_eqDI {X : Cx} (hu : X.A.units < cLine) : OpR X (compareOp .Eq) rEqDI := by
  intro pins s σ H x y v u Q I rx ry h
  obtain ⟨a, b, ts, ls, rfl, rfl, ea, eb, hlen, hp, q⟩ := h
  obtain rfl : v = Value.ref a := rx
  obtain rfl : u = Value.ref b := ry
  obtain ⟨_, ya, va, ra, da⟩ := (show ObjOk X.prog X.w H s.heap a (.dK (ts.map fun t => (t.1, V.int t.2.1))) from I.hok a _ ea)
  obtain ⟨_, yb, vb, rb, db⟩ := (show ObjOk X.prog X.w H s.heap b (.dK ls) from I.hok b _ eb)
  have hl : va.length = vb.length := by rw [← ra.length, ← rb.length, List.length_map, hlen]
  exact PySem.W.keq_eq (knd := mixKind X.prog X.w) (r := ts.all fun t => t.2.1 == t.2.2) ya yb da db hu (fun _ => hits_int rb ra hp) (fin_bl I q (by simp [hl]))
/-! ### list(range(..)) -/
section
variable {σ : L2.St} {H : Hp} {Q : VK} {ta tb : TE}
theorem r_lstRg2 (h : ta σ H fun x H1 => tb σ H1 fun y H2 => ∃ i j, x = .int i ∧ y = .int j ∧ RgOk i j ∧ ∀ q, H2 q = none → Q (.ref q) (upd H2 q (.lst (rgV i j)))) : tLstRg (tRg2 ta tb) σ H Q := h
theorem r_lstRg1 (h : ta σ H fun x H1 => ∃ n, x = .int n ∧ RgOk 0 n ∧ ∀ q, H1 q = none → Q (.ref q) (upd H1 q (.lst (rgV 0 n)))) : tLstRg (tRg1 ta) σ H Q := h
theorem r_tupRg2 (h : ta σ H fun x H1 => tb σ H1 fun y H2 => ∃ i j, x = .int i ∧ y = .int j ∧ RgOk i j ∧ ∀ q, H2 q = none → Q (.ref q) (upd H2 q (.tup (rgV i j)))) : tTupRg (tRg2 ta tb) σ H Q := h
end
theorem nat_four {d : Nat} (h : d < 4) : d = 0 ∨ d = 1 ∨ d = 2 ∨ d = 3 := by omega
theorem r_niff {A B : Prop} (h : B) : if (!true) = true then A else B := h
theorem r_nift {A B : Prop} (h : A) : if (!false) = true then A else B := h
/-- a call's wish by a plain one -/
theorem sp_via {sp : Sp} {vs : List V} {H : Hp} {Q : VK} {E : XK} (P : V → Hp → Prop) (h : ∀ Q' : VK, (∀ v H', P v H' → Q' v H') → sp vs H Q' E) (J : ∀ v H', P v H' → Q v H') : sp vs H Q E := h Q J
end Ab
/-! PART makings that may raise. -/
namespace Ab
open PySem PySem.Spec PyProof.Rows L2
/-- what a making asks; what its __init__ lets out is wished for at the slots -/
def tMakeS (C : Addr) (sp : Sp) (E : L2.St → XK) (t : TA) : TE := fun σ H Q => t σ H fun vs H1 => ∀ x dx, H1 x = none → H1 dx = none → dx ≠ x →
  sp (.ref x :: vs) (upd (upd H1 dx (.own x)) x (.ins C dx [])) (fun v H2 => v = .non ∧ Q (.ref x) H2) (E σ)
section
variable {X : Cx} {CX : CXT} {k : Nat} {C fi : Addr} {fd : FuncData} {ps : List Str} {sp : Sp} {E : L2.St → XK} {x m : Str} {p pos apos : Pos} {e o : Expr} {es : List Expr} {te : TE} {ta : TA} {W : WX}
theorem makeS_run {pins : List (Addr × Obj)} {σ : L2.St} {H : Hp} {s : Shared} {Q : VK} {ws : List Value} {vs : List V} (M : Mk X.K C fi) (F : FnOk X.prog X.w X.K X.mg X.base CX k fi fd ps sp) (hr : Room (k + 1) X.A)
    (hb : Binds X.K fd ps []) (hx : PassesAt CX X σ (E σ)) (I : Inv X pins σ H s) (r : Vals vs ws)
    (h : ∀ x dx, H x = none → H dx = none → dx ≠ x → sp (.ref x :: vs) (upd (upd H dx (.own x)) x (.ins C dx [])) (fun v H2 => v = .non ∧ Q (.ref x) H2) (E σ)) :
    wpAny (model X.prog X.w) X.A (call (.ref C) ws) (EP X pins σ Q) X.xe s := by
  obtain ⟨n, en⟩ : ∃ n, n = s.heap.objs.size := ⟨_, rfl⟩
  have q0 := h (n + 1) n (I.hok.fresh (by rw [en]; exact Nat.le_add_right _ 1)) (I.hok.fresh (by rw [en]; exact Nat.le_refl _)) (fun z => Nat.succ_ne_self n z.symm)
  have J := Inv.made (C := C) I
  rw [← en] at J
  have rv : Vals (V.ref (n + 1) :: vs) (Value.ref (n + 1) :: ws) := .cons (show RelV (V.ref (n + 1)) (Value.ref (n + 1)) from rfl) r
  have len : (Value.ref (n + 1) :: ws).length = ps.length := rv.length.symm.trans (F.len _ _ _ _ q0)
  have bd := hb _ (Value.ref (n + 1) :: ws) J.kIn (by rw [List.append_nil]; exact len)
  rw [List.append_nil] at bd
  subst en
  refine wpAny_call (make_map (f := fi) I.kIn M.makes M.init (beq_iff_eq.mp M.fn) ?_)
  refine codeAny_mono (F.run _ X.stack _ _ ⟨_, []⟩ _ _ _ (E σ) (hr.make C ws []) (J.env0.make C ws []) bd rv q0) fun out s' done => ?_
  cases out with
  | error er => exact hx pins _ _ er s' J done
  | ok fl =>
    cases fl with
    | next => exact done.elim
    | brk => exact done.elim
    | cont => exact done.elim
    | ret u =>
      obtain ⟨v, H', J2, rel, rfl, fin⟩ := J.after done
      exact ⟨rel, _, H', J2, (show RelV (V.ref _) (Value.ref _) from rfl), fin⟩
/-- x(e, ..), an instance; what is let out goes on, or is caught -/
theorem pe_mkS (M : Mk X.K (fA X.K x) (mA X.K x "__init__")) (G : OkM X.prog X.w X.K X.mg X.base (L2.CX X.prog X.w) k x "__init__" ps sp) (hr : Room (k + 1) X.A) (tk : Takes X W) (hm : X.mg x = some (.ref (fA X.K x))) (ha : PA X (e :: es) ta) (hg : Gl X x := by rfl)
    (hdb : (x == ("__debug__" : Str)) = false := by decide) (he : starEach (e :: es) X.env = (false, eval e X.env) :: starEach es X.env := by rfl) (hpl : (backTo pos (starEach es X.env)).any (·.1) = false := by rfl) :
    PE X (.Call (.Name x p) (e :: es) [] pos) (tMakeS (fA X.K x) sp (WE W) ta) := by
  obtain ⟨fd, F, b⟩ := G.fn
  constructor
  intro pins s σ H Q I h
  refine wpAny_Call_Name_kw (ld_glob I hg hm ?_ hdb)
  refine PySem.W.callWith_K (h₀ := X.base) I.ok.mod.kin M.kp (thn (ha.run pos pins s σ H _ I h) fun ws s1 got => ?_) he hpl
  obtain ⟨vs, H1, I1, r, q⟩ := got
  exact ⟨I1.kIn, makeS_run M F hr b (passAt tk σ) I1 r q⟩
end
section
variable {σ : L2.St} {H : Hp} {Q : VK} {t : TA}
theorem r_makeS {C : Addr} {sp : Sp} {E : L2.St → XK} (h : t σ H fun vs H1 => ∀ x dx, H1 x = none → H1 dx = none → dx ≠ x →
  sp (.ref x :: vs) (upd (upd H1 dx (.own x)) x (.ins C dx [])) (fun v H2 => v = .non ∧ Q (.ref x) H2) (E σ)) : tMakeS C sp E t σ H Q := h
end
/-- e.f, a property -/
theorem r_prop {C : Addr} {sp : Sp} {dvs : List V} {E : XK} {te : TE} {σ : L2.St} {H : Hp} {Q : VK} (h : te σ H fun x H1 => ∃ a dx fs, x = .ref a ∧ H1 a = some (.ins C dx fs) ∧ sp (.ref a :: dvs) H1 Q E) : tProp C sp dvs E te σ H Q := h
end Ab
/-! PART fractions: their mathematics and sizes, no program in sight. -/
namespace Ab
open PySem PySem.Spec PyProof.Rows L2
/-! ### sizes -/
theorem pow_mono2 {a b : Nat} (h : a ≤ b) : 2 ^ a ≤ 2 ^ b := Nat.pow_le_pow_right (by decide) h
theorem sz_mono {i : Int} {a b : Nat} (h : i.natAbs < 2 ^ a) (hab : a ≤ b) : i.natAbs < 2 ^ b := Nat.lt_of_lt_of_le h (pow_mono2 hab)
theorem sz_mul {i j : Int} {a b : Nat} (ha : i.natAbs < 2 ^ a) (hb : j.natAbs < 2 ^ b) : (i * j).natAbs < 2 ^ (a + b) := wide_lt ha hb
theorem sz_add {i j : Int} {a : Nat} (ha : i.natAbs < 2 ^ a) (hb : j.natAbs < 2 ^ a) : (i + j).natAbs < 2 ^ (a + 1) := by
  have h := Int.natAbs_add_le i j
  rw [Nat.pow_succ]
  omega
theorem sz_sub {i j : Int} {a : Nat} (ha : i.natAbs < 2 ^ a) (hb : j.natAbs < 2 ^ a) : (i - j).natAbs < 2 ^ (a + 1) := by
  have h := Int.natAbs_add_le i (-j)
  rw [Int.natAbs_neg] at h
  rw [Nat.pow_succ, Int.sub_eq_add_neg]
  omega
theorem sz_neg {i : Int} {a : Nat} (ha : i.natAbs < 2 ^ a) : (-i).natAbs < 2 ^ a := by rw [Int.natAbs_neg]; exact ha
theorem mulW_of {i j : Int} {a b : Nat} (ha : i.natAbs < 2 ^ a) (hb : j.natAbs < 2 ^ b) (h : a + b ≤ 900000) : CMulW i j :=
  wide_mul (a := a + 1) (b := b + 1) (sz_mono ha (Nat.le_succ _)) (sz_mono hb (Nat.le_succ _)) (Nat.succ_pos _) (Nat.succ_pos _) (by omega)
theorem divW_of {i j : Int} {b : Nat} (h : 0 < j) (hb : j.natAbs < 2 ^ b) (h9 : b ≤ 8999) : CDivW i j := wide_div (b := b + 1) h (sz_mono hb (Nat.le_succ _)) (Nat.succ_pos _) (by omega)
theorem sz_ediv {i j : Int} {a : Nat} (ha : i.natAbs < 2 ^ a) (h0 : 0 ≤ i) (hj : 0 ≤ j) : (i / j).natAbs < 2 ^ a := by
  obtain ⟨m, rfl⟩ := Int.eq_ofNat_of_zero_le h0
  obtain ⟨n, rfl⟩ := Int.eq_ofNat_of_zero_le hj
  rw [← Int.natCast_ediv]
  rw [Int.natAbs_natCast] at ha ⊢
  exact Nat.lt_of_le_of_lt (Nat.div_le_self m n) ha
theorem sz_emod {i j : Int} {a : Nat} (ha : j.natAbs < 2 ^ a) (hj : 0 < j) : (i % j).natAbs < 2 ^ a := by
  have h1 := Int.emod_nonneg i (show j ≠ 0 by omega)
  have h2 := Int.emod_lt_of_pos i hj
  omega

/-! ### the greatest common divisor -/
theorem gcd_turn {a b : Int} : Int.gcd b (a - a / b * b) = Int.gcd a b := by
  rw [Int.gcd_comm b]
  exact Int.gcd_sub_mul_right_left b a (a / b)
theorem gcd_turn' {a b : Int} : Int.gcd b (a % b) = Int.gcd a b := by
  rw [show a % b = a - a / b * b from by rw [Int.emod_def, Int.mul_comm b]]
  exact gcd_turn
theorem gcd_abs (a b : Int) : Int.gcd (a.natAbs : Int) (b.natAbs : Int) = Int.gcd a b := by unfold Int.gcd; rw [Int.natAbs_natCast, Int.natAbs_natCast]
theorem sub_div_eq {a b : Int} : a - a / b * b = a % b := by rw [Int.emod_def, Int.mul_comm b]

/-! ### fractions as rational numbers -/
/-- the tuple of a fraction -/
abbrev fr (q : Rat) : PyData := pr q.num (q.den : Int)
theorem num_of {n d : Int} (h : 0 < d) : (Rat.divInt n d).num = n / (Int.gcd n d : Int) := by
  rw [Rat.num_divInt, Int.sign_eq_one_of_pos h, Int.one_mul, Int.gcd_comm]
theorem den_of {n d : Int} (h : 0 < d) : (((Rat.divInt n d).den : Nat) : Int) = d / (Int.gcd n d : Int) := by
  rw [Rat.den_divInt, if_neg (by omega), Int.gcd_comm]
  obtain ⟨m, rfl⟩ := Int.eq_ofNat_of_zero_le (Int.le_of_lt h)
  rw [Int.natAbs_natCast, Int.natCast_ediv]
theorem divInt_negneg (n d : Int) : Rat.divInt (-n) (-d) = Rat.divInt n d := Rat.neg_divInt_neg n d
theorem q_eq (q : Rat) : Rat.divInt q.num q.den = q := Rat.num_divInt_den q
theorem den_pos (q : Rat) : (0 : Int) < q.den := by have := q.den_pos; omega
theorem den_ne (q : Rat) : ((q.den : Nat) : Int) ≠ 0 := by have := q.den_pos; omega
theorem int_num (i : Int) : ((i : Rat)).num = i := rfl
theorem int_den (i : Int) : ((i : Rat)).den = 1 := rfl
theorem fr_int (i : Int) : fr (i : Rat) = pr i 1 := rfl
theorem fr_inj {p q : Rat} (h : fr p = fr q) : p = q := by
  have h1 : p.num = q.num := by injection h with h; injection h with h _; injection h
  have h2 : (p.den : Int) = q.den := by injection h with h; injection h with _ h; injection h with h _; injection h
  exact Rat.ext h1 (by exact_mod_cast h2)
theorem divInt_sub_divInt (a c : Int) {b d : Int} (hb : b ≠ 0) (hd : d ≠ 0) : Rat.divInt a b - Rat.divInt c d = Rat.divInt (a * d - c * b) (b * d) := by
  rw [Rat.sub_eq_add_neg, Rat.neg_divInt, Rat.divInt_add_divInt _ _ hb hd, Int.neg_mul, ← Int.sub_eq_add_neg]
theorem divInt_div_divInt (a b c d : Int) : Rat.divInt a b / Rat.divInt c d = Rat.divInt (a * d) (b * c) := by
  rw [Rat.div_def, Rat.inv_divInt, Rat.divInt_mul_divInt]
/-- a size of a fraction -/
structure Sz (q : Rat) (k : Nat) : Prop where
  n : q.num.natAbs < 2 ^ k
  d : q.den < 2 ^ k
theorem Sz.d' {q : Rat} {k : Nat} (h : Sz q k) : ((q.den : Nat) : Int).natAbs < 2 ^ k := by rw [Int.natAbs_natCast]; exact h.d
theorem Sz.mono {q : Rat} {a b : Nat} (h : Sz q a) (hab : a ≤ b) : Sz q b := ⟨sz_mono h.n hab, Nat.lt_of_lt_of_le h.d (pow_mono2 hab)⟩
theorem gcd_pos {n d : Int} (h : d ≠ 0) : 0 < Int.gcd n d := Nat.pos_of_ne_zero (fun e => h (Int.gcd_eq_zero_iff.mp e).2)
theorem sz_divInt {n d : Int} {k : Nat} (hd : d ≠ 0) (h1 : n.natAbs < 2 ^ k) (h2 : d.natAbs < 2 ^ k) : Sz (Rat.divInt n d) k := by
  have key : ∀ {n d : Int}, 0 < d → n.natAbs < 2 ^ k → d.natAbs < 2 ^ k → Sz (Rat.divInt n d) k := by
    intro n d hd h1 h2
    have g : (0 : Int) < (Int.gcd n d : Int) := by have := gcd_pos (n := n) (d := d) (by omega); omega
    constructor
    · rw [num_of hd]
      refine Nat.lt_of_le_of_lt ?_ h1
      exact Int.natAbs_ediv_le_natAbs n _
    · have e := den_of (n := n) hd
      have z : ((Rat.divInt n d).den : Int) ≤ d := by
        rw [e]
        exact Int.ediv_le_self _ (Int.le_of_lt hd)
      omega
  rcases Int.lt_or_gt_of_ne hd with h | h
  · rw [← divInt_negneg]
    exact key (by omega) (by rw [Int.natAbs_neg]; exact h1) (by rw [Int.natAbs_neg]; exact h2)
  · exact key h h1 h2
theorem Sz.add {p q : Rat} {a b : Nat} (hp : Sz p a) (hq : Sz q b) : Sz (p + q) (a + b + 1) := by
  rw [← q_eq p, ← q_eq q, Rat.divInt_add_divInt _ _ (den_ne p) (den_ne q)]
  have d1 := sz_mul hp.d' hq.d'
  refine sz_divInt (Int.mul_ne_zero (den_ne p) (den_ne q)) ?_ (sz_mono d1 (Nat.le_succ _))
  exact sz_add (sz_mul hp.n hq.d') (by have z := sz_mul hq.n hp.d'; rw [Nat.add_comm] at z; exact z)
theorem Sz.mul {p q : Rat} {a b : Nat} (hp : Sz p a) (hq : Sz q b) : Sz (p * q) (a + b) := by
  rw [← q_eq p, ← q_eq q, Rat.divInt_mul_divInt]
  exact sz_divInt (Int.mul_ne_zero (den_ne p) (den_ne q)) (sz_mul hp.n hq.n) (sz_mul hp.d' hq.d')
theorem Sz.int {i : Int} {k : Nat} (h : i.natAbs < 2 ^ k) (hk : 0 < k) : Sz (i : Rat) k := ⟨h, by show 1 < 2 ^ k; exact Nat.one_lt_two_pow (by omega)⟩
theorem Sz.neg {p : Rat} {a : Nat} (hp : Sz p a) : Sz (-p) a := ⟨by rw [Rat.neg_num, Int.natAbs_neg]; exact hp.n, by rw [Rat.neg_den]; exact hp.d⟩
/-! ### promises of the fractions' defs -/
/-- a tuple of a fraction -/
def NewFr (K : Fr0) (H : Hp) (Q : VK) (q : Rat) : Prop := ∀ u H', Same H H' → Dp K H' u (fr q) → Q u H'
/-- two fractions, handed in as tuples -/
def TwoFr (K : Fr0) (H : Hp) (vs : List V) (a b c d : Int) (k l : Nat) : Prop := ∃ u v, vs = [u, v] ∧ Dp K H u (pr a b) ∧ Dp K H v (pr c d) ∧
  (b ≠ 0 ∧ d ≠ 0) ∧ a.natAbs < 2 ^ k ∧ b.natAbs < 2 ^ k ∧ c.natAbs < 2 ^ l ∧ d.natAbs < 2 ^ l ∧ k + l + 1 ≤ 8999
/-- two fractions in lowest terms -/
theorem TwoFr.of {K : Fr0} {H : Hp} {u v : V} {p q : Rat} {k l : Nat} (h1 : Dp K H u (fr p)) (h2 : Dp K H v (fr q)) (s1 : Sz p k) (s2 : Sz q l) (h : k + l + 1 ≤ 8999) : TwoFr K H [u, v] p.num p.den q.num q.den k l :=
  ⟨u, v, rfl, h1, h2, ⟨den_ne p, den_ne q⟩, s1.n, s1.d', s2.n, s2.d', h⟩
/-- a list of fractions whose sums stay small -/
structure SumSz (qs : List Rat) (k l : Nat) : Prop where
  part : ∀ i, i ≤ qs.length → Sz (qs.take i).sum k
  each : ∀ q ∈ qs, Sz q l
  fits : k + l + 1 ≤ 8999
theorem sum_app_one (qs : List Rat) (x : Rat) : (qs ++ [x]).sum = qs.sum + x := by
  induction qs with
  | nil => rw [List.nil_append, List.sum_cons, List.sum_nil]; grind
  | cons a l ih => rw [List.cons_append, List.sum_cons, List.sum_cons, ih]; grind
theorem sum_take_succ (qs : List Rat) (i : Nat) (h : i < qs.length) : (qs.take (i + 1)).sum = (qs.take i).sum + qs[i] := by
  rw [List.take_succ_eq_append_getElem h, sum_app_one]
/-- a tuple of a fraction, in lowest terms or not -/
def FrAt (K : Fr0) (H : Hp) (u : V) (q : Rat) (k : Nat) : Prop := ∃ a b : Int, Dp K H u (pr a b) ∧ 0 < b ∧ q = Rat.divInt a b ∧ a.natAbs < 2 ^ k ∧ b.natAbs < 2 ^ k
theorem FrAt.of {K : Fr0} {H : Hp} {u : V} {q : Rat} {k : Nat} (h : Dp K H u (fr q)) (s : Sz q k) : FrAt K H u q k := ⟨q.num, q.den, h, den_pos q, (q_eq q).symm, s.n, s.d'⟩
theorem FrAt.raw {K : Fr0} {H : Hp} {u : V} {a b : Int} {k : Nat} (h : Dp K H u (pr a b)) (b0 : 0 < b) (sa : a.natAbs < 2 ^ k) (sb : b.natAbs < 2 ^ k) : FrAt K H u (Rat.divInt a b) k := ⟨a, b, h, b0, rfl, sa, sb⟩
theorem FrAt.same {K : Fr0} {H H' : Hp} {u : V} {q : Rat} {k : Nat} (s : Same H H') (h : FrAt K H u q k) : FrAt K H' u q k := by
  obtain ⟨a, b, d, r⟩ := h
  exact ⟨a, b, dp_same s d, r⟩
theorem divInt_nat (a b : Nat) : Rat.divInt (a : Int) (b : Int) = (a : Rat) / (b : Rat) := Rat.divInt_eq_div a b
theorem divInt_one : Rat.divInt 1 1 = 1 := rfl
theorem divInt_div {a b : Int} : Rat.divInt a b = (a : Rat) / (b : Rat) := Rat.divInt_eq_div a b
theorem SumSz.of {qs : List Rat} {l m : Nat} (h : ∀ q ∈ qs, Sz q l) (len : qs.length ≤ m) (f : (l + 1) * m + 1 + l + 1 ≤ 8999) : SumSz qs ((l + 1) * m + 1) l := by
  refine ⟨fun i hi => ?_, h, f⟩
  have key : ∀ i, i ≤ qs.length → Sz (qs.take i).sum ((l + 1) * i + 1) := by
    intro i
    induction i with
    | zero => intro _; rw [List.take_zero, List.sum_nil]; exact Sz.int (i := 0) (Nat.two_pow_pos _) (by omega)
    | succ i ih =>
      intro hi
      rw [sum_take_succ qs i hi]
      have z := (ih (by omega)).add (h qs[i] (List.getElem_mem _))
      exact z.mono (by rw [Nat.mul_succ]; omega)
  exact (key i hi).mono (Nat.succ_le_succ (Nat.mul_le_mul_left _ (by omega)))
theorem nol_fr (q : Rat) : nol (fr q) = true := nol_pr _ _
theorem sh_frs (l : List Rat) : SeqAt.shaped (.list (l.map fr)) = true := sh_prs (fun q : Rat => q.num) (fun q => (q.den : Int)) l
theorem natI {x : Nat} {b : Nat} (h : x ≤ 2 ^ b) : ((x : Nat) : Int).natAbs < 2 ^ (b + 1) := by rw [Int.natAbs_natCast, Nat.pow_succ]; have := Nat.two_pow_pos b; omega
theorem divInt_by1 (i : Int) : Rat.divInt i 1 = (i : Rat) := by
  rw [Rat.divInt_eq_div, show ((1 : Int) : Rat) = 1 from rfl]
  grind
end Ab
/-! PART parts: what times M is whole; sizes by it. -/
namespace Ab
open PySem PySem.Spec PyProof.Rows L2
/-- q times M is a whole number -/
def Zd (q : Rat) (M : Nat) : Prop := ∃ z : Int, q * (M : Rat) = (z : Rat)
theorem natq_ne {m : Nat} (h : 0 < m) : (m : Rat) ≠ 0 := by
  intro z
  have : (m : Rat) = ((0 : Nat) : Rat) := z
  have := Rat.natCast_inj.mp this
  omega
theorem natq_pos {m : Nat} (h : 0 < m) : (0 : Rat) < (m : Rat) := by
  have h2 : ((0 : Nat) : Rat) < (m : Rat) := Rat.natCast_lt_natCast.mpr h
  exact h2
theorem Zd.add {p q : Rat} {M : Nat} (hp : Zd p M) (hq : Zd q M) : Zd (p + q) M := by
  obtain ⟨a, ha⟩ := hp
  obtain ⟨b, hb⟩ := hq
  exact ⟨a + b, by rw [Rat.add_mul, ha, hb, Rat.intCast_add]⟩
theorem Zd.int (i : Int) (M : Nat) : Zd (i : Rat) M := ⟨i * M, by rw [Rat.intCast_mul]; rfl⟩
theorem Zd.nat (i : Nat) (M : Nat) : Zd (i : Rat) M := Zd.int i M
theorem Zd.imul {q : Rat} {M : Nat} (i : Int) (h : Zd q M) : Zd ((i : Rat) * q) M := by
  obtain ⟨a, ha⟩ := h
  exact ⟨i * a, by rw [Rat.mul_assoc, ha, Rat.intCast_mul]⟩
theorem Zd.nmul {q : Rat} {M : Nat} (i : Nat) (h : Zd q M) : Zd ((i : Rat) * q) M := Zd.imul (i : Int) h
theorem Zd.mul {p q : Rat} {M N : Nat} (hp : Zd p M) (hq : Zd q N) : Zd (p * q) (M * N) := by
  obtain ⟨a, ha⟩ := hp
  obtain ⟨b, hb⟩ := hq
  refine ⟨a * b, ?_⟩
  rw [Rat.natCast_mul, Rat.intCast_mul, ← ha, ← hb]
  grind
theorem Zd.dvd {q : Rat} {M N : Nat} (h : Zd q M) (d : M ∣ N) : Zd q N := by
  obtain ⟨a, ha⟩ := h
  obtain ⟨c, rfl⟩ := d
  exact ⟨a * c, by rw [Rat.natCast_mul, ← Rat.mul_assoc, ha, Rat.intCast_mul]; rfl⟩
theorem Zd.div {q : Rat} {M m : Nat} (hm : 0 < m) (h : Zd q M) : Zd (q / (m : Rat)) (M * m) := by
  obtain ⟨a, ha⟩ := h
  refine ⟨a, ?_⟩
  have := natq_ne hm
  rw [Rat.natCast_mul, ← ha]
  grind
theorem Zd.sum {M : Nat} : ∀ {l : List Rat}, (∀ q ∈ l, Zd q M) → Zd l.sum M
  | [], _ => by rw [List.sum_nil]; exact Zd.int 0 M
  | q :: l, h => by
    rw [List.sum_cons]
    exact (h q List.mem_cons_self).add (Zd.sum fun p hp => h p (List.mem_cons_of_mem _ hp))
theorem Zd.sz {q : Rat} {M B k : Nat} (h : Zd q M) (hM : 0 < M) (h1 : -(B : Rat) ≤ q) (h2 : q ≤ (B : Rat)) (hk : B * M < 2 ^ k) (hk2 : M < 2 ^ k) : Sz q k := by
  obtain ⟨z, hz⟩ := h
  have m0 := natq_ne hM
  have mp := natq_pos hM
  have e : q = Rat.divInt z M := by
    have e1 : q = (z : Rat) / (M : Rat) := by rw [← hz]; grind
    rw [e1, Rat.divInt_eq_div]
    rfl
  have b1 : z ≤ (B * M : Nat) := by
    have : (z : Rat) ≤ ((B * M : Nat) : Int) := by
      rw [← hz]
      have := Rat.mul_le_mul_of_nonneg_right h2 (Rat.le_of_lt mp)
      rw [show (((B * M : Nat) : Int) : Rat) = (B : Rat) * (M : Rat) from Rat.natCast_mul B M]
      exact this
    exact Rat.intCast_le_intCast.mp this
  have b2 : -((B * M : Nat) : Int) ≤ z := by
    have : ((-((B * M : Nat) : Int) : Int) : Rat) ≤ (z : Rat) := by
      rw [← hz]
      have := Rat.mul_le_mul_of_nonneg_right h1 (Rat.le_of_lt mp)
      rw [Rat.intCast_neg, show (((B * M : Nat) : Int) : Rat) = (B : Rat) * (M : Rat) from Rat.natCast_mul B M, ← Rat.neg_mul]
      exact this
    exact Rat.intCast_le_intCast.mp this
  rw [e]
  exact sz_divInt (by omega) (by omega) (by rw [Int.natAbs_natCast]; exact hk2)
end Ab
/-! PART together: the mean number of packs until none came never or once. -/
namespace Ab
open PySem PySem.Spec PyProof.Rows L2
/-- i never came, j came once -/
def tgF (n : Nat) : Nat → Nat → Rat
  | 0, 0 => 0
  | 0, j + 1 => ((n : Rat) + ((j + 1 : Nat) : Rat) * tgF n 0 j) / ((j + 1 : Nat) : Rat)
  | i + 1, 0 => ((n : Rat) + ((i + 1 : Nat) : Rat) * tgF n i 1) / ((i + 1 : Nat) : Rat)
  | i + 1, j + 1 => ((n : Rat) + ((i + 1 : Nat) : Rat) * tgF n i (j + 2) + ((j + 1 : Nat) : Rat) * tgF n (i + 1) j) / ((i + 1 + (j + 1) : Nat) : Rat)
termination_by i j => (i, j)
theorem rat_div_nonneg {a b : Rat} (ha : 0 ≤ a) (hb : 0 < b) : 0 ≤ a / b := by
  rw [Rat.div_def]
  exact Rat.mul_nonneg ha (Rat.le_of_lt (Rat.inv_pos.mpr hb))
theorem rat_div_le {a b c : Rat} (h : a ≤ c * b) (hb : 0 < b) : a / b ≤ c := by
  have e : a = a / b * b := by have := Rat.ne_of_gt hb; grind
  by_cases q : a / b ≤ c
  · exact q
  · exfalso
    have lt : c < a / b := Rat.not_le.mp q
    have := (Rat.mul_lt_mul_right hb).mpr lt
    rw [← e] at this
    exact absurd h (Rat.not_le.mpr this)
theorem nat_nonneg (n : Nat) : (0 : Rat) ≤ (n : Rat) := by
  have h : ((0 : Nat) : Rat) ≤ (n : Rat) := Rat.natCast_le_natCast.mpr (Nat.zero_le n)
  exact h
theorem nat_cast_add (a b : Nat) : ((a + b : Nat) : Rat) = (a : Rat) + (b : Rat) := Rat.natCast_add a b
theorem nat_cast_mul (a b : Nat) : ((a * b : Nat) : Rat) = (a : Rat) * (b : Rat) := Rat.natCast_mul a b
/-- its bounds -/
theorem tgF_bd (n : Nat) : ∀ i j : Nat, 0 ≤ tgF n i j ∧ tgF n i j ≤ ((n * (2 * i + j) : Nat) : Rat) := by
  intro i j
  induction i, j using tgF.induct with
  | case1 =>
    rw [tgF]
    exact ⟨by decide, nat_nonneg _⟩
  | case2 j ih =>
    rw [tgF]
    have p := natq_pos (m := j + 1) (Nat.succ_pos _)
    have n0 := nat_nonneg n
    have j0 := nat_nonneg j
    refine ⟨rat_div_nonneg (Rat.add_nonneg n0 (Rat.mul_nonneg (Rat.le_of_lt p) ih.1)) p, rat_div_le ?_ p⟩
    have m := Rat.mul_le_mul_of_nonneg_left ih.2 (Rat.le_of_lt p)
    have m0 := Rat.mul_nonneg n0 j0
    simp only [nat_cast_add, nat_cast_mul] at m p ⊢
    have e1 : ((0 : Nat) : Rat) = 0 := rfl
    have e2 : ((1 : Nat) : Rat) = 1 := rfl
    simp only [e1, e2] at m p ⊢
    grind
  | case3 i ih =>
    rw [tgF]
    have p := natq_pos (m := i + 1) (Nat.succ_pos _)
    have n0 := nat_nonneg n
    have j0 := nat_nonneg i
    refine ⟨rat_div_nonneg (Rat.add_nonneg n0 (Rat.mul_nonneg (Rat.le_of_lt p) ih.1)) p, rat_div_le ?_ p⟩
    have m := Rat.mul_le_mul_of_nonneg_left ih.2 (Rat.le_of_lt p)
    have m0 := Rat.mul_nonneg n0 j0
    simp only [nat_cast_add, nat_cast_mul] at m p ⊢
    have e1 : ((0 : Nat) : Rat) = 0 := rfl
    have e2 : ((1 : Nat) : Rat) = 1 := rfl
    have e3 : ((2 : Nat) : Rat) = 2 := rfl
    simp only [e1, e2, e3] at m p ⊢
    grind
  | case4 i j ih1 ih2 =>
    rw [tgF]
    have p := natq_pos (m := i + 1 + (j + 1)) (by omega)
    have p1 := natq_pos (m := i + 1) (by omega)
    have p2 := natq_pos (m := j + 1) (by omega)
    have n0 := nat_nonneg n
    have i0 := nat_nonneg i
    have j0 := nat_nonneg j
    refine ⟨rat_div_nonneg (Rat.add_nonneg (Rat.add_nonneg n0 (Rat.mul_nonneg (Rat.le_of_lt p1) ih1.1)) (Rat.mul_nonneg (Rat.le_of_lt p2) ih2.1)) p, rat_div_le ?_ p⟩
    have a := Rat.mul_le_mul_of_nonneg_left ih1.2 (Rat.le_of_lt p1)
    have b := Rat.mul_le_mul_of_nonneg_left ih2.2 (Rat.le_of_lt p2)
    have m1 := Rat.mul_nonneg n0 i0
    have m2 := Rat.mul_nonneg n0 j0
    simp only [nat_cast_add, nat_cast_mul] at a b p ⊢
    have e2 : ((1 : Nat) : Rat) = 1 := rfl
    have e3 : ((2 : Nat) : Rat) = 2 := rfl
    simp only [e2, e3] at a b p ⊢
    grind
/-- its parts: D a multiple of all numbers up to n -/
theorem tgF_zd {n D : Nat} (hD : ∀ m, 0 < m → m ≤ n → m ∣ D) : ∀ i j : Nat, i + j ≤ n → Zd (tgF n i j) (D ^ (2 * i + j)) := by
  intro i j
  induction i, j using tgF.induct with
  | case1 =>
    intro _
    rw [tgF]
    exact Zd.int 0 _
  | case2 j ih =>
    intro h
    rw [tgF]
    have z := ((Zd.nat n _).add (Zd.nmul (j + 1) (ih (by omega)))).div (m := j + 1) (Nat.succ_pos _)
    refine z.dvd ?_
    rw [show 2 * 0 + (j + 1) = (2 * 0 + j) + 1 by omega, Nat.pow_succ]
    exact Nat.mul_dvd_mul_left _ (hD _ (Nat.succ_pos _) (by omega))
  | case3 i ih =>
    intro h
    rw [tgF]
    have z := ((Zd.nat n _).add (Zd.nmul (i + 1) (ih (by omega)))).div (m := i + 1) (Nat.succ_pos _)
    refine z.dvd ?_
    rw [show 2 * (i + 1) + 0 = (2 * i + 1) + 1 by omega, Nat.pow_succ]
    exact Nat.mul_dvd_mul_left _ (hD _ (Nat.succ_pos _) (by omega))
  | case4 i j ih1 ih2 =>
    intro h
    rw [tgF]
    have z1 := Zd.nmul (i + 1) (ih1 (by omega))
    have z2 := Zd.nmul (j + 1) (ih2 (by omega))
    rw [show 2 * i + (j + 2) = 2 * (i + 1) + j by omega] at z1
    have z := (((Zd.nat n _).add z1).add z2).div (m := i + 1 + (j + 1)) (by omega)
    refine z.dvd ?_
    rw [show 2 * (i + 1) + (j + 1) = (2 * (i + 1) + j) + 1 by omega, Nat.pow_succ]
    exact Nat.mul_dvd_mul_left _ (hD _ (by omega) (by omega))
/-- its size, up to fourteen pictures -/
theorem tgF_sz {n i j : Nat} (hn : n ≤ 14) (h : i + j ≤ n) : Sz (tgF n i j) 1200 := by
  have hD : ∀ m, 0 < m → m ≤ n → m ∣ 360360 := by
    intro m h0 h1
    have : m ≤ 14 := by omega
    have key : ∀ m : Nat, m < 15 → 0 < m → m ∣ 360360 := by decide
    exact key m (by omega) h0
  have b := tgF_bd n i j
  have z := tgF_zd hD i j h
  have w : 2 * i + j ≤ 28 := by omega
  have d1 : 360360 ^ (2 * i + j) ≤ 360360 ^ 28 := Nat.pow_le_pow_right (by decide) w
  have d2 : n * (2 * i + j) ≤ 14 * 28 := Nat.mul_le_mul hn w
  refine z.sz (B := n * (2 * i + j)) (Nat.pow_pos (by decide)) ?_ b.2 ?_ (Nat.lt_of_le_of_lt d1 (by decide +kernel))
  · exact Rat.le_trans (by have := nat_nonneg (n * (2 * i + j)); grind) b.1
  · exact Nat.lt_of_le_of_lt (Nat.mul_le_mul d2 d1) (by decide +kernel)
theorem tgF_eq (n i j : Nat) : tgF n i j = (((if 0 < i + j then n else 0 : Nat) : Rat) + (i : Rat) * tgF n (i - 1) (j + 1) + (j : Rat) * tgF n i (j - 1)) / ((max 1 (i + j) : Nat) : Rat) := by
  have z : ((0 : Nat) : Rat) = 0 := rfl
  cases i with
  | zero =>
    cases j with
    | zero =>
      rw [tgF, if_neg (by decide), z]
      grind
    | succ j =>
      rw [tgF, if_pos (by omega), z, show max 1 (0 + (j + 1)) = j + 1 by omega, show j + 1 - 1 = j by omega]
      grind
  | succ i =>
    cases j with
    | zero =>
      rw [tgF, if_pos (by omega), z, show max 1 (i + 1 + 0) = i + 1 by omega, show i + 1 - 1 = i by omega]
      grind
    | succ j =>
      rw [tgF, if_pos (by omega), show max 1 (i + 1 + (j + 1)) = i + 1 + (j + 1) by omega, show i + 1 - 1 = i by omega, show j + 1 - 1 = j by omega]
/-- a row, the rows -/
def tgRow (n i m : Nat) : List PyData := (List.range m).map fun b => fr (tgF n i b)
def tgRows (n i : Nat) : List PyData := (List.range i).map fun a => .list (tgRow n a (n - a + 1))
theorem range_map_succ {α : Type} (f : Nat → α) (m : Nat) : (List.range (m + 1)).map f = (List.range m).map f ++ [f m] := by rw [List.range_succ, List.map_append]; rfl
theorem range_map_at {α : Type} (f : Nat → α) {m k : Nat} (h : k < m) : ((List.range m).map f)[k]? = some (f k) := by simp [h]
end Ab
/-! PART pairs: packs of two unlike pictures. -/
namespace Ab
open PySem PySem.Spec PyProof.Rows L2
/-- the mean number of packs, l of n are lacking -/
def prF (n : Nat) : Nat → Rat
  | 0 => 0
  | 1 => ((n * (n - 1) : Nat) : Rat) / ((2 * 1 * (n - 1) : Nat) : Rat)
  | l + 2 => (((n * (n - 1) : Nat) : Rat) + ((2 * (l + 2) * (n - (l + 2)) : Nat) : Rat) * prF n (l + 1) + (((l + 2) * (l + 1) : Nat) : Rat) * prF n l) / (((l + 2) * (l + 1) + 2 * (l + 2) * (n - (l + 2)) : Nat) : Rat)
theorem prF_eq {n l : Nat} (h : 0 < l) : prF n l = (((n * (n - 1) : Nat) : Rat) + ((2 * l * (n - l) : Nat) : Rat) * prF n (l - 1) + ((l * (l - 1) : Nat) : Rat) * prF n (l - 2)) / ((l * (l - 1) + 2 * l * (n - l) : Nat) : Rat) := by
  match l, h with
  | 1, _ =>
    rw [prF, show (1 : Nat) - 1 = 0 from rfl, prF, show 1 * 0 + 2 * 1 * (n - 1) = 2 * 1 * (n - 1) by omega]
    grind
  | l + 2, _ =>
    rw [prF, show l + 2 - 1 = l + 1 from rfl, show l + 2 - 2 = l from rfl]
theorem pr_pos {n l : Nat} (h : 0 < l) (hn : l ≤ n) (n2 : 2 ≤ n) : 0 < l * (l - 1) + 2 * l * (n - l) := by
  by_cases e : l = 1
  · subst e
    omega
  · have : 0 < l * (l - 1) := Nat.mul_pos h (by omega)
    omega
/-- the parts of one of the first l -/
def prD (n : Nat) : Nat → Nat
  | 0 => 1
  | l + 1 => prD n l * ((l + 1) * l + 2 * (l + 1) * (n - (l + 1)))
theorem prD_dvd (n l : Nat) : prD n (l - 1) ∣ prD n l := by
  cases l with
  | zero => exact Nat.dvd_refl _
  | succ l => exact Nat.dvd_mul_right _ _
theorem prF_zd {n : Nat} (n2 : 2 ≤ n) : ∀ l, l ≤ n → Zd (prF n l) (prD n l)
  | 0, _ => Zd.int 0 _
  | 1, h => by
    rw [prF, prD, prD]
    have z := (Zd.nat (n * (n - 1)) 1).div (m := 2 * 1 * (n - 1)) (by omega)
    refine z.dvd ?_
    rw [show (0 + 1) * 0 + 2 * (0 + 1) * (n - (0 + 1)) = 2 * 1 * (n - 1) by omega]
    exact Nat.dvd_refl _
  | l + 2, h => by
    rw [prF]
    have z1 := prF_zd n2 (l + 1) (by omega)
    have z2 := (prF_zd n2 l (by omega)).dvd (prD_dvd n (l + 1))
    exact (((Zd.nat _ _).add (Zd.nmul _ z1)).add (Zd.nmul _ z2)).div (pr_pos (l := l + 2) (by omega) h n2)
theorem prF_bd {n : Nat} (n2 : 2 ≤ n) : ∀ l, l ≤ n → 0 ≤ prF n l ∧ prF n l ≤ ((n * (n - 1) * l : Nat) : Rat) := by
  have step : ∀ (E S B : Nat) (x y c : Rat), 0 < B + S → 0 ≤ x → 0 ≤ y → x ≤ c → y ≤ c →
      0 ≤ ((E : Rat) + (S : Rat) * x + (B : Rat) * y) / ((B + S : Nat) : Rat) ∧ ((E : Rat) + (S : Rat) * x + (B : Rat) * y) / ((B + S : Nat) : Rat) ≤ c + (E : Rat) := by
    intro E S B x y c h hx hy h1 h2
    have p := natq_pos h
    have E0 := nat_nonneg E
    have S0 := nat_nonneg S
    have B0 := nat_nonneg B
    refine ⟨rat_div_nonneg (Rat.add_nonneg (Rat.add_nonneg E0 (Rat.mul_nonneg S0 hx)) (Rat.mul_nonneg B0 hy)) p, rat_div_le ?_ p⟩
    have m1 := Rat.mul_le_mul_of_nonneg_left h1 S0
    have m2 := Rat.mul_le_mul_of_nonneg_left h2 B0
    have one : (1 : Rat) ≤ ((B + S : Nat) : Rat) := by
      have : ((1 : Nat) : Rat) ≤ ((B + S : Nat) : Rat) := Rat.natCast_le_natCast.mpr h
      exact this
    have m3 := Rat.mul_le_mul_of_nonneg_left one E0
    rw [nat_cast_add] at m3 ⊢
    grind
  intro l
  induction l using Nat.strongRecOn with
  | ind l ih =>
    intro h
    by_cases h0 : l = 0
    · subst h0
      rw [prF]
      exact ⟨by decide, nat_nonneg _⟩
    · rw [prF_eq (by omega)]
      have b1 := ih (l - 1) (by omega) (by omega)
      have b2 : 0 ≤ prF n (l - 2) ∧ prF n (l - 2) ≤ ((n * (n - 1) * (l - 1) : Nat) : Rat) := by
        have z := ih (l - 2) (by omega) (by omega)
        exact ⟨z.1, Rat.le_trans z.2 (Rat.natCast_le_natCast.mpr (Nat.mul_le_mul_left _ (by omega)))⟩
      have s := step (n * (n - 1)) (2 * l * (n - l)) (l * (l - 1)) _ _ _ (pr_pos (by omega) h n2) b1.1 b2.1 b1.2 b2.2
      refine ⟨s.1, Rat.le_trans s.2 ?_⟩
      rw [← nat_cast_add]
      refine Rat.natCast_le_natCast.mpr ?_
      rw [← Nat.mul_succ]
      exact Nat.mul_le_mul_left _ (by omega)
theorem prD_le {n : Nat} (hn : n ≤ 60) : ∀ l, l ≤ n → prD n l ≤ 2 ^ (14 * l)
  | 0, _ => Nat.le_refl _
  | l + 1, h => by
    rw [prD, show 14 * (l + 1) = 14 * l + 14 by omega, Nat.pow_add]
    refine Nat.mul_le_mul (prD_le hn l (by omega)) ?_
    have a : (l + 1) * l ≤ 60 * 60 := Nat.mul_le_mul (by omega) (by omega)
    have b : 2 * (l + 1) * (n - (l + 1)) ≤ 2 * 60 * 60 := Nat.mul_le_mul (by omega) (by omega)
    omega
theorem prD_pos {n : Nat} (n2 : 2 ≤ n) : ∀ l, l ≤ n → 0 < prD n l
  | 0, _ => Nat.one_pos
  | l + 1, h => Nat.mul_pos (prD_pos n2 l (by omega)) (pr_pos (l := l + 1) (by omega) h n2)
theorem prF_sz {n l : Nat} (n2 : 2 ≤ n) (hn : n ≤ 60) (h : l ≤ n) : Sz (prF n l) 900 := by
  have b := prF_bd n2 l h
  have d := prD_le hn l h
  have d2 : 2 ^ (14 * l) ≤ 2 ^ 840 := pow_mono2 (by omega)
  have c : n * (n - 1) * l ≤ 60 * 60 * 60 := Nat.mul_le_mul (Nat.mul_le_mul hn (by omega)) (by omega)
  refine (prF_zd n2 l h).sz (B := n * (n - 1) * l) (prD_pos n2 l h) ?_ b.2 ?_ ?_
  · exact Rat.le_trans (by have := nat_nonneg (n * (n - 1) * l); grind) b.1
  · exact Nat.lt_of_le_of_lt (Nat.mul_le_mul c (Nat.le_trans d d2)) (by decide +kernel)
  · exact Nat.lt_of_le_of_lt (Nat.le_trans d d2) (by decide +kernel)
/-- as the program turns it -/
theorem prF_turn {n l : Nat} (h : 0 < l) (hn : l ≤ n) (n2 : 2 ≤ n) : (1 + (prF n (l - 1) * (((2 * l * (n - l) : Nat) : Rat) / ((n * (n - 1) : Nat) : Rat)) + prF n (l - 2) * (((l * (l - 1) : Nat) : Rat) / ((n * (n - 1) : Nat) : Rat)))) /
    (((l * (l - 1) + 2 * l * (n - l) : Nat) : Rat) / ((n * (n - 1) : Nat) : Rat)) = prF n l := by
  rw [prF_eq h]
  have e0 := natq_ne (Nat.mul_pos (show 0 < n by omega) (show 0 < n - 1 by omega))
  have p0 := natq_ne (pr_pos h hn n2)
  generalize ((n * (n - 1) : Nat) : Rat) = E at *
  generalize ((l * (l - 1) + 2 * l * (n - l) : Nat) : Rat) = D at *
  grind
/-- one more than behind one pack -/
theorem prF_law {n a : Nat} (ha : a < n) (n2 : 2 ≤ n) : prF n (n - a) * (((a * (a - 1) : Nat) : Rat) / ((n * (n - 1) : Nat) : Rat)) + prF n (n - (a + 1)) * (((2 * a * (n - a) : Nat) : Rat) / ((n * (n - 1) : Nat) : Rat)) +
    prF n (n - min (a + 2) n) * ((((n - a) * (n - a - 1) : Nat) : Rat) / ((n * (n - 1) : Nat) : Rat)) + 1 = prF n (n - a) := by
  have e := prF_eq (n := n) (l := n - a) (by omega)
  have e0 := natq_ne (Nat.mul_pos (show 0 < n by omega) (show 0 < n - 1 by omega))
  have p0 := natq_ne (pr_pos (n := n) (l := n - a) (by omega) (by omega) n2)
  have w : n * (n - 1) = a * (a - 1) + ((n - a) * (n - a - 1) + 2 * (n - a) * (n - (n - a))) := by
    obtain ⟨l, rfl⟩ : ∃ l, n = a + (l + 1) := ⟨n - a - 1, by omega⟩
    rw [show a + (l + 1) - a = l + 1 by omega, show a + (l + 1) - (l + 1) = a by omega, show a + (l + 1) - 1 = a + l by omega, show l + 1 - 1 = l by omega]
    cases a with
    | zero => grind
    | succ a => rw [show a + 1 - 1 = a by omega]; grind
  have c1 : 2 * a * (n - a) = 2 * (n - a) * (n - (n - a)) := by
    rw [show n - (n - a) = a by omega, Nat.mul_assoc, Nat.mul_assoc, Nat.mul_comm a]
  have i1 : n - a - 1 = n - (a + 1) := by omega
  have i2 : n - a - 2 = n - min (a + 2) n := by omega
  rw [i2] at e
  rw [i1] at e p0 w ⊢
  rw [c1]
  have wr : ((n * (n - 1) : Nat) : Rat) = ((a * (a - 1) : Nat) : Rat) + (((n - a) * (n - (a + 1)) + 2 * (n - a) * (n - (n - a)) : Nat) : Rat) := by
    rw [← nat_cast_add, ← w]
  have wd : (((n - a) * (n - (a + 1)) + 2 * (n - a) * (n - (n - a)) : Nat) : Rat) = (((n - a) * (n - (a + 1)) : Nat) : Rat) + ((2 * (n - a) * (n - (n - a)) : Nat) : Rat) := nat_cast_add _ _
  generalize (((n - a) * (n - (a + 1)) + 2 * (n - a) * (n - (n - a)) : Nat) : Rat) = D at *
  generalize ((n * (n - 1) : Nat) : Rat) = E at *
  generalize (((n - a) * (n - (a + 1)) : Nat) : Rat) = B at *
  generalize ((2 * (n - a) * (n - (n - a)) : Nat) : Rat) = S at *
  generalize ((a * (a - 1) : Nat) : Rat) = W at *
  generalize prF n (n - a) = x at *
  generalize prF n (n - (a + 1)) = y at *
  generalize prF n (n - min (a + 2) n) = z at *
  have e1 : x * D = E + S * y + B * z := by rw [e]; grind
  grind
end Ab
/-! PART choices: numbers of choices, rows in order. -/
namespace Ab
open PySem PySem.Spec PyProof.Rows L2
def ch : Nat → Nat → Nat
  | _, 0 => 1
  | 0, _ + 1 => 0
  | n + 1, p + 1 => ch n p + ch n (p + 1)
def fac : Nat → Nat
  | 0 => 1
  | n + 1 => (n + 1) * fac n
/-- n (n - 1) .., p of them -/
def desc (n : Nat) : Nat → Nat
  | 0 => 1
  | p + 1 => desc n p * (n - p)
theorem ch_zero (n : Nat) : ch n 0 = 1 := by cases n <;> rw [ch]
theorem ch_big : ∀ {n p : Nat}, n < p → ch n p = 0
  | 0, 0, h => by omega
  | 0, p + 1, _ => by rw [ch]
  | n + 1, 0, h => by omega
  | n + 1, p + 1, h => by rw [ch, ch_big (by omega), ch_big (by omega)]
theorem ch_self : ∀ n : Nat, ch n n = 1
  | 0 => by rw [ch]
  | n + 1 => by rw [ch, ch_self n, ch_big (by omega)]
theorem ch_next : ∀ n p : Nat, ch n (p + 1) * (p + 1) = ch n p * (n - p)
  | 0, p => by rw [ch, Nat.zero_sub, Nat.mul_zero, Nat.zero_mul]
  | n + 1, 0 => by
    have h := ch_next n 0
    rw [ch_zero] at h ⊢
    rw [ch, ch_zero]
    simp at h ⊢
    omega
  | n + 1, p + 1 => by
    have h1 := ch_next n (p + 1)
    have h2 := ch_next n p
    rw [ch, ch]
    by_cases hp : p < n
    · obtain ⟨d, rfl⟩ : ∃ d, n = p + 1 + d := ⟨n - p - 1, by omega⟩
      rw [show p + 1 + d - (p + 1) = d by omega] at h1
      rw [show p + 1 + d - p = d + 1 by omega] at h2
      rw [show p + 1 + d + 1 - (p + 1) = d + 1 by omega]
      grind
    · have e : ch n (p + 1) = 0 := ch_big (by omega)
      rw [e] at h1 h2 ⊢
      rw [show n + 1 - (p + 1) = n - p by omega, show n - p = 0 by omega]
      rw [ch_big (show n < p + 1 + 1 by omega)]
      simp
theorem ch_fac : ∀ n p : Nat, ch n p * fac p = desc n p
  | n, 0 => by rw [ch_zero, fac, desc]
  | n, p + 1 => by
    rw [fac, desc, ← ch_fac n p, ← Nat.mul_assoc, ch_next]
    rw [Nat.mul_assoc, Nat.mul_comm (n - p), ← Nat.mul_assoc]
theorem fac_pos : ∀ n, 0 < fac n
  | 0 => Nat.one_pos
  | n + 1 => Nat.mul_pos (Nat.succ_pos _) (fac_pos n)
theorem ch_pos : ∀ {n p : Nat}, p ≤ n → 0 < ch n p
  | _, 0, _ => by rw [ch_zero]; exact Nat.one_pos
  | 0, p + 1, h => by omega
  | n + 1, p + 1, h => by
    rw [ch]
    have := ch_pos (n := n) (p := p) (by omega)
    omega
theorem ch_le : ∀ n p : Nat, ch n p ≤ 2 ^ n
  | n, 0 => by rw [ch_zero]; exact Nat.one_le_two_pow
  | 0, p + 1 => by rw [ch]; exact Nat.zero_le _
  | n + 1, p + 1 => by
    rw [ch, Nat.pow_succ]
    have a := ch_le n p
    have b := ch_le n (p + 1)
    omega
theorem fac_le {m : Nat} : ∀ n, n ≤ 2 ^ m → fac n ≤ 2 ^ (m * n)
  | 0, _ => by rw [fac]; exact Nat.one_le_two_pow
  | n + 1, h => by
    rw [fac, Nat.mul_succ, Nat.pow_add, Nat.mul_comm]
    exact Nat.mul_le_mul (fac_le n (by omega)) h
theorem pow_le8 {n k : Nat} (h : n ≤ 256) : n ^ k ≤ 2 ^ (8 * k) := by
  rw [Nat.pow_mul]
  exact Nat.pow_le_pow_left h k
/-- the one step of the program -/
theorem ch_turn (n p : Nat) : ch n p * (n - p) / (p + 1) = ch n (p + 1) := by
  rw [← ch_next, Nat.mul_div_cancel _ (Nat.succ_pos _)]

/-! ### the likeliest -/
structure LkS where
  b0 : Nat
  b1 : Nat
  ns : List Nat
/-- n is looked at: its chance is w of p -/
def lkStep (st : LkS) (n w p : Nat) : LkS :=
  let s1 : LkS := if st.b0 * p < w * st.b1 then ⟨w, p, []⟩ else st
  if w * s1.b1 = s1.b0 * p then ⟨s1.b0, s1.b1, s1.ns ++ [n]⟩ else s1
def lk (r k : Nat) : Nat → LkS
  | 0 => ⟨0, 1, []⟩
  | i + 1 => lkStep (lk r k i) (r + i) (ch (r + i) r) ((r + i) ^ k)
/-- as the law turns it: the numbers from 1 on, choices in order -/
def lq (r k : Nat) : Nat → LkS
  | 0 => ⟨0, 1, []⟩
  | i + 1 => if r ≤ i + 1 then lkStep (lq r k i) (i + 1) (desc (i + 1) r) ((i + 1) ^ k) else lq r k i
def LkS.times (f : Nat) (s : LkS) : LkS := ⟨s.b0 * f, s.b1, s.ns⟩
theorem lkStep_times {f : Nat} (hf : 0 < f) (s : LkS) (n w p : Nat) : lkStep (s.times f) n (w * f) p = (lkStep s n w p).times f := by
  unfold lkStep LkS.times
  have e1 : s.b0 * f * p < w * f * s.b1 ↔ s.b0 * p < w * s.b1 := by
    rw [Nat.mul_right_comm, Nat.mul_right_comm w]
    exact Nat.mul_lt_mul_right hf
  have e2 : ∀ x y : Nat, w * f * y = x * f * p ↔ w * y = x * p := by
    intro x y
    rw [Nat.mul_right_comm, Nat.mul_right_comm x]
    exact Nat.mul_left_inj (Nat.ne_of_gt hf)
  by_cases h : s.b0 * p < w * s.b1
  · simp only [if_pos h, if_pos (e1.mpr h)]
    by_cases h2 : w * p = w * p
    · simp
    · exact absurd rfl h2
  · simp only [if_neg h, if_neg (fun z => h (e1.mp z))]
    by_cases h2 : w * s.b1 = s.b0 * p
    · rw [if_pos h2, if_pos ((e2 _ _).mpr h2)]
    · rw [if_neg h2, if_neg (fun z => h2 ((e2 _ _).mp z))]
theorem lq_low {r k : Nat} : ∀ i, i < r → lq r k i = ⟨0, 1, []⟩
  | 0, _ => by rw [lq]
  | i + 1, h => by rw [lq, if_neg (by omega), lq_low i (by omega)]
theorem lq_lk {r k : Nat} (hr : 1 ≤ r) : ∀ i, lq r k (r - 1 + i) = (lk r k i).times (fac r)
  | 0 => by
    rw [Nat.add_zero, lq_low _ (by omega), lk, LkS.times, Nat.zero_mul]
  | i + 1 => by
    rw [show r - 1 + (i + 1) = (r - 1 + i) + 1 by omega, lq, if_pos (by omega), lq_lk hr i, lk, ← lkStep_times (fac_pos r), ch_fac, show r - 1 + i + 1 = r + i by omega]
theorem lq_ns {r k : Nat} (hr : 1 ≤ r) (m : Nat) : (lq r k m).ns = (lk r k (m + 1 - r)).ns := by
  by_cases h : m < r
  · rw [lq_low m h, show m + 1 - r = 0 by omega, lk]
  · have e := lq_lk (k := k) hr (m + 1 - r)
    rw [show r - 1 + (m + 1 - r) = m by omega] at e
    rw [e, LkS.times]
theorem lkStep_bd {s : LkS} {n w p B C : Nat} (h0 : s.b0 ≤ B) (h1 : s.b1 ≤ C) (hw : w ≤ B) (hp : p ≤ C) : (lkStep s n w p).b0 ≤ B ∧ (lkStep s n w p).b1 ≤ C := by
  unfold lkStep
  by_cases h : s.b0 * p < w * s.b1
  · simp only [if_pos h]
    split
    · exact ⟨hw, hp⟩
    · exact ⟨hw, hp⟩
  · simp only [if_neg h]
    split
    · exact ⟨h0, h1⟩
    · exact ⟨h0, h1⟩
theorem lkStep_len {s : LkS} {n w p m : Nat} (h : s.ns.length ≤ m) : (lkStep s n w p).ns.length ≤ m + 1 := by
  unfold lkStep
  by_cases q : s.b0 * p < w * s.b1
  · simp only [if_pos q]
    split <;> simp
  · simp only [if_neg q]
    split
    · rw [List.length_append]; simp; exact h
    · omega
theorem lk_bd {r k : Nat} (hr : 1 ≤ r) (hk : k ≤ 100) : ∀ i, r + i ≤ 201 → (lk r k i).b0 ≤ 2 ^ 200 ∧ (lk r k i).b1 ≤ 2 ^ 800 ∧ (lk r k i).ns.length ≤ i
  | 0, _ => by rw [lk]; exact ⟨Nat.zero_le _, Nat.one_le_two_pow, Nat.zero_le _⟩
  | i + 1, h => by
    rw [lk]
    have b := lk_bd hr hk i (by omega)
    have c := lkStep_bd (n := r + i) b.1 b.2.1 (w := ch (r + i) r) (p := (r + i) ^ k) (Nat.le_trans (ch_le _ _) (pow_mono2 (by omega))) (Nat.le_trans (pow_le8 (by omega)) (pow_mono2 (by omega)))
    exact ⟨c.1, c.2, lkStep_len b.2.2⟩
theorem desc_le {n r : Nat} (hn : n ≤ 256) : desc n r ≤ 2 ^ (8 * r) := by
  induction r with
  | zero => rw [desc]; exact Nat.one_le_two_pow
  | succ r ih =>
    rw [desc, Nat.mul_succ, Nat.pow_add]
    exact Nat.mul_le_mul ih (by omega)
theorem desc_pos {n r : Nat} (h : r ≤ n) : 0 < desc n r := by
  rw [← ch_fac]
  exact Nat.mul_pos (ch_pos h) (fac_pos r)
theorem lq_bd {r k : Nat} (hr : r ≤ 100) (hk : k ≤ 100) : ∀ i, i ≤ 200 → (lq r k i).b0 ≤ 2 ^ 800 ∧ (lq r k i).b1 ≤ 2 ^ 800 ∧ (lq r k i).ns.length ≤ i
  | 0, _ => by rw [lq]; exact ⟨Nat.zero_le _, Nat.one_le_two_pow, Nat.zero_le _⟩
  | i + 1, h => by
    have b := lq_bd hr hk i (by omega)
    rw [lq]
    split
    · have c := lkStep_bd (n := i + 1) b.1 b.2.1 (w := desc (i + 1) r) (p := (i + 1) ^ k) (Nat.le_trans (desc_le (by omega)) (pow_mono2 (by omega))) (Nat.le_trans (pow_le8 (by omega)) (pow_mono2 (by omega)))
      exact ⟨c.1, c.2, lkStep_len b.2.2⟩
    · exact ⟨b.1, b.2.1, by omega⟩
end Ab
/-! PART rows: rows of packs among which all lacking pictures are. -/
namespace Ab
open PySem PySem.Spec PyProof.Rows L2
def sg : Nat → Int
  | 0 => 1
  | n + 1 => -sg n
/-- the first j parts of the sum -/
def sT (m l k : Nat) : Nat → Int
  | 0 => 0
  | j + 1 => sT m l k j + sg j * ((ch l j : Nat) : Int) * ((m : Int) - (j : Int)) ^ k
def sV (m l k : Nat) : Int := sT m l k (l + 1)
theorem ch_abs : ∀ l j : Nat, ch (l + 1) (j + 1) * (j + 1) = (l + 1) * ch l j := by
  intro l
  induction l with
  | zero =>
    intro j
    cases j with
    | zero => decide
    | succ j =>
      rw [ch_big (show 0 + 1 < j + 1 + 1 by omega), ch_big (show 0 < j + 1 by omega)]
      simp
  | succ l ih =>
    intro j
    have h := ch_next (l + 1) j
    rw [ch]
    by_cases e : j ≤ l + 1
    · rw [Nat.add_mul, h]
      obtain ⟨d, hd⟩ : ∃ d, l + 1 = j + d := ⟨l + 1 - j, by omega⟩
      rw [show l + 1 - j = d by omega, Nat.mul_comm (l + 1 + 1), ← Nat.mul_add]
      congr 1
      omega
    · rw [ch_big (show l + 1 < j by omega), ch_big (show l + 1 < j + 1 by omega)]
      simp
theorem sT_step (m l k : Nat) : ∀ j, sT (m + 1) (l + 1) (k + 1) (j + 1) = ((m + 1 : Nat) : Int) * sT (m + 1) (l + 1) k (j + 1) + ((l + 1 : Nat) : Int) * sT m l k j
  | 0 => by
    simp only [sT, sg, ch_zero]
    grind
  | j + 1 => by
    rw [sT, sT_step m l k j, sT.eq_2 (m + 1) (l + 1) k (j + 1), sT.eq_2 m l k j]
    have a : ((ch (l + 1) (j + 1) : Nat) : Int) * ((j : Int) + 1) = ((l : Int) + 1) * ((ch l j : Nat) : Int) := by exact_mod_cast ch_abs l j
    rw [sg]
    have e1 : ((m + 1 : Nat) : Int) - ((j + 1 : Nat) : Int) = (m : Int) - (j : Int) := by omega
    rw [e1, Int.pow_succ]
    generalize ((m : Int) - (j : Int)) ^ k = p
    generalize ((ch (l + 1) (j + 1) : Nat) : Int) = c at *
    generalize ((ch l j : Nat) : Int) = d at *
    generalize sT (m + 1) (l + 1) k (j + 1) = x
    generalize sT m l k j = y
    generalize sg j = g
    have a1 : ((m + 1 : Nat) : Int) = (m : Int) + 1 := by omega
    have a2 : ((l + 1 : Nat) : Int) = (l : Int) + 1 := by omega
    rw [a1, a2]
    generalize (m : Int) = M
    generalize (j : Int) = J at *
    generalize (l : Int) = L at *
    have e : g * p * (c * (J + 1)) = g * p * ((L + 1) * d) := by rw [a]
    grind
theorem sV_step {m l k : Nat} : sV (m + 1) (l + 1) (k + 1) = ((m + 1 : Nat) : Int) * sV (m + 1) (l + 1) k + ((l + 1 : Nat) : Int) * sV m l k := sT_step m l k (l + 1)
theorem sV_zero {m k : Nat} : sV m 0 k = (m : Int) ^ k := by
  simp only [sV, sT, sg, ch_zero]
  simp
theorem sT_base (m l : Nat) : ∀ j, sT m (l + 1) 0 (j + 1) = sg j * ((ch l j : Nat) : Int)
  | 0 => by simp only [sT, sg, ch_zero]; grind
  | j + 1 => by
    rw [sT, sT_base m l j, ch, sg]
    simp
    grind
theorem sV_base {m l : Nat} : sV m (l + 1) 0 = 0 := by
  rw [sV, sT_base, ch_big (by omega)]
  simp
/-- the rows that lead from h to m -/
def rw' (n h : Nat) : Nat → Nat → Nat
  | 0, m => if m = h then 1 else 0
  | k + 1, m => rw' n h k m * m + (if 0 < m then rw' n h k (m - 1) * (n - m + 1) else 0)
theorem rw_eq {n h : Nat} (hn : h ≤ n) : ∀ k m, m ≤ n → ((rw' n h k m : Nat) : Int) = if h ≤ m then ((ch (n - h) (m - h) : Nat) : Int) * sV m (m - h) k else 0
  | 0, m, hm => by
    rw [rw']
    by_cases e : m = h
    · subst e
      rw [if_pos rfl, if_pos (Nat.le_refl _), Nat.sub_self, ch_zero, sV_zero]
      simp
    · rw [if_neg e]
      by_cases e2 : h ≤ m
      · obtain ⟨d, rfl⟩ : ∃ d, m = h + (d + 1) := ⟨m - h - 1, by omega⟩
        rw [if_pos e2, show h + (d + 1) - h = d + 1 by omega, sV_base]
        simp
      · rw [if_neg e2]
        rfl
  | k + 1, m, hm => by
    rw [rw', Int.natCast_add, Int.natCast_mul, rw_eq hn k m hm]
    by_cases e2 : h ≤ m
    · rw [if_pos e2, if_pos e2]
      by_cases e : m = h
      · subst e
        have z : ((if 0 < m then rw' n m k (m - 1) * (n - m + 1) else 0 : Nat) : Int) = 0 := by
          by_cases p : 0 < m
          · rw [if_pos p, Int.natCast_mul, rw_eq hn k (m - 1) (by omega), if_neg (by omega)]
            simp
          · rw [if_neg p]; rfl
        rw [z, Nat.sub_self, ch_zero, sV_zero, sV_zero, Int.pow_succ]
        simp
      · obtain ⟨d, rfl⟩ : ∃ d, m = h + d + 1 := ⟨m - h - 1, by omega⟩
        rw [if_pos (by omega), Int.natCast_mul, rw_eq hn k (h + d + 1 - 1) (by omega), if_pos (by omega), show h + d + 1 - 1 = h + d by omega, show h + d - h = d by omega, show h + d + 1 - h = d + 1 by omega, sV_step]
        have a : ((ch (n - h) (d + 1) : Nat) : Int) * ((d + 1 : Nat) : Int) = ((ch (n - h) d : Nat) : Int) * ((n - (h + d + 1) + 1 : Nat) : Int) := by
          have b := ch_next (n - h) d
          rw [show n - h - d = n - (h + d + 1) + 1 by omega] at b
          exact_mod_cast b
        generalize ((ch (n - h) (d + 1) : Nat) : Int) = c1 at *
        generalize ((ch (n - h) d : Nat) : Int) = c0 at *
        generalize ((n - (h + d + 1) + 1 : Nat) : Int) = f at *
        generalize sV (h + d + 1) (d + 1) k = s1
        generalize sV (h + d) d k = s0
        generalize ((h + d + 1 : Nat) : Int) = M
        generalize ((d + 1 : Nat) : Int) = D at *
        have e : c1 * D * s0 = c0 * f * s0 := by rw [a]
        grind
    · rw [if_neg e2, if_neg e2]
      by_cases p : 0 < m
      · rw [if_pos p, Int.natCast_mul, rw_eq hn k (m - 1) (by omega), if_neg (by omega)]
        simp
      · rw [if_neg p]
        simp
theorem rw_all {n h k : Nat} (hn : h ≤ n) : ((rw' n h k n : Nat) : Int) = sV n (n - h) k := by
  rw [rw_eq hn k n (Nat.le_refl n), if_pos hn, ch_self]
  simp
theorem rw_some {n k m : Nat} (hm : m ≤ n) : ((rw' n 0 k m : Nat) : Int) = ((ch n m : Nat) : Int) * sV m m k := by
  rw [rw_eq (Nat.zero_le n) k m hm, if_pos (Nat.zero_le _)]
  rfl
/-- its size -/
theorem sg_abs : ∀ j, (sg j).natAbs = 1
  | 0 => rfl
  | j + 1 => by rw [sg, Int.natAbs_neg, sg_abs j]
theorem sT_le {m l k : Nat} (hm : m ≤ 64) : ∀ j, j ≤ l + 1 → l ≤ m → (sT m l k j).natAbs ≤ j * 2 ^ (l + 6 * k)
  | 0, _, _ => by rw [sT]; exact Nat.zero_le _
  | j + 1, h, hl => by
    rw [sT, Nat.succ_mul]
    refine Nat.le_trans (Int.natAbs_add_le _ _) (Nat.add_le_add (sT_le hm j (by omega) hl) ?_)
    rw [Int.natAbs_mul, Int.natAbs_mul, sg_abs, Nat.one_mul, Int.natAbs_natCast, Nat.pow_add]
    refine Nat.mul_le_mul (ch_le l j) ?_
    rw [show (m : Int) - (j : Int) = ((m - j : Nat) : Int) by omega, ← Int.natCast_pow, Int.natAbs_natCast, Nat.pow_mul]
    exact Nat.pow_le_pow_left (by omega) k
theorem sV_le {m l k : Nat} (hm : m ≤ 40) (hl : l ≤ m) (hk : k ≤ 100) : (sV m l k).natAbs < 2 ^ 700 := by
  have a := sT_le (m := m) (l := l) (k := k) (by omega) (l + 1) (Nat.le_refl _) hl
  have b : (l + 1) * 2 ^ (l + 6 * k) ≤ 64 * 2 ^ 640 := Nat.mul_le_mul (by omega) (pow_mono2 (by omega))
  exact Nat.lt_of_le_of_lt (Nat.le_trans a b) (by decide +kernel)
end Ab
/-! PART steps: means from picture to picture. -/
namespace Ab
open PySem PySem.Spec PyProof.Rows L2
/-- n over L, n over L - 1, .. down to b + 1 -/
def smL (n L b : Nat) : List Rat := (List.range (L - b)).map fun i => Rat.divInt (n : Int) ((L - i : Nat) : Int)
theorem smL_len (n L b : Nat) : (smL n L b).length = L - b := by unfold smL; simp
theorem smL_snoc {n L b : Nat} (h : b < L) : smL n L b = smL n L (b + 1) ++ [Rat.divInt (n : Int) ((b + 1 : Nat) : Int)] := by
  unfold smL
  rw [show L - b = L - (b + 1) + 1 by omega, range_map_succ, show L - (L - (b + 1)) = b + 1 by omega]
theorem smL_self (n L : Nat) : smL n L L = [] := by unfold smL; simp
theorem smL_each {n L b : Nat} (hn : n ≤ 512) (hL : L ≤ n) : ∀ q ∈ smL n L b, Sz q 10 := by
  intro q hq
  unfold smL at hq
  obtain ⟨i, hi, rfl⟩ := List.mem_map.mp hq
  have := List.mem_range.mp hi
  exact sz_divInt (by omega) (by rw [Int.natAbs_natCast]; omega) (by rw [Int.natAbs_natCast]; omega)
theorem smL_sum {n L b : Nat} (hn : n ≤ 512) (hL : L ≤ n) (h : L ≤ 300) : SumSz (smL n L b) ((10 + 1) * 300 + 1) 10 :=
  SumSz.of (smL_each hn hL) (by rw [smL_len]; omega) (by decide)
theorem smL_sz {n L b : Nat} (hn : n ≤ 512) (hL : L ≤ n) (h : L ≤ 300) : Sz (smL n L b).sum 3301 := by
  have z := (smL_sum (b := b) hn hL h).part (smL n L b).length (Nat.le_refl _)
  rw [List.take_length] at z
  exact z
theorem smL_down {n L b : Nat} (h : b < L) : (smL n L b).sum = (smL n L (b + 1)).sum + Rat.divInt (n : Int) ((b + 1 : Nat) : Int) := by rw [smL_snoc h, sum_app_one]
theorem smL_nil {n L b : Nat} (h : L ≤ b) : (smL n L b).sum = 0 := by
  unfold smL
  rw [show L - b = 0 by omega]
  rfl
/-- mean packs, costs, doubles of a way -/
def mP (n h b : Nat) : Rat := (smL n (n - h) b).sum
def mC (n h b c k : Nat) : Rat := mP n h b * ((k : Int) : Rat) + (((b * c : Nat) : Int) : Rat)
def mD (n h b : Nat) : Rat := mP n h b - (((n : Int) - (h : Int) - (b : Int) : Int) : Rat)
theorem mP_sz {n h b : Nat} (hn : n ≤ 300) : Sz (mP n h b) 3301 := smL_sz (by omega) (by omega) (by omega)
theorem mC_sz {n h b c k : Nat} (hn : n ≤ 300) (hb : b ≤ 4) (hc : c ≤ 50) (hk : k ≤ 3) : Sz (mC n h b c k) 3320 := by
  have bc : b * c ≤ 4 * 50 := Nat.mul_le_mul hb hc
  exact (((mP_sz hn).mul (Sz.int (i := (k : Int)) (k := 2) (by omega) (by decide))).add (Sz.int (i := ((b * c : Nat) : Int)) (k := 10) (by omega) (by decide))).mono (by decide)
theorem mD_sz {n h b : Nat} (hn : n ≤ 300) (hh : h ≤ 5) (hb : b ≤ 4) : Sz (mD n h b) 3320 := by
  unfold mD
  rw [Rat.sub_eq_add_neg]
  exact ((mP_sz hn).add (Sz.int (i := ((n : Int) - (h : Int) - (b : Int))) (k := 10) (by omega) (by decide)).neg).mono (by decide)
theorem sum_nonneg : ∀ {l : List Rat}, (∀ q ∈ l, 0 ≤ q) → 0 ≤ l.sum
  | [], _ => by rw [List.sum_nil]; exact Rat.le_refl
  | q :: l, h => by
    rw [List.sum_cons]
    exact Rat.add_nonneg (h q List.mem_cons_self) (sum_nonneg fun p hp => h p (List.mem_cons_of_mem _ hp))
theorem mP_nonneg (n h b : Nat) : 0 ≤ mP n h b := by
  refine sum_nonneg fun q hq => ?_
  unfold smL at hq
  obtain ⟨i, hi, rfl⟩ := List.mem_map.mp hq
  have := List.mem_range.mp hi
  rw [divInt_nat]
  exact rat_div_nonneg (nat_nonneg n) (natq_pos (by omega))
theorem mP_more {n h b : Nat} (hb : b < n - h) : mP n h b = mP n h (b + 1) + Rat.divInt (n : Int) ((b + 1 : Nat) : Int) := smL_down hb
/-- the chances of all numbers together -/
def rsum (n k : Nat) : Nat → Nat
  | 0 => 0
  | i + 1 => rsum n k i + rw' n 0 k i
theorem rsum_next (n k : Nat) : ∀ i, i ≤ n + 1 → rsum n (k + 1) i + (if 0 < i then rw' n 0 k (i - 1) * (n + 1 - i) else 0) = n * rsum n k i
  | 0, _ => by simp [rsum]
  | i + 1, h => by
    have ih := rsum_next n k i (by omega)
    rw [rsum, rsum, rw', Nat.mul_add n, ← ih, if_pos (show 0 < i + 1 by omega), show i + 1 - 1 = i by omega]
    by_cases p : 0 < i
    · rw [if_pos p, if_pos p, show n - i + 1 = n + 1 - i by omega]
      have e : rw' n 0 k i * i + rw' n 0 k i * (n + 1 - (i + 1)) = n * rw' n 0 k i := by
        rw [← Nat.mul_add, Nat.mul_comm]
        congr 1
        omega
      omega
    · rw [if_neg p, if_neg p]
      have z : i = 0 := by omega
      subst z
      simp
      rw [Nat.mul_comm]
theorem rsum_all (n : Nat) : ∀ k, rsum n k (n + 1) = n ^ k
  | 0 => by
    have key : ∀ i, rsum n 0 (i + 1) = 1 := by
      intro i
      induction i with
      | zero => rfl
      | succ i ih => rw [rsum, ih, rw', if_neg (by omega)]
    rw [key, Nat.pow_zero]
  | k + 1 => by
    have e := rsum_next n k (n + 1) (Nat.le_refl _)
    rw [rsum_all n k, if_pos (by omega), Nat.sub_self, Nat.mul_zero, Nat.add_zero] at e
    rw [e, Nat.pow_succ, Nat.mul_comm]
theorem rsum_mono (n k : Nat) : ∀ {i j : Nat}, i ≤ j → rsum n k i ≤ rsum n k j := by
  intro i j h
  induction j with
  | zero =>
    have : i = 0 := by omega
    subst this
    exact Nat.le_refl _
  | succ j ih =>
    by_cases e : i = j + 1
    · subst e; exact Nat.le_refl _
    · rw [rsum]
      exact Nat.le_trans (ih (by omega)) (Nat.le_add_right _ _)
abbrev chF (n k m : Nat) : Rat := Rat.divInt (((ch n m : Nat) : Int) * sV m m k) ((n ^ k : Nat) : Int)
theorem chF_sum {n k : Nat} (hn : 0 < n) : ∀ i, i ≤ n + 1 → ((List.range i).map (chF n k)).sum = Rat.divInt ((rsum n k i : Nat) : Int) ((n ^ k : Nat) : Int)
  | 0, _ => by
    rw [rsum, divInt_nat]
    have := natq_ne (Nat.pow_pos (n := k) hn)
    show (0 : Rat) = ((0 : Nat) : Rat) / _
    rw [show ((0 : Nat) : Rat) = 0 from rfl]
    grind
  | i + 1, h => by
    rw [range_map_succ, sum_app_one, chF_sum hn i (by omega), rsum, chF, ← rw_some (by omega), divInt_nat, divInt_nat, divInt_nat, nat_cast_add]
    have := natq_ne (Nat.pow_pos (n := k) hn)
    grind
end Ab
/-! PART buying: the mean costs by all numbers that are bought; the least one. -/
namespace Ab
open PySem PySem.Spec PyProof.Rows L2
/-- the mean cost where j are bought -/
def cF (n L price pack j : Nat) : Rat := (smL n L j).sum * (pack : Rat) + ((j * price : Nat) : Rat)
theorem cF_next {n L price pack j : Nat} (h : j < L) : cF n L price pack j = cF n L price pack (j + 1) + ((pack * n : Nat) : Rat) / ((j + 1 : Nat) : Rat) - (price : Rat) := by
  unfold cF
  rw [smL_down h, divInt_nat, Nat.succ_mul, nat_cast_add, nat_cast_mul pack n]
  have := natq_ne (Nat.succ_pos j)
  grind
theorem cF_lt {n L price pack j : Nat} (h : j < L) : cF n L price pack (j + 1) < cF n L price pack j ↔ price * (j + 1) < pack * n := by
  rw [cF_next h]
  have p := natq_pos (Nat.succ_pos j)
  have e : ((pack * n : Nat) : Rat) = ((pack * n : Nat) : Rat) / ((j + 1 : Nat) : Rat) * ((j + 1 : Nat) : Rat) := by have := Rat.ne_of_gt p; grind
  constructor
  · intro q
    have q2 : (price : Rat) < ((pack * n : Nat) : Rat) / ((j + 1 : Nat) : Rat) := by grind
    have q3 := (Rat.mul_lt_mul_right p).mpr q2
    rw [← e, ← nat_cast_mul] at q3
    exact Rat.natCast_lt_natCast.mp q3
  · intro q
    have q3 : ((price * (j + 1) : Nat) : Rat) < ((pack * n : Nat) : Rat) := Rat.natCast_lt_natCast.mpr q
    rw [nat_cast_mul, e] at q3
    have q2 := (Rat.mul_lt_mul_right p).mp q3
    grind
/-- how many are best bought -/
def jF (n L price pack : Nat) : Nat := if price = 0 then L else min L ((pack * n - 1) / price)
theorem jF_le {n L price pack : Nat} : jF n L price pack ≤ L := by unfold jF; split <;> omega
theorem jF_iff {n L price pack j : Nat} (hn : 0 < n) (hp : 0 < pack) (h : j < L) : price * (j + 1) < pack * n ↔ j + 1 ≤ jF n L price pack := by
  have pn : 0 < pack * n := Nat.mul_pos hp hn
  unfold jF
  by_cases z : price = 0
  · rw [if_pos z, z]
    omega
  · rw [if_neg z]
    have k := Nat.le_div_iff_mul_le (x := j + 1) (y := pack * n - 1) (Nat.pos_of_ne_zero z)
    rw [Nat.mul_comm (j + 1)] at k
    constructor
    · intro q
      have : j + 1 ≤ (pack * n - 1) / price := k.mpr (by omega)
      omega
    · intro q
      have := k.mp (by omega)
      omega
/-- from jF on it does not fall -/
theorem cF_up {n L price pack : Nat} (hn : 0 < n) (hp : 0 < pack) : ∀ d, jF n L price pack + d ≤ L → cF n L price pack (jF n L price pack) ≤ cF n L price pack (jF n L price pack + d)
  | 0, _ => Rat.le_refl
  | d + 1, h => by
    refine Rat.le_trans (cF_up hn hp d (by omega)) ?_
    have a := cF_lt (n := n) (L := L) (price := price) (pack := pack) (j := jF n L price pack + d) (by omega)
    have b := jF_iff (L := L) (price := price) (j := jF n L price pack + d) hn hp (by omega)
    rw [← Rat.not_lt]
    intro z
    have := b.mp (a.mp z)
    omega
/-- the law's turn -/
theorem best_turn {n L price pack i : Nat} (hn : 0 < n) (hp : 0 < pack) (h : i < L) :
    (if cF n L price pack (i + 1) < cF n L price pack (min i (jF n L price pack)) then i + 1 else min i (jF n L price pack)) = min (i + 1) (jF n L price pack) := by
  by_cases c : i + 1 ≤ jF n L price pack
  · rw [show min i (jF n L price pack) = i by omega, if_pos ((cF_lt h).mpr ((jF_iff hn hp h).mpr c))]
    omega
  · rw [show min i (jF n L price pack) = jF n L price pack by omega, if_neg ?_]
    · omega
    · rw [Rat.not_lt]
      have z := cF_up (n := n) (L := L) (price := price) (pack := pack) hn hp (i + 1 - jF n L price pack) (by omega)
      rw [show jF n L price pack + (i + 1 - jF n L price pack) = i + 1 by omega] at z
      exact z
theorem rat_cross {p q : Rat} : p < q ↔ p.num * (q.den : Int) < q.num * (p.den : Int) := Rat.lt_iff p q
/-- its size -/
theorem cF_sz {n L price pack j : Nat} (hn : n ≤ 300) (hL : L ≤ n) (hp : pack ≤ 1000) (hq : price ≤ 1000) (hj : j ≤ 300) : Sz (cF n L price pack j) 3340 := by
  unfold cF
  have a := (smL_sz (n := n) (L := L) (b := j) (by omega) hL (by omega)).mul (Sz.int (i := (pack : Int)) (k := 10) (by omega) (by decide))
  have jp : j * price ≤ 300 * 1000 := Nat.mul_le_mul hj hq
  exact (a.add (Sz.int (i := ((j * price : Nat) : Int)) (k := 20) (by omega) (by decide))).mono (by decide)
/-- the rule -/
theorem rule_div {price pack n L : Nat} (hq : 0 < price) (hp : 0 < pack) : min L ((pack / Nat.gcd price pack * n - 1) / (price / Nat.gcd price pack)) = min L ((pack * n - 1) / price) := by
  have g0 : 0 < Nat.gcd price pack := Nat.gcd_pos_of_pos_left _ hq
  obtain ⟨b, hb⟩ := Nat.gcd_dvd_left price pack
  obtain ⟨a, ha⟩ := Nat.gcd_dvd_right price pack
  have eb : price / Nat.gcd price pack = b := Nat.div_eq_of_eq_mul_right g0 hb
  have ea : pack / Nat.gcd price pack = a := Nat.div_eq_of_eq_mul_right g0 ha
  rw [ea, eb]
  have b0 : 0 < b := Nat.pos_of_ne_zero (fun z => by rw [z] at hb; omega)
  have key : ∀ j, j ≤ (a * n - 1) / b ↔ j ≤ (pack * n - 1) / price := by
    intro j
    rw [Nat.le_div_iff_mul_le b0, Nat.le_div_iff_mul_le hq]
    have e1 : j * price = Nat.gcd price pack * (j * b) := by
      rw [← Nat.mul_assoc, Nat.mul_comm _ j, Nat.mul_assoc, ← hb]
    have e2 : pack * n = Nat.gcd price pack * (a * n) := by
      rw [← Nat.mul_assoc, ← ha]
    rw [e1, e2]
    generalize j * b = x
    generalize a * n = y
    generalize Nat.gcd price pack = g at *
    constructor
    · intro z
      by_cases y0 : y = 0
      · subst y0
        have : x = 0 := by omega
        subst this
        omega
      · have : g * (x + 1) ≤ g * y := Nat.mul_le_mul_left _ (by omega)
        rw [Nat.mul_add] at this
        omega
    · intro z
      by_cases y0 : y = 0
      · subst y0
        simp at z
        have : g * x = 0 := by omega
        rcases Nat.mul_eq_zero.mp this with q | q <;> omega
      · have gy : 0 < g * y := Nat.mul_pos g0 (by omega)
        have : g * x < g * y := by omega
        have := Nat.lt_of_mul_lt_mul_left this
        omega
  have : (a * n - 1) / b = (pack * n - 1) / price := by
    have k1 := (key ((a * n - 1) / b)).mp (Nat.le_refl _)
    have k2 := (key ((pack * n - 1) / price)).mpr (Nat.le_refl _)
    omega
  rw [this]
theorem rule_same {c k : Nat} (hc : 0 < c) : k / Nat.gcd c k * c = c / Nat.gcd c k * k := by
  have g0 : 0 < Nat.gcd c k := Nat.gcd_pos_of_pos_left _ hc
  obtain ⟨b, hb⟩ := Nat.gcd_dvd_left c k
  obtain ⟨a, ha⟩ := Nat.gcd_dvd_right c k
  rw [Nat.div_eq_of_eq_mul_right g0 hb, Nat.div_eq_of_eq_mul_right g0 ha]
  generalize Nat.gcd c k = g at *
  rw [hb, ha]
  rw [← Nat.mul_assoc, ← Nat.mul_assoc, Nat.mul_comm a g, Nat.mul_comm b g, Nat.mul_assoc, Nat.mul_assoc, Nat.mul_comm a b]
theorem rule_low {c k : Nat} (hc : 0 < c) : fr (Rat.divInt ((k / Nat.gcd c k : Nat) : Int) ((c / Nat.gcd c k : Nat) : Int)) = pr ((k / Nat.gcd c k : Nat) : Int) ((c / Nat.gcd c k : Nat) : Int) := by
  have g0 : 0 < Nat.gcd c k := Nat.gcd_pos_of_pos_left _ hc
  have co : Nat.gcd (k / Nat.gcd c k) (c / Nat.gcd c k) = 1 := by
    rw [Nat.gcd_comm c k] at g0 ⊢
    have := Nat.coprime_div_gcd_div_gcd g0
    exact this
  have b0 : 0 < c / Nat.gcd c k := Nat.div_pos (Nat.gcd_le_left _ hc) g0
  rw [fr, num_of (by omega), den_of (by omega), show Int.gcd ((k / Nat.gcd c k : Nat) : Int) ((c / Nat.gcd c k : Nat) : Int) = 1 from co]
  simp
end Ab
/-! PART ways: a way as an instance, a draw as a table. -/
namespace Ab
open PySem PySem.Spec PyProof.Rows L2
abbrev wayF (h b c k : Nat) : List (Str × V) := [("begun", .int (h : Int)), ("last", .int (b : Int)), ("each", .int (c : Int)), ("charge", .int (k : Int)), ("low", .int ((max 1 (h + b) : Nat) : Int))]
/-- at a stands the way of these parts -/
def WayAt (K : Fr0) (H : Hp) (a : Addr) (h b c k : Nat) : Prop := ∃ dx, H a = some (.ins (fA K "Way") dx (wayF h b c k))
theorem WayAt.same {K : Fr0} {H H' : Hp} {a : Addr} {h b c k : Nat} (s : Same H H') (w : WayAt K H a h b c k) : WayAt K H' a h b c k := by
  obtain ⟨dx, e⟩ := w
  exact ⟨dx, s _ _ e⟩
theorem WayAt.chg {K : Fr0} {H H' : Hp} {r a : Addr} {h b c k : Nat} (s : Chg r H H') (w : WayAt K H a h b c k) : WayAt K H' a h b c k := by
  obtain ⟨dx, e⟩ := w
  exact ⟨dx, s.at e fun _ z => nomatch z⟩
/-- the parts that may be drawn -/
structure WayOk (h b c k : Nat) : Prop where
  h : h ≤ 5
  b : b ≤ 4
  c : c ≤ 50
  k1 : 1 ≤ k
  k3 : k ≤ 3
structure DrawOk (h b c k : Nat) : Prop where
  h : h ∈ [0, 1, 2, 5]
  b : b ≤ 4
  c : c ∈ [0, 1, 2, 5, 10, 20, 49, 50]
  k1 : 1 ≤ k
  k3 : k ≤ 3
theorem DrawOk.way {h b c k : Nat} (d : DrawOk h b c k) : WayOk h b c k := by
  refine ⟨?_, d.b, ?_, d.k1, d.k3⟩
  · have := d.h
    simp at this
    omega
  · have := d.c
    simp at this
    omega
abbrev drawF (h b c k : Nat) : List (Key × V) := [(.inr "have", .int (h : Int)), (.inr "buy", .int (b : Int)), (.inr "price", .int (c : Int)), (.inr "pack", .int (k : Int))]
/-- at p stands the draw of these parts -/
def DrawAt (H : Hp) (p : Addr) (h b c k : Nat) : Prop := H p = some (.dK (drawF h b c k))
theorem DrawAt.same {H H' : Hp} {p : Addr} {h b c k : Nat} (s : Same H H') (w : DrawAt H p h b c k) : DrawAt H' p h b c k := s _ _ w
theorem DrawAt.chg {H H' : Hp} {r p : Addr} {h b c k : Nat} (s : Chg r H H') (w : DrawAt H p h b c k) : DrawAt H' p h b c k := s.at w fun _ z => nomatch z
theorem drawG {H : Hp} {p : Addr} {h b c k : Nat} (w : DrawAt H p h b c k) : DGet H p (.str "have") (some (.int h)) ∧ DGet H p (.str "buy") (some (.int b)) ∧ DGet H p (.str "price") (some (.int c)) ∧ DGet H p (.str "pack") (some (.int k)) :=
  ⟨DGet.k (k := .inr "have") w, DGet.k (k := .inr "buy") w, DGet.k (k := .inr "price") w, DGet.k (k := .inr "pack") w⟩
/-- what the making of a way promises -/
def spWayInit (K : Fr0) : Sp := fun vs H Q E => ∃ (a dx : Addr) (u v x y : V) (tu tv tx ty : String), vs = [.ref a, u, v, x, y] ∧ H a = some (.ins (fA K "Way") dx []) ∧ AnyV K H u tu ∧ AnyV K H v tv ∧ AnyV K H x tx ∧ AnyV K H y ty ∧
  ((isIn 0 5 u = false ∧ Raised K "InvalidPart" "name" (.str "have") H E) ∨ ∃ h : Nat, u = .int h ∧ h ≤ 5 ∧
    ((isIn 0 4 v = false ∧ Raised K "InvalidPart" "name" (.str "buy") H E) ∨ ∃ b : Nat, v = .int b ∧ b ≤ 4 ∧
      ((isIn 0 50 x = false ∧ Raised K "InvalidPart" "name" (.str "price") H E) ∨ ∃ c : Nat, x = .int c ∧ c ≤ 50 ∧
        ((isIn 1 3 y = false ∧ Raised K "InvalidPart" "name" (.str "pack") H E) ∨ ∃ k : Nat, y = .int k ∧ 1 ≤ k ∧ k ≤ 3 ∧
          ∀ H', But a H H' → H' a = some (.ins (fA K "Way") dx (wayF h b c k)) → Q .non H'))))
/-- a way is made of right parts -/
theorem c_way {K : Fr0} {H : Hp} {R : Addr → Hp → Prop} {E : XK} {h b c k : Nat} (ok : WayOk h b c k) (q : ∀ a H', H a = none → Same H H' → WayAt K H' a h b c k → R a H') :
    ∀ x dx, H x = none → H dx = none → dx ≠ x → spWayInit K (.ref x :: ([.int (h : Int), .int (b : Int), .int (c : Int), .int (k : Int)] ++ [])) (upd (upd H dx (.own x)) x (.ins (fA K "Way") dx [])) (fun v H2 => v = .non ∧ R x H2) E := by
  intro x dx nx nd ne
  refine ⟨x, dx, _, _, _, _, "int", "int", "int", "int", rfl, upd_same, .int _, .int _, .int _, .int _, .inr ⟨h, rfl, ok.h, .inr ⟨b, rfl, ok.b, .inr ⟨c, rfl, ok.c, .inr ⟨k, rfl, ok.k1, ok.k3, fun H' s e => ⟨rfl, q x H' nx (fun a o ea => ?_) ⟨dx, e⟩⟩⟩⟩⟩⟩⟩
  have h1 := ne_of_none ea nx
  have h2 := ne_of_none ea nd
  exact s a o h1 (by rw [upd_ne h1, upd_ne h2]; exact ea)
/-- the row stands where a table is changed -/
theorem RowAt.off {K : Fr0} {H H' : Hp} {r p : Addr} {l : List (Key × V)} (h : RowAt K H r) (hp : H p = some (.dK l)) (k : ∀ (x : Addr) (o : HO), x ≠ p → H x = some o → H' x = some o) : RowAt K H' r := by
  obtain ⟨s, ns, i, m, c, h1, h2, h3⟩ := h
  refine ⟨s, ns, i, m, c, k _ _ (fun z => ?_) h1, ?_, h3⟩
  · rw [z, hp] at h1
    cases h1
  · rcases h2 with (h2 | ⟨o, h2⟩) | h2
    · exact .inl (.inl (k _ _ (fun z => by rw [z, hp] at h2; cases h2) h2))
    · exact .inl (.inr ⟨o, k _ _ (fun z => by rw [z, hp] at h2; cases h2) h2⟩)
    · exact .inr h2
/-- a mean that a way and a number tell -/
def spMean (K : Fr0) (f : Nat → Nat → Nat → Nat → Nat → Rat) : Sp := fun vs H Q E => ∃ (a : Addr) (h b c k : Nat) (u : V) (t : String), vs = [.ref a, u] ∧ WayAt K H a h b c k ∧ WayOk h b c k ∧ AnyV K H u t ∧
  ((isIn ((max 1 (h + b) : Nat) : Int) 300 u = false ∧ Raised K "BadNumber" "n" u H E) ∨ ∃ n : Nat, u = .int n ∧ 1 ≤ n ∧ h + b ≤ n ∧ n ≤ 300 ∧ NewFr K H Q (f h b c k n))
theorem c_mean {K : Fr0} {H : Hp} {f : Nat → Nat → Nat → Nat → Nat → Rat} {a : Addr} {h b c k n : Nat} {Q : VK} {E : XK} (w : WayAt K H a h b c k) (o : WayOk h b c k) (n1 : 1 ≤ n) (hn : h + b ≤ n) (n3 : n ≤ 300) (q : NewFr K H Q (f h b c k n)) :
    spMean K f ([.ref a, .int (n : Int)] ++ []) H Q E := ⟨a, h, b, c, k, _, "int", rfl, w, o, .int _, .inr ⟨n, rfl, n1, hn, n3, q⟩⟩
end Ab
/-! PART sums: 1 over all numbers. -/
namespace Ab
open PySem PySem.Spec PyProof.Rows L2
def hN : Nat → Rat
  | 0 => 0
  | m + 1 => hN m + 1 / ((m + 1 : Nat) : Rat)
theorem hN_zd : ∀ m, Zd (hN m) (fac m)
  | 0 => Zd.int 0 _
  | m + 1 => by
    rw [hN, fac]
    have a := (hN_zd m).dvd (Nat.dvd_mul_left (fac m) (m + 1))
    have b := (Zd.int 1 1).div (m := m + 1) (Nat.succ_pos m)
    rw [show ((1 : Int) : Rat) = 1 from rfl, Nat.one_mul] at b
    exact a.add (b.dvd (Nat.dvd_mul_right _ _))
theorem hN_bd : ∀ m, 0 ≤ hN m ∧ hN m ≤ (m : Rat)
  | 0 => ⟨by rw [hN]; exact Rat.le_refl, by rw [hN]; exact Rat.le_refl⟩
  | m + 1 => by
    have h := hN_bd m
    have p := natq_pos (Nat.succ_pos m)
    rw [hN]
    have q0 : 0 ≤ 1 / ((m + 1 : Nat) : Rat) := rat_div_nonneg (by decide) p
    have q1 : 1 / ((m + 1 : Nat) : Rat) ≤ 1 := by
      refine rat_div_le ?_ p
      have : ((1 : Nat) : Rat) ≤ ((m + 1 : Nat) : Rat) := Rat.natCast_le_natCast.mpr (by omega)
      rw [Rat.one_mul]
      exact this
    refine ⟨Rat.add_nonneg h.1 q0, ?_⟩
    rw [nat_cast_add]
    have e : ((1 : Nat) : Rat) = 1 := rfl
    rw [e]
    grind
theorem hN_sz {m : Nat} (hm : m ≤ 300) : Sz (hN m) 2800 := by
  have f := fac_le (m := 9) m (by omega)
  have g : 2 ^ (9 * m) ≤ 2 ^ 2700 := pow_mono2 (by omega)
  have b := hN_bd m
  refine (hN_zd m).sz (B := m) (fac_pos m) (Rat.le_trans (by have := nat_nonneg m; grind) b.1) b.2 ?_ ?_
  · exact Nat.lt_of_le_of_lt (Nat.mul_le_mul hm (Nat.le_trans f g)) (by decide +kernel)
  · exact Nat.lt_of_le_of_lt (Nat.le_trans f g) (by decide +kernel)
theorem smL_hN (n : Nat) : ∀ d b, (smL n (b + d) b).sum = (n : Rat) * (hN (b + d) - hN b)
  | 0, b => by
    rw [Nat.add_zero, smL_self]
    show (0 : Rat) = _
    grind
  | d + 1, b => by
    have e := smL_down (n := n) (L := b + (d + 1)) (b := b) (by omega)
    have ih := smL_hN n d (b + 1)
    rw [show b + 1 + d = b + (d + 1) by omega] at ih
    rw [e, ih, hN, divInt_nat]
    grind
theorem mP_hN {n h b : Nat} (hb : b ≤ n - h) : mP n h b = (n : Rat) * (hN (n - h) - hN b) := by
  have e := smL_hN n (n - h - b) b
  rw [show b + (n - h - b) = n - h by omega] at e
  exact e
end Ab
/-! PART data: what data is a fraction, when lists differ. -/
namespace Ab
open PySem PySem.Spec PyProof.Rows L2
theorem eqvAll_at : ∀ {xs ys : List PyData} {i : Nat} {x y : PyData}, PyData.eqvAll xs ys = true → xs[i]? = some x → ys[i]? = some y → PyData.eqv x y = true
  | [], _, _, _, _, _, h, _ => by simp at h
  | _ :: _, [], _, _, _, _, _, h => by simp at h
  | x :: xs, y :: ys, 0, _, _, h, h1, h2 => by
    simp at h1 h2
    subst h1 h2
    rw [PyData.eqvAll, Bool.and_eq_true] at h
    exact h.1
  | x :: xs, y :: ys, i + 1, _, _, h, h1, h2 => by
    rw [PyData.eqvAll, Bool.and_eq_true] at h
    exact eqvAll_at h.2 (by simpa using h1) (by simpa using h2)
theorem eqvAll_len : ∀ {xs ys : List PyData}, PyData.eqvAll xs ys = true → xs.length = ys.length
  | [], [], _ => rfl
  | [], _ :: _, h => by rw [PyData.eqvAll] at h; cases h
  | _ :: _, [], h => by rw [PyData.eqvAll] at h; cases h
  | _ :: xs, _ :: ys, h => by
    rw [PyData.eqvAll, Bool.and_eq_true] at h
    rw [List.length_cons, List.length_cons, eqvAll_len h.2]
theorem eqv_pr {a b c d : Int} (h : PyData.eqv (pr a b) (pr c d) = true) : a = c ∧ b = d := by
  unfold pr at h
  rw [PyData.eqv, PyData.eqvAll, PyData.eqvAll, PyData.eqvAll, PyData.eqv, PyData.eqv] at h
  simpa using h
theorem eqv_fr {p q : Rat} (h : PyData.eqv (fr p) (fr q) = true) : p = q := by
  obtain ⟨h1, h2⟩ := eqv_pr h
  exact Rat.ext h1 (by exact_mod_cast h2)
/-- a fraction in lowest terms -/
def isFrD : PyData → Bool
  | .tuple [.int a, .int b] => decide (0 < b) && decide ((Int.gcd a b : Int) = 1)
  | _ => false
theorem isFrD_pr (a b : Int) : isFrD (pr a b) = (decide (0 < b) && decide ((Int.gcd a b : Int) = 1)) := rfl
theorem isFrD_fr (q : Rat) : isFrD (fr q) = true := by
  rw [isFrD_pr, Bool.and_eq_true]
  refine ⟨decide_eq_true (den_pos q), decide_eq_true ?_⟩
  have h : Nat.gcd q.num.natAbs q.den = 1 := q.reduced
  unfold Int.gcd
  rw [Int.natAbs_natCast, h]
  rfl
theorem isFrD_dbl (a b : Int) : isFrD (pr (2 * a) (2 * b)) = false := by
  rw [isFrD_pr, Int.gcd_mul_left]
  have : ¬ (((((2 : Int).natAbs * Int.gcd a b : Nat)) : Int) = 1) := by
    have e : (2 : Int).natAbs = 2 := rfl
    rw [e]
    omega
  rw [decide_eq_false this, Bool.and_false]
/-- the numbers in it are small -/
def frSmall (d : PyData) : Prop := ∀ a b, d = .tuple [.int a, .int b] → a.natAbs < 2 ^ 4000 ∧ b.natAbs < 2 ^ 4000
theorem frSmall_fr {q : Rat} {k : Nat} (h : Sz q k) (hk : k ≤ 4000) : frSmall (fr q) := by
  intro a b e
  unfold fr pr at e
  injection e with e
  injection e with e1 e
  injection e with e2 _
  injection e1 with e1
  injection e2 with e2
  subst e1 e2
  exact ⟨sz_mono h.n hk, sz_mono h.d' hk⟩
/-- what the answer is -/
def showB (ds : List PyData) (L : List Rat) : Bool := ds.all isFrD && PyData.eqv (.list ds) (.list (L.map fr))
theorem showB_yes (L : List Rat) : showB (L.map fr) L = true := by
  unfold showB
  rw [Bool.and_eq_true]
  refine ⟨List.all_eq_true.mpr fun d hd => ?_, SeqAt.eqv_refl _ (SeqAt.canLay_of_shaped (sh_frs L))⟩
  obtain ⟨q, _, rfl⟩ := List.mem_map.mp hd
  exact isFrD_fr q
theorem showB_bad {ds : List PyData} {L : List Rat} {d : PyData} (h : d ∈ ds) (n : isFrD d = false) : showB ds L = false := by
  unfold showB
  have : ds.all isFrD = false := by
    refine Bool.eq_false_iff.mpr fun z => ?_
    rw [List.all_eq_true.mp z d h] at n
    cases n
  rw [this, Bool.false_and]
theorem showB_len {ds : List PyData} {L : List Rat} (h : ds.length ≠ L.length) : showB ds L = false := by
  unfold showB
  have : PyData.eqv (.list ds) (.list (L.map fr)) = false := by
    refine Bool.eq_false_iff.mpr fun z => h ?_
    rw [PyData.eqv] at z
    have := eqvAll_len z
    rwa [List.length_map] at this
  rw [this, Bool.and_false]
theorem showB_at {ds : List PyData} {L : List Rat} {i : Nat} {d : PyData} {q : Rat} (h1 : ds[i]? = some d) (h2 : L[i]? = some q) (n : PyData.eqv d (fr q) = false) : showB ds L = false := by
  unfold showB
  have : PyData.eqv (.list ds) (.list (L.map fr)) = false := by
    refine Bool.eq_false_iff.mpr fun z => ?_
    rw [PyData.eqv] at z
    have := eqvAll_at z h1 (show (L.map fr)[i]? = some (fr q) by rw [List.getElem?_map, h2]; rfl)
    rw [this] at n
    cases n
  rw [this, Bool.and_false]
/-- slices -/
theorem sIx_of {n : Nat} {d : Nat} {i : Nat} (h : i ≤ n) : HT.sIx n d (some (i : Int)) = i := by
  unfold HT.sIx
  simp
  rw [if_neg (by omega)]
  omega
theorem cut_to {xs : List V} {i : Nat} (h : i ≤ xs.length) : cutV xs none (some (i : Int)) = xs.take i := by
  unfold cutV
  rw [sIx_of h, show HT.sIx xs.length 0 none = 0 from rfl, List.drop_zero, Nat.sub_zero]
theorem cut_from {xs : List V} {i : Nat} (h : i ≤ xs.length) : cutV xs (some (i : Int)) none = xs.drop i := by
  unfold cutV
  rw [sIx_of h, show HT.sIx xs.length xs.length none = xs.length from rfl, List.take_of_length_le (by rw [List.length_drop]; omega)]
theorem dpA_take {K : Fr0} {H : Hp} : ∀ {ds : List PyData} {vs : List V} (n : Nat), DpAll K H vs ds → DpAll K H (vs.take n) (ds.take n)
  | _, _, 0, _ => .nil
  | [], _, _ + 1, h => by cases h; exact .nil
  | _ :: _, _, n + 1, h => by
    cases h with
    | cons a b => exact .cons a (dpA_take n b)
theorem dpA_drop {K : Fr0} {H : Hp} : ∀ {ds : List PyData} {vs : List V} (n : Nat), DpAll K H vs ds → DpAll K H (vs.drop n) (ds.drop n)
  | _, _, 0, h => h
  | [], _, _ + 1, h => by cases h; exact .nil
  | _ :: _, _, n + 1, h => by
    cases h with
    | cons a b => exact dpA_drop n b
theorem dpA_bools_eq {K : Fr0} {H : Hp} : ∀ {l : List Bool} {acc : List V}, DpAll K H acc (l.map .bool) → acc = l.map V.bl
  | [], _, h => by cases h; rfl
  | i :: l, _, h => by
    rw [List.map_cons] at h
    cases h with
    | cons h1 h2 =>
      cases h1
      rw [dpA_bools_eq h2]
      rfl
/-- data's type -/
theorem sqt_ty {K : Fr0} {H : Hp} {a : Addr} {xs : List V} (h : SqT K H a xs) : TyX K H (.ref a) (.type "tuple") := by
  rcases h with (h | ⟨o, h⟩) | ⟨o, its, n, h, c, _⟩
  · exact .base (.tup h)
  · exact .fTuple h
  · exact .kTuple h c
theorem sql_ty {K : Fr0} {H : Hp} {a : Addr} {xs : List V} (h : SqL K H a xs) : TyX K H (.ref a) (.type "list") := by
  rcases h with (h | ⟨o, h⟩) | ⟨o, its, n, h, c, _⟩
  · exact .base (.lst h)
  · exact .base (.frz h)
  · exact .kList h c
def tyD : PyData → String
  | .none => "NoneType"
  | .bool _ => "bool"
  | .int _ => "int"
  | .str _ => "str"
  | .list _ => "list"
  | .tuple _ => "tuple"
  | .dict _ => "dict"
theorem dp_any {K : Fr0} {H : Hp} {v : V} {d : PyData} (h : Dp K H v d) : AnyV K H v (tyD d) := by
  cases h with
  | non => exact .non
  | bl b => exact .bl b
  | int i => exact .int i
  | str x => exact .str x
  | lst h1 h2 => exact .lst (sql_ty h1)
  | tup h1 h2 => exact .tup (sqt_ty h1)
def isID : PyData → Bool
  | .int _ => true
  | _ => false
theorem isI_dp {K : Fr0} {H : Hp} {v : V} {d : PyData} (h : Dp K H v d) : isI v = isID d := by cases h <;> rfl
/-! ### a list of data with one item changed -/
theorem sh_mem {ds : List PyData} (h : ∀ d ∈ ds, d.canLay0 = true ∧ d.depth ≤ 9) : SeqAt.shaped (.list ds) = true := by
  have a : PyData.canLayAll0 ds = true := by
    induction ds with
    | nil => rfl
    | cons d r ih =>
      rw [PyData.canLayAll0, (h d List.mem_cons_self).1, ih fun e he => h e (List.mem_cons_of_mem _ he)]
      rfl
  have b : PyData.depthAll ds ≤ 9 := by
    induction ds with
    | nil => rw [PyData.depthAll]; exact Nat.zero_le _
    | cons d r ih =>
      rw [PyData.depthAll]
      refine Nat.max_le.mpr ⟨(h d List.mem_cons_self).2, ih (fun e he => h e (List.mem_cons_of_mem _ he)) ?_⟩
      rw [PyData.canLayAll0, Bool.and_eq_true] at a
      exact a.2
  unfold SeqAt.shaped
  rw [Bool.and_eq_true, PyData.canLay0, PyData.depth]
  exact ⟨a, decide_eq_true (by omega)⟩
def bentD (L : List Rat) (k : Nat) (m : PyData) : List PyData := ((L.map fr).take k ++ [m]) ++ (L.map fr).drop (k + 1)
theorem bent_mem {L : List Rat} {k : Nat} {m d : PyData} (h : d ∈ bentD L k m) : d = m ∨ ∃ q ∈ L, d = fr q := by
  unfold bentD at h
  rcases List.mem_append.mp h with h | h
  · rcases List.mem_append.mp h with h | h
    · obtain ⟨q, hq, e⟩ := List.mem_map.mp (List.mem_of_mem_take h)
      exact .inr ⟨q, hq, e.symm⟩
    · exact .inl (List.mem_singleton.mp h)
  · obtain ⟨q, hq, e⟩ := List.mem_map.mp (List.mem_of_mem_drop h)
    exact .inr ⟨q, hq, e.symm⟩
theorem bent_in (L : List Rat) (k : Nat) (m : PyData) : m ∈ bentD L k m := by
  unfold bentD
  exact List.mem_append_left _ (List.mem_append_right _ (List.mem_singleton.mpr rfl))
theorem bent_at {L : List Rat} {k : Nat} {m : PyData} (h : k < L.length) : (bentD L k m)[k]? = some m := by
  unfold bentD
  have l1 : ((L.map fr).take k).length = k := by rw [List.length_take, List.length_map]; omega
  rw [List.getElem?_append_left (by rw [List.length_append, l1]; simp), List.getElem?_append_right (by omega), l1, Nat.sub_self]
  rfl
theorem bent_len {L : List Rat} {k : Nat} {m : PyData} : (bentD L k m).length ≤ L.length + 1 := by
  unfold bentD
  rw [List.length_append, List.length_append, List.length_take, List.length_drop, List.length_map]
  simp
  omega
/-- what a list handed to the asking has to be -/
structure ListOk (ds : List PyData) : Prop where
  small : ∀ d ∈ ds, frSmall d
  shp : SeqAt.shaped (.list ds) = true
  len : ds.length < 100000
theorem bent_ok {L : List Rat} {k : Nat} {m : PyData} (hL : ∀ q ∈ L, Sz q 10) (len : L.length ≤ 1000) (m1 : m.canLay0 = true) (m2 : m.depth ≤ 9) (m3 : frSmall m) : ListOk (bentD L k m) := by
  refine ⟨fun d hd => ?_, sh_mem fun d hd => ?_, by have := bent_len (L := L) (k := k) (m := m); omega⟩
  · rcases bent_mem hd with rfl | ⟨q, hq, rfl⟩
    · exact m3
    · exact frSmall_fr (hL q hq) (by decide)
  · rcases bent_mem hd with rfl | ⟨q, hq, rfl⟩
    · exact ⟨m1, m2⟩
    · exact ⟨rfl, dep_pr _ _⟩
theorem frs_ok {ds : List PyData} (h : ∀ d ∈ ds, ∃ q, d = fr q ∧ Sz q 10) (len : ds.length ≤ 10000) : ListOk ds := by
  refine ⟨fun d hd => ?_, sh_mem fun d hd => ?_, by omega⟩
  · obtain ⟨q, rfl, z⟩ := h d hd
    exact frSmall_fr z (by decide)
  · obtain ⟨q, rfl, _⟩ := h d hd
    exact ⟨rfl, dep_pr _ _⟩
theorem eqv_fr_ne {p q : Rat} (h : p ≠ q) : PyData.eqv (fr p) (fr q) = false := Bool.eq_false_iff.mpr fun z => h (eqv_fr z)
theorem smL_at {n L b k : Nat} (h : k < L - b) : (smL n L b)[k]? = some (Rat.divInt (n : Int) ((L - k : Nat) : Int)) := by
  unfold smL
  simp [h]
end Ab
/-! PART parts: tables of any values, the first part that is wrong. -/
namespace Ab
open PySem PySem.Spec PyProof.Rows L2
abbrev partsF (u v x y : V) : List (Key × V) := [(.inr "have", u), (.inr "buy", v), (.inr "price", x), (.inr "pack", y)]
/-- at p stands the table of these parts -/
def PartsAt (H : Hp) (p : Addr) (u v x y : V) : Prop := H p = some (.dK (partsF u v x y))
theorem PartsAt.same {H H' : Hp} {p : Addr} {u v x y : V} (s : Same H H') (w : PartsAt H p u v x y) : PartsAt H' p u v x y := s _ _ w
theorem PartsAt.chg {H H' : Hp} {r p : Addr} {u v x y : V} (s : Chg r H H') (w : PartsAt H p u v x y) : PartsAt H' p u v x y := s.at w fun _ z => nomatch z
theorem partsG {H : Hp} {p : Addr} {u v x y : V} (w : PartsAt H p u v x y) : DGet H p (.str "have") (some u) ∧ DGet H p (.str "buy") (some v) ∧ DGet H p (.str "price") (some x) ∧ DGet H p (.str "pack") (some y) :=
  ⟨DGet.k (k := .inr "have") w, DGet.k (k := .inr "buy") w, DGet.k (k := .inr "price") w, DGet.k (k := .inr "pack") w⟩
theorem DrawAt.parts {H : Hp} {p : Addr} {h b c k : Nat} (w : DrawAt H p h b c k) : PartsAt H p (.int h) (.int b) (.int c) (.int k) := w
/-- the first part that is wrong, None if there is none -/
def partOf (u v x y : V) : V := if isIn 0 5 u = false then .str "have" else if isIn 0 4 v = false then .str "buy" else if isIn 0 50 x = false then .str "price" else if isIn 1 3 y = false then .str "pack" else .non
theorem isIn_some {lo hi : Nat} {v : V} (h : isIn (lo : Int) (hi : Int) v = true) : ∃ n : Nat, v = .int n ∧ lo ≤ n ∧ n ≤ hi := by
  cases v <;> first | (unfold isIn at h; cases h; done) | skip
  rename_i i
  unfold isIn at h
  rw [Bool.and_eq_true, decide_eq_true_eq, decide_eq_true_eq] at h
  exact ⟨i.toNat, by congr 1; omega, by omega, by omega⟩
theorem isIn_or (lo hi : Int) (v : V) : isIn lo hi v = false ∨ isIn lo hi v = true := by cases isIn lo hi v <;> simp
/-- the promise of a making out of a table of any values -/
def spMadeX (K : Fr0) : Sp := fun vs H Q E => ∃ (p : Addr) (u v x y : V) (tu tv tx ty : String), vs = [.ref p] ∧ PartsAt H p u v x y ∧ AnyV K H u tu ∧ AnyV K H v tv ∧ AnyV K H x tx ∧ AnyV K H y ty ∧
  ((∃ z, partOf u v x y = .str z ∧ Raised K "InvalidPart" "name" (.str z) H E) ∨ ∃ h b c k : Nat, u = .int h ∧ v = .int b ∧ x = .int c ∧ y = .int k ∧ WayOk h b c k ∧ ∀ a H', H a = none → Same H H' → WayAt K H' a h b c k → Q (.ref a) H')
theorem c_madeX {K : Fr0} {H : Hp} {p : Addr} {h b c k : Nat} {Q : VK} {E : XK} (d : DrawAt H p h b c k) (ok : WayOk h b c k) (q : ∀ a H', H a = none → Same H H' → WayAt K H' a h b c k → Q (.ref a) H') : spMadeX K ([.ref p] ++ []) H Q E :=
  ⟨p, _, _, _, _, _, _, _, _, rfl, d.parts, .int _, .int _, .int _, .int _, .inr ⟨h, b, c, k, rfl, rfl, rfl, rfl, ok, q⟩⟩
theorem part_ok {u v x y : V} (h : partOf u v x y = .non) : ∃ h b c k : Nat, u = .int h ∧ v = .int b ∧ x = .int c ∧ y = .int k ∧ WayOk h b c k := by
  unfold partOf at h
  rcases isIn_or 0 5 u with e1 | e1
  · rw [if_pos e1] at h; cases h
  rw [if_neg (by rw [e1]; decide)] at h
  rcases isIn_or 0 4 v with e2 | e2
  · rw [if_pos e2] at h; cases h
  rw [if_neg (by rw [e2]; decide)] at h
  rcases isIn_or 0 50 x with e3 | e3
  · rw [if_pos e3] at h; cases h
  rw [if_neg (by rw [e3]; decide)] at h
  rcases isIn_or 1 3 y with e4 | e4
  · rw [if_pos e4] at h; cases h
  obtain ⟨a, rfl, _, a1⟩ := isIn_some (lo := 0) (hi := 5) e1
  obtain ⟨b, rfl, _, b1⟩ := isIn_some (lo := 0) (hi := 4) e2
  obtain ⟨c, rfl, _, c1⟩ := isIn_some (lo := 0) (hi := 50) e3
  obtain ⟨k, rfl, k0, k1⟩ := isIn_some (lo := 1) (hi := 3) e4
  exact ⟨a, b, c, k, rfl, rfl, rfl, rfl, ⟨a1, b1, c1, k0, k1⟩⟩
theorem part_or (u v x y : V) : partOf u v x y = .non ∨ ∃ z, partOf u v x y = .str z ∧ PyData.strOk z = true := by
  unfold partOf
  split
  · exact .inr ⟨_, rfl, by decide +kernel⟩
  · split
    · exact .inr ⟨_, rfl, by decide +kernel⟩
    · split
      · exact .inr ⟨_, rfl, by decide +kernel⟩
      · split
        · exact .inr ⟨_, rfl, by decide +kernel⟩
        · exact .inl rfl
/-- the wish at a making by its parts is the wish of Way's own making -/
theorem way_wish {K : Fr0} {H : Hp} {R : Addr → Hp → Prop} {E : XK} {u v x y : V} {tu tv tx ty : String} (hu : AnyV K H u tu) (hv : AnyV K H v tv) (hx : AnyV K H x tx) (hy : AnyV K H y ty)
    (h : (∃ z, partOf u v x y = .str z ∧ Raised K "InvalidPart" "name" (.str z) H E) ∨ ∃ h b c k : Nat, u = .int h ∧ v = .int b ∧ x = .int c ∧ y = .int k ∧ WayOk h b c k ∧ ∀ a H', H a = none → Same H H' → WayAt K H' a h b c k → R a H') :
    ∀ a dx, H a = none → H dx = none → dx ≠ a → spWayInit K (.ref a :: [u, v, x, y]) (upd (upd H dx (.own a)) a (.ins (fA K "Way") dx [])) (fun v H2 => v = .non ∧ R a H2) E := by
  intro a dx na nd ne
  rcases h with ⟨z, ez, rs⟩ | ⟨h, b, c, k, rfl, rfl, rfl, rfl, ok, q⟩
  · have s1 : Same H (upd (upd H dx (.own a)) a (.ins (fA K "Way") dx [])) := (same_new nd).trans (same_new (by rw [upd_ne ne.symm]; exact na))
    have rs' : ∀ zz, zz = z → Raised K "InvalidPart" "name" (.str zz) _ E := fun zz e => by rw [e]; exact rs.same s1
    refine ⟨a, dx, u, v, x, y, tu, tv, tx, ty, rfl, upd_same, hu.same s1, hv.same s1, hx.same s1, hy.same s1, ?_⟩
    unfold partOf at ez
    rcases isIn_or 0 5 u with e1 | e1
    · rw [if_pos e1] at ez
      injection ez with ez
      exact .inl ⟨e1, rs' _ ez⟩
    rw [if_neg (by rw [e1]; decide)] at ez
    obtain ⟨h, rfl, _, h5⟩ := isIn_some (lo := 0) (hi := 5) e1
    refine .inr ⟨h, rfl, h5, ?_⟩
    rcases isIn_or 0 4 v with e2 | e2
    · rw [if_pos e2] at ez
      injection ez with ez
      exact .inl ⟨e2, rs' _ ez⟩
    rw [if_neg (by rw [e2]; decide)] at ez
    obtain ⟨b, rfl, _, b4⟩ := isIn_some (lo := 0) (hi := 4) e2
    refine .inr ⟨b, rfl, b4, ?_⟩
    rcases isIn_or 0 50 x with e3 | e3
    · rw [if_pos e3] at ez
      injection ez with ez
      exact .inl ⟨e3, rs' _ ez⟩
    rw [if_neg (by rw [e3]; decide)] at ez
    obtain ⟨c, rfl, _, c50⟩ := isIn_some (lo := 0) (hi := 50) e3
    refine .inr ⟨c, rfl, c50, ?_⟩
    rcases isIn_or 1 3 y with e4 | e4
    · rw [if_pos e4] at ez
      injection ez with ez
      exact .inl ⟨e4, rs' _ ez⟩
    rw [if_neg (by rw [e4]; decide)] at ez
    cases ez
  · exact c_way ok q a dx na nd ne
/-- the odd values of a law's list: their objects -/
structure OddAt (H : Hp) (O p1 p2 p3 : Addr) : Prop where
  o : H O = some (.lst [.int 0, .int 1, .int 3, .int 4, .int 5, .int 6, .int 50, .int 51, .int (-1), .non, .bl true, .str "1", .ref p1, .ref p2, .ref p3])
  t : H p1 = some (.tup [.int 1])
  l : H p2 = some (.lst [])
  d : H p3 = some (.dK [])
inductive OddV (p1 p2 p3 : Addr) : V → Prop
  | int (i : Int) : OddV p1 p2 p3 (.int i)
  | non : OddV p1 p2 p3 .non
  | bl (b : Bool) : OddV p1 p2 p3 (.bl b)
  | str (z : Str) : OddV p1 p2 p3 (.str z)
  | t : OddV p1 p2 p3 (.ref p1)
  | l : OddV p1 p2 p3 (.ref p2)
  | d : OddV p1 p2 p3 (.ref p3)
theorem OddV.any {K : Fr0} {H : Hp} {O p1 p2 p3 : Addr} {v : V} (o : OddAt H O p1 p2 p3) (h : OddV p1 p2 p3 v) : ∃ t, AnyV K H v t := by
  cases h with
  | int i => exact ⟨_, .int i⟩
  | non => exact ⟨_, .non⟩
  | bl b => exact ⟨_, .bl b⟩
  | str z => exact ⟨_, .str z⟩
  | t => exact ⟨_, .tup (.base (.tup o.t))⟩
  | l => exact ⟨_, .lst (.base (.lst o.l))⟩
  | d => exact ⟨_, .dct (.base (.dK o.d))⟩
theorem OddAt.same {H H' : Hp} {O p1 p2 p3 : Addr} (s : Same H H') (o : OddAt H O p1 p2 p3) : OddAt H' O p1 p2 p3 := ⟨s _ _ o.o, s _ _ o.t, s _ _ o.l, s _ _ o.d⟩
theorem OddAt.but {H H' : Hp} {O p1 p2 p3 a : Addr} (s : But a H H') (o : OddAt H O p1 p2 p3) (n : O ≠ a ∧ p1 ≠ a ∧ p2 ≠ a ∧ p3 ≠ a) : OddAt H' O p1 p2 p3 := ⟨s _ _ n.1 o.o, s _ _ n.2.1 o.t, s _ _ n.2.2.1 o.l, s _ _ n.2.2.2 o.d⟩
theorem OddAt.ne {H : Hp} {O p1 p2 p3 a : Addr} (o : OddAt H O p1 p2 p3) (n : H a = none) : O ≠ a ∧ p1 ≠ a ∧ p2 ≠ a ∧ p3 ≠ a := ⟨ne_of_none o.o n, ne_of_none o.t n, ne_of_none o.l n, ne_of_none o.d n⟩
theorem Chg.but {r : Addr} {H H' : Hp} (c : Chg r H H') : But r H H' := c.kp
theorem But.set1 {H : Hp} {a : Addr} {o : HO} : But a H (upd H a o) := But.refl'.set
theorem RowAt.but {K : Fr0} {H H' : Hp} {r p : Addr} {l : List (Key × V)} (h : RowAt K H r) (hp : H p = some (.dK l)) (s : But p H H') : RowAt K H' r := h.off hp s
theorem WayAt.but {K : Fr0} {H H' : Hp} {a p : Addr} {h b c k : Nat} {l : List (Key × V)} (w : WayAt K H a h b c k) (hp : H p = some (.dK l)) (s : But p H H') : WayAt K H' a h b c k := by
  obtain ⟨dx, e⟩ := w
  refine ⟨dx, s _ _ (fun z => ?_) e⟩
  rw [z, hp] at e
  cases e
theorem r_neB {i j : Bool} {H : Hp} {Q : VK} (q : Q (.bl (!decide (i = j))) H) : rNe (.bl i) (.bl j) H Q := ⟨rfl, by rw [show decide (V.bl i = V.bl j) = decide (i = j) from decide_eq_decide.mpr ⟨V.bl.inj, congrArg _⟩]; exact q⟩
theorem kit_same {K : Fr0} {C : Addr} : PySem.W.kitOne K (.ref C) (.ref C) = some true := by unfold PySem.W.kitOne; simp
theorem nf_same {K : Fr0} {C : Addr} : PySem.W.notFirst K C (.ref C) = true := by unfold PySem.W.notFirst; simp
/-- == of ways -/
def sameWay (h b c k h' b' c' k' : Nat) : Bool := decide (h = h') && (decide (b = b') && (decide (c = c') && decide (k = k')))
def spWayEq (K : Fr0) : Sp := fun vs H Q _ => ∃ (a : Addr) (h b c k : Nat) (y : V), vs = [.ref a, y] ∧ WayAt K H a h b c k ∧
  ((∃ t, TyX K H y (.type t) ∧ PySem.W.kitOne K (.type t) (.ref (fA K "Way")) = some false ∧ Q (.bl false) H) ∨ ∃ (a' : Addr) (h' b' c' k' : Nat), y = .ref a' ∧ WayAt K H a' h' b' c' k' ∧ Q (.bl (sameWay h b c k h' b' c' k')) H)
/-- a property of a way -/
def spWayGet (K : Fr0) (g : Nat → Nat → Nat → Nat → Nat) : Sp := fun vs H Q _ => ∃ (a : Addr) (h b c k : Nat), vs = [.ref a] ∧ WayAt K H a h b c k ∧ Q (.int (g h b c k)) H
end Ab
namespace Ab
open PySem PySem.Spec PyProof.Rows L2
def top (i : Nat) : Stmt := PySem.Challenge.pw_albumforms_k01_ways_refused.main.body.getD i (.Pass ⟨0, 0, 0, 0⟩)
abbrev s_InvalidPart_init : Stmt := inClass (top 2) 0
abbrev N_InvalidPart_init : List Str := ["self", "name"]
theorem sc_InvalidPart_init : FnScope N_InvalidPart_init ["self", "name"] (defScope s_InvalidPart_init) := ⟨rfl, rfl, rfl, by decide +kernel, rfl, by decide +kernel, by decide +kernel⟩
theorem bd_InvalidPart_init : BindsAs s_InvalidPart_init "__init__" "InvalidPart.__init__" ["self", "name"] := fun _ _ _ _ _ _ us hl => match us, hl with | [_, _], _ => rfl
abbrev s_is_whole : Stmt := top 4
abbrev N_is_whole : List Str := ["value"]
theorem sc_is_whole : FnScope N_is_whole ["value"] (defScope s_is_whole) := ⟨rfl, rfl, rfl, by decide +kernel, rfl, by decide +kernel, by decide +kernel⟩
theorem bd_is_whole : BindsAs s_is_whole "is_whole" "is_whole" ["value"] := fun _ _ _ _ _ _ us hl => match us, hl with | [_], _ => rfl
abbrev s_is_within : Stmt := top 5
abbrev N_is_within : List Str := ["value", "low", "high"]
theorem sc_is_within : FnScope N_is_within ["value", "low", "high"] (defScope s_is_within) := ⟨rfl, rfl, rfl, by decide +kernel, rfl, by decide +kernel, by decide +kernel⟩
theorem bd_is_within : BindsAs s_is_within "is_within" "is_within" ["value", "low", "high"] := fun _ _ _ _ _ _ us hl => match us, hl with | [_, _, _], _ => rfl
abbrev s_Way_init : Stmt := inClass (top 11) 0
abbrev N_Way_init : List Str := ["self", "have", "buy", "price", "pack"]
theorem sc_Way_init : FnScope N_Way_init ["self", "have", "buy", "price", "pack"] (defScope s_Way_init) := ⟨rfl, rfl, rfl, by decide +kernel, rfl, by decide +kernel, by decide +kernel⟩
theorem bd_Way_init : BindsAs s_Way_init "__init__" "Way.__init__" ["self", "have", "buy", "price", "pack"] := fun _ _ _ _ _ _ us hl => match us, hl with | [_, _, _, _, _], _ => rfl
abbrev s_Way_have : Stmt := inClass (top 11) 1
abbrev N_Way_have : List Str := ["self"]
theorem sc_Way_have : FnScope N_Way_have ["self"] (defScope s_Way_have) := ⟨rfl, rfl, rfl, by decide +kernel, rfl, by decide +kernel, by decide +kernel⟩
theorem bd_Way_have : BindsAs s_Way_have "have" "Way.have" ["self"] := fun _ _ _ _ _ _ us hl => match us, hl with | [_], _ => rfl
abbrev s_Way_buy : Stmt := inClass (top 11) 2
abbrev N_Way_buy : List Str := ["self"]
theorem sc_Way_buy : FnScope N_Way_buy ["self"] (defScope s_Way_buy) := ⟨rfl, rfl, rfl, by decide +kernel, rfl, by decide +kernel, by decide +kernel⟩
theorem bd_Way_buy : BindsAs s_Way_buy "buy" "Way.buy" ["self"] := fun _ _ _ _ _ _ us hl => match us, hl with | [_], _ => rfl
abbrev s_Way_price : Stmt := inClass (top 11) 3
abbrev N_Way_price : List Str := ["self"]
theorem sc_Way_price : FnScope N_Way_price ["self"] (defScope s_Way_price) := ⟨rfl, rfl, rfl, by decide +kernel, rfl, by decide +kernel, by decide +kernel⟩
theorem bd_Way_price : BindsAs s_Way_price "price" "Way.price" ["self"] := fun _ _ _ _ _ _ us hl => match us, hl with | [_], _ => rfl
abbrev s_Way_pack : Stmt := inClass (top 11) 4
abbrev N_Way_pack : List Str := ["self"]
theorem sc_Way_pack : FnScope N_Way_pack ["self"] (defScope s_Way_pack) := ⟨rfl, rfl, rfl, by decide +kernel, rfl, by decide +kernel, by decide +kernel⟩
theorem bd_Way_pack : BindsAs s_Way_pack "pack" "Way.pack" ["self"] := fun _ _ _ _ _ _ us hl => match us, hl with | [_], _ => rfl
abbrev s_Way_least : Stmt := inClass (top 11) 5
abbrev N_Way_least : List Str := ["self"]
theorem sc_Way_least : FnScope N_Way_least ["self"] (defScope s_Way_least) := ⟨rfl, rfl, rfl, by decide +kernel, rfl, by decide +kernel, by decide +kernel⟩
theorem bd_Way_least : BindsAs s_Way_least "least" "Way.least" ["self"] := fun _ _ _ _ _ _ us hl => match us, hl with | [_], _ => rfl
abbrev s_Way_eq : Stmt := inClass (top 11) 6
abbrev N_Way_eq : List Str := ["self", "other"]
theorem sc_Way_eq : FnScope N_Way_eq ["self", "other"] (defScope s_Way_eq) := ⟨rfl, rfl, rfl, by decide +kernel, rfl, by decide +kernel, by decide +kernel⟩
theorem bd_Way_eq : BindsAs s_Way_eq "__eq__" "Way.__eq__" ["self", "other"] := fun _ _ _ _ _ _ us hl => match us, hl with | [_, _], _ => rfl
abbrev s_need_part : Stmt := top 12
abbrev N_need_part : List Str := ["name", "value", "low", "high"]
theorem sc_need_part : FnScope N_need_part ["name", "value", "low", "high"] (defScope s_need_part) := ⟨rfl, rfl, rfl, by decide +kernel, rfl, by decide +kernel, by decide +kernel⟩
theorem bd_need_part : BindsAs s_need_part "need_part" "need_part" ["name", "value", "low", "high"] := fun _ _ _ _ _ _ us hl => match us, hl with | [_, _, _, _], _ => rfl
abbrev s_law_taken : Stmt := top 14
abbrev N_law_taken : List Str := ["_law_row", "_law_many", "_law_found", "_law_cell"]
theorem sc_law_taken : FnScope N_law_taken ["_law_row", "_law_many"] (defScope s_law_taken) := ⟨rfl, rfl, rfl, by decide +kernel, rfl, by decide +kernel, by decide +kernel⟩
theorem bd_law_taken : BindsAs s_law_taken "_law_taken" "_law_taken" ["_law_row", "_law_many"] := fun _ _ _ _ _ _ us hl => match us, hl with | [_, _], _ => rfl
abbrev s_law_drawn : Stmt := top 15
abbrev N_law_drawn : List Str := ["_law_row", "_law_d"]
theorem sc_law_drawn : FnScope N_law_drawn ["_law_row"] (defScope s_law_drawn) := ⟨rfl, rfl, rfl, by decide +kernel, rfl, by decide +kernel, by decide +kernel⟩
theorem bd_law_drawn : BindsAs s_law_drawn "_law_drawn" "_law_drawn" ["_law_row"] := fun _ _ _ _ _ _ us hl => match us, hl with | [_], _ => rfl
abbrev s_law_least : Stmt := top 16
abbrev N_law_least : List Str := ["_law_d"]
theorem sc_law_least : FnScope N_law_least ["_law_d"] (defScope s_law_least) := ⟨rfl, rfl, rfl, by decide +kernel, rfl, by decide +kernel, by decide +kernel⟩
theorem bd_law_least : BindsAs s_law_least "_law_least" "_law_least" ["_law_d"] := fun _ _ _ _ _ _ us hl => match us, hl with | [_], _ => rfl
abbrev s_law_made : Stmt := top 17
abbrev N_law_made : List Str := ["_law_d"]
theorem sc_law_made : FnScope N_law_made ["_law_d"] (defScope s_law_made) := ⟨rfl, rfl, rfl, by decide +kernel, rfl, by decide +kernel, by decide +kernel⟩
theorem bd_law_made : BindsAs s_law_made "_law_made" "_law_made" ["_law_d"] := fun _ _ _ _ _ _ us hl => match us, hl with | [_], _ => rfl
abbrev s_law_refused : Stmt := top 18
abbrev N_law_refused : List Str := ["_law_d", "_law_told", "_law_e"]
theorem sc_law_refused : FnScope N_law_refused ["_law_d"] (defScope s_law_refused) := ⟨rfl, rfl, rfl, by decide +kernel, rfl, by decide +kernel, by decide +kernel⟩
theorem bd_law_refused : BindsAs s_law_refused "_law_refused" "_law_refused" ["_law_d"] := fun _ _ _ _ _ _ us hl => match us, hl with | [_], _ => rfl
abbrev s_law_wrong : Stmt := top 19
abbrev N_law_wrong : List Str := ["_law_d", "_law_name", "_law_low", "_law_high"]
theorem sc_law_wrong : FnScope N_law_wrong ["_law_d"] (defScope s_law_wrong) := ⟨rfl, rfl, rfl, by decide +kernel, rfl, by decide +kernel, by decide +kernel⟩
theorem bd_law_wrong : BindsAs s_law_wrong "_law_wrong" "_law_wrong" ["_law_d"] := fun _ _ _ _ _ _ us hl => match us, hl with | [_], _ => rfl
abbrev s_law : Stmt := top 20
abbrev N_law : List Str := ["_law_script", "_law_row", "_law_odd", "_law_turn", "_law_d", "_law_way", "_law_e", "_law_part", "_law_k"]
theorem sc_law : FnScope N_law ["_law_script"] (defScope s_law) := ⟨rfl, rfl, rfl, by decide +kernel, rfl, by decide +kernel, by decide +kernel⟩
theorem bd_law : BindsAs s_law "law" "law" ["_law_script"] := fun _ _ _ _ _ _ us hl => match us, hl with | [_], _ => rfl
/-- what the written part says of the text -/
structure Txt (K : Fr0) (mg : Str → Option Value) : Prop where
  d_InvalidPart_init : TopM K "InvalidPart" "__init__" "InvalidPart.__init__" s_InvalidPart_init
  d_is_whole : Top K mg "is_whole" s_is_whole
  d_is_within : Top K mg "is_within" s_is_within
  d_Way_init : TopM K "Way" "__init__" "Way.__init__" s_Way_init
  d_Way_have : TopP K "Way" "have" "Way.have" s_Way_have
  p_Way_have : PropOf K (fA K "Way") "have" (mA K "Way" "have") (gA K "Way" "have")
  d_Way_buy : TopP K "Way" "buy" "Way.buy" s_Way_buy
  p_Way_buy : PropOf K (fA K "Way") "buy" (mA K "Way" "buy") (gA K "Way" "buy")
  d_Way_price : TopP K "Way" "price" "Way.price" s_Way_price
  p_Way_price : PropOf K (fA K "Way") "price" (mA K "Way" "price") (gA K "Way" "price")
  d_Way_pack : TopP K "Way" "pack" "Way.pack" s_Way_pack
  p_Way_pack : PropOf K (fA K "Way") "pack" (mA K "Way" "pack") (gA K "Way" "pack")
  d_Way_least : TopP K "Way" "least" "Way.least" s_Way_least
  p_Way_least : PropOf K (fA K "Way") "least" (mA K "Way" "least") (gA K "Way" "least")
  d_Way_eq : TopM K "Way" "__eq__" "Way.__eq__" s_Way_eq
  m_Way_eq : Meth K (fA K "Way") "__eq__" (mA K "Way" "__eq__")
  d_need_part : Top K mg "need_part" s_need_part
  d_law_taken : Top K mg "_law_taken" s_law_taken
  d_law_drawn : Top K mg "_law_drawn" s_law_drawn
  d_law_least : Top K mg "_law_least" s_law_least
  d_law_made : Top K mg "_law_made" s_law_made
  d_law_refused : Top K mg "_law_refused" s_law_refused
  d_law_wrong : Top K mg "_law_wrong" s_law_wrong
  d_law : Top K mg "law" s_law
  b_bool : mg "bool" = none
  b_dict : mg "dict" = none
  b_int : mg "int" = none
  b_isinstance : mg "isinstance" = none
  b_len : mg "len" = none
  b_max : mg "max" = none
  b_range : mg "range" = none
  g_AlbumError : mg "AlbumError" = some (.ref (fA K "AlbumError"))
  h_AlbumError : BaseF K (fA K "AlbumError")
  g_InvalidPart : mg "InvalidPart" = some (.ref (fA K "InvalidPart"))
  x_InvalidPart : ExcF K "InvalidPart" ["name"]
  e_InvalidPart_AlbumError : PySem.W.exmOne K (.ref (fA K "InvalidPart")) (.ref (fA K "AlbumError")) = some true
  e_InvalidPart_InvalidPart : PySem.W.exmOne K (.ref (fA K "InvalidPart")) (.ref (fA K "InvalidPart")) = some true
  g_Way : mg "Way" = some (.ref (fA K "Way"))
  cl_Way : Cls K (fA K "Way")
  mk_Way : Mk K (fA K "Way") (mA K "Way" "__init__")
  n_Way_begun : NoAttr K (fA K "Way") "begun"
  n_Way_last : NoAttr K (fA K "Way") "last"
  n_Way_each : NoAttr K (fA K "Way") "each"
  n_Way_charge : NoAttr K (fA K "Way") "charge"
  n_Way_low : NoAttr K (fA K "Way") "low"
  kd_Way : PySem.W.kitOne K (.type "dict") (.ref (fA K "Way")) = some false
  nf_Way : PySem.W.notFirst K (fA K "Way") (.type "dict") = true
  i_Way : InsF K (fA K "Way")
  c_MOST_HAVE : ∃ t, mg "MOST_HAVE" = some (.int 5 t)
  c_MOST_BUY : ∃ t, mg "MOST_BUY" = some (.int 4 t)
  c_MOST_PRICE : ∃ t, mg "MOST_PRICE" = some (.int 50 t)
  c_MOST_PACK : ∃ t, mg "MOST_PACK" = some (.int 3 t)
def fn : List He5.DefA := [
  ⟨fun K => mA K "InvalidPart" "__init__", "__init__", "InvalidPart.__init__", defArgs s_InvalidPart_init, defBody s_InvalidPart_init, defScope s_InvalidPart_init, [], []⟩,
  ⟨fun K => fA K "is_whole", "is_whole", "is_whole", defArgs s_is_whole, defBody s_is_whole, defScope s_is_whole, [], []⟩,
  ⟨fun K => fA K "is_within", "is_within", "is_within", defArgs s_is_within, defBody s_is_within, defScope s_is_within, [], []⟩,
  ⟨fun K => mA K "Way" "__init__", "__init__", "Way.__init__", defArgs s_Way_init, defBody s_Way_init, defScope s_Way_init, [], []⟩,
  ⟨fun K => gA K "Way" "have", "have", "Way.have", defArgs s_Way_have, defBody s_Way_have, defScope s_Way_have, [], []⟩,
  ⟨fun K => gA K "Way" "buy", "buy", "Way.buy", defArgs s_Way_buy, defBody s_Way_buy, defScope s_Way_buy, [], []⟩,
  ⟨fun K => gA K "Way" "price", "price", "Way.price", defArgs s_Way_price, defBody s_Way_price, defScope s_Way_price, [], []⟩,
  ⟨fun K => gA K "Way" "pack", "pack", "Way.pack", defArgs s_Way_pack, defBody s_Way_pack, defScope s_Way_pack, [], []⟩,
  ⟨fun K => gA K "Way" "least", "least", "Way.least", defArgs s_Way_least, defBody s_Way_least, defScope s_Way_least, [], []⟩,
  ⟨fun K => mA K "Way" "__eq__", "__eq__", "Way.__eq__", defArgs s_Way_eq, defBody s_Way_eq, defScope s_Way_eq, [], []⟩,
  ⟨fun K => fA K "need_part", "need_part", "need_part", defArgs s_need_part, defBody s_need_part, defScope s_need_part, [], []⟩,
  ⟨fun K => fA K "_law_taken", "_law_taken", "_law_taken", defArgs s_law_taken, defBody s_law_taken, defScope s_law_taken, [], []⟩,
  ⟨fun K => fA K "_law_drawn", "_law_drawn", "_law_drawn", defArgs s_law_drawn, defBody s_law_drawn, defScope s_law_drawn, [], []⟩,
  ⟨fun K => fA K "_law_least", "_law_least", "_law_least", defArgs s_law_least, defBody s_law_least, defScope s_law_least, [], []⟩,
  ⟨fun K => fA K "_law_made", "_law_made", "_law_made", defArgs s_law_made, defBody s_law_made, defScope s_law_made, [], []⟩,
  ⟨fun K => fA K "_law_refused", "_law_refused", "_law_refused", defArgs s_law_refused, defBody s_law_refused, defScope s_law_refused, [], []⟩,
  ⟨fun K => fA K "_law_wrong", "_law_wrong", "_law_wrong", defArgs s_law_wrong, defBody s_law_wrong, defScope s_law_wrong, [], []⟩,
  ⟨fun K => fA K "law", "law", "law", defArgs s_law, defBody s_law, defScope s_law, [], []⟩]
def fs : List Fact := [
  fun K => (He.Fa.glo "is_whole").ok K,
  fun K => (He.Fa.glo "is_within").ok K,
  propB "Way" "have",
  propB "Way" "buy",
  propB "Way" "price",
  propB "Way" "pack",
  propB "Way" "least",
  fun K => (He.Fa.meth "Way" "__eq__").ok K,
  fun K => (He.Fa.glo "need_part").ok K,
  fun K => (He.Fa.glo "_law_taken").ok K,
  fun K => (He.Fa.glo "_law_drawn").ok K,
  fun K => (He.Fa.glo "_law_least").ok K,
  fun K => (He.Fa.glo "_law_made").ok K,
  fun K => (He.Fa.glo "_law_refused").ok K,
  fun K => (He.Fa.glo "_law_wrong").ok K,
  fun K => (He.Fa.glo "law").ok K,
  fun K => (He.Fa.free "bool").ok K,
  fun K => (He.Fa.free "dict").ok K,
  fun K => (He.Fa.free "int").ok K,
  fun K => (He.Fa.free "isinstance").ok K,
  fun K => (He.Fa.free "len").ok K,
  fun K => (He.Fa.free "max").ok K,
  fun K => (He.Fa.free "range").ok K,
  fun K => (He.Fa.glo "AlbumError").ok K,
  baseB "AlbumError",
  fun K => (He.Fa.glo "InvalidPart").ok K,
  excB "InvalidPart" ["name"],
  fun K => (He.Fa.exm "InvalidPart" "AlbumError" true).ok K,
  fun K => (He.Fa.exm "InvalidPart" "InvalidPart" true).ok K,
  fun K => (He.Fa.glo "Way").ok K,
  fun K => (He.Fa.cls "Way").ok K,
  fun K => (He.Fa.mkr "Way").ok K,
  fun K => (He.Fa.noat "Way" "begun").ok K,
  fun K => (He.Fa.noat "Way" "last").ok K,
  fun K => (He.Fa.noat "Way" "each").ok K,
  fun K => (He.Fa.noat "Way" "charge").ok K,
  fun K => (He.Fa.noat "Way" "low").ok K,
  fun K => decide (PySem.W.kitOne K (.type "dict") (.ref (fA K "Way")) = some false),
  fun K => PySem.W.notFirst K (fA K "Way") (.type "dict"),
  insB "Way",
  fun K => (He.Fa.int "MOST_HAVE" 5).ok K,
  fun K => (He.Fa.int "MOST_BUY" 4).ok K,
  fun K => (He.Fa.int "MOST_PRICE" 50).ok K,
  fun K => (He.Fa.int "MOST_PACK" 3).ok K]
theorem txt_of {K : Fr0} {h : Heap} {mg : Str → Option Value} (X : K.In h) (G : h.Ns mainGlobals mg) (c : SaysB fs fn K) : Txt K mg where
  d_InvalidPart_init := ⟨c.dfn 0⟩
  d_is_whole := ⟨c.dfn 1, He.glo_ok X G (x := "is_whole") (c.fact 0)⟩
  d_is_within := ⟨c.dfn 2, He.glo_ok X G (x := "is_within") (c.fact 1)⟩
  d_Way_init := ⟨c.dfn 3⟩
  d_Way_have := ⟨c.dfn 4⟩
  p_Way_have := propB_ok (c.fact 2)
  d_Way_buy := ⟨c.dfn 5⟩
  p_Way_buy := propB_ok (c.fact 3)
  d_Way_price := ⟨c.dfn 6⟩
  p_Way_price := propB_ok (c.fact 4)
  d_Way_pack := ⟨c.dfn 7⟩
  p_Way_pack := propB_ok (c.fact 5)
  d_Way_least := ⟨c.dfn 8⟩
  p_Way_least := propB_ok (c.fact 6)
  d_Way_eq := ⟨c.dfn 9⟩
  m_Way_eq := He.meth_ok (c.fact 7)
  d_need_part := ⟨c.dfn 10, He.glo_ok X G (x := "need_part") (c.fact 8)⟩
  d_law_taken := ⟨c.dfn 11, He.glo_ok X G (x := "_law_taken") (c.fact 9)⟩
  d_law_drawn := ⟨c.dfn 12, He.glo_ok X G (x := "_law_drawn") (c.fact 10)⟩
  d_law_least := ⟨c.dfn 13, He.glo_ok X G (x := "_law_least") (c.fact 11)⟩
  d_law_made := ⟨c.dfn 14, He.glo_ok X G (x := "_law_made") (c.fact 12)⟩
  d_law_refused := ⟨c.dfn 15, He.glo_ok X G (x := "_law_refused") (c.fact 13)⟩
  d_law_wrong := ⟨c.dfn 16, He.glo_ok X G (x := "_law_wrong") (c.fact 14)⟩
  d_law := ⟨c.dfn 17, He.glo_ok X G (x := "law") (c.fact 15)⟩
  b_bool := He.free_ok X G (x := "bool") (c.fact 16)
  b_dict := He.free_ok X G (x := "dict") (c.fact 17)
  b_int := He.free_ok X G (x := "int") (c.fact 18)
  b_isinstance := He.free_ok X G (x := "isinstance") (c.fact 19)
  b_len := He.free_ok X G (x := "len") (c.fact 20)
  b_max := He.free_ok X G (x := "max") (c.fact 21)
  b_range := He.free_ok X G (x := "range") (c.fact 22)
  g_AlbumError := He.glo_ok X G (x := "AlbumError") (c.fact 23)
  h_AlbumError := baseB_ok (c.fact 24)
  g_InvalidPart := He.glo_ok X G (x := "InvalidPart") (c.fact 25)
  x_InvalidPart := excB_ok (c.fact 26)
  e_InvalidPart_AlbumError := He.exm_ok (c.fact 27)
  e_InvalidPart_InvalidPart := He.exm_ok (c.fact 28)
  g_Way := He.glo_ok X G (x := "Way") (c.fact 29)
  cl_Way := He.cls_ok (c.fact 30)
  mk_Way := He.mkr_ok (c.fact 31)
  n_Way_begun := He.noat_ok (c.fact 32)
  n_Way_last := He.noat_ok (c.fact 33)
  n_Way_each := He.noat_ok (c.fact 34)
  n_Way_charge := He.noat_ok (c.fact 35)
  n_Way_low := He.noat_ok (c.fact 36)
  kd_Way := of_decide_eq_true (c.fact 37)
  nf_Way := c.fact 38
  i_Way := insB_ok (c.fact 39)
  c_MOST_HAVE := He.int_ok X G (x := "MOST_HAVE") (c.fact 40)
  c_MOST_BUY := He.int_ok X G (x := "MOST_BUY") (c.fact 41)
  c_MOST_PRICE := He.int_ok X G (x := "MOST_PRICE") (c.fact 42)
  c_MOST_PACK := He.int_ok X G (x := "MOST_PACK") (c.fact 43)
/-! ### the driver -/
local macro_rules | `(tactic| walk_at "dat") => `(tactic| first
  | assumption
  | (refine dp_same (by assumption) ?_; walk_at "dat")
  | (refine dp_same (same_new (by assumption)) ?_; walk_at "dat"))
local macro_rules | `(tactic| walk_at "rd1") => `(tactic| first
  | with_reducible refine r_seq ?_ | with_reducible refine r_asg ?_ | with_reducible refine r_ret ?_ | with_reducible refine r_drop ?_ | with_reducible refine r_next ?_
  | ((with_reducible refine r_var (v := ?vv) ?e ?_); (case e => exact rfl))
  | with_reducible refine r_c ?_ | with_reducible refine r_op ?_ | with_reducible refine r_i0 ?_
  | with_reducible refine r_nil ?_ | with_reducible refine r_cons ?_ | with_reducible refine r_call ?_ | with_reducible refine r_callS ?_ | with_reducible refine r_cb ?_
  | with_reducible refine r_tup ?_ | with_reducible refine r_lst ?_ | with_reducible refine r_test ?_ | with_reducible refine r_B ?_ | with_reducible refine r_bl ?_
  | with_reducible refine r_not ?_ | with_reducible refine r_and ?_ | with_reducible refine r_or ?_ | with_reducible refine r_andV ?_ | with_reducible refine r_orV ?_ | with_reducible refine r_notV ?_
  | with_reducible refine r_chain ?_ | with_reducible refine r_un ?_ | with_reducible refine r_u ?_ | with_reducible refine r_bm ?_ | with_reducible refine r_bm0 ?_
  | with_reducible refine r_for ?_ | with_reducible refine r_par ?_ | with_reducible refine r_retN ?_ | with_reducible refine r_slice ?_ | with_reducible refine r_part ?_ | with_reducible refine r_nopart ?_
  | with_reducible refine r_vei ?_ | with_reducible refine r_ost ?_
  | with_reducible refine r_rng1 ?_ | with_reducible refine r_rng2 ?_ | with_reducible refine r_rng3 ?_ | with_reducible refine r_iList ?_ | with_reducible refine r_iTup ?_
  | with_reducible refine r_gsub ?_ | ((with_reducible refine' r_ixA ?h ?e ?_); (case h => (first | assumption | exact upd_same)); (case e => exact rfl))
  | with_reducible refine r_fld ?_ | with_reducible refine r_sfld ?_ | with_reducible refine r_make ?_ | with_reducible refine r_revL ?_ | with_reducible refine r_gcons ?_ | with_reducible refine r_gnil ?_ | with_reducible refine r_eqI ?_ | with_reducible refine r_neI ?_ | with_reducible refine r_iff ?_ | with_reducible refine r_ift ?_ | with_reducible refine r_niff ?_ | with_reducible refine r_nift ?_ | with_reducible refine r_lc ?_ | with_reducible refine r_xf ?_ | with_reducible refine r_dput ?_ | with_reducible refine r_dget ?_ | with_reducible refine r_prs ?_ | with_reducible refine r_prs0 ?_
  | with_reducible refine r_lstRg2 ?_ | with_reducible refine r_lstRg1 ?_ | with_reducible refine r_tupRg2 ?_ | with_reducible refine r_callE ?_ | with_reducible refine r_makeS ?_ | with_reducible refine r_prop ?_
  | with_reducible refine r_brk ?_ | with_reducible refine r_cont ?_
  | with_reducible refine r_name ?_ | refine r_pairS ?_
  | ((with_reducible refine' r_fst ?h ?_); (case h => walk_at "dat")) | ((with_reducible refine' r_snd ?h ?_); (case h => walk_at "dat"))
  | with_reducible refine ⟨_, rfl, ?_⟩ | with_reducible refine Or.inl ⟨_, rfl, ?_⟩)
local macro_rules | `(tactic| walk_at "k0") => `(tactic| try dsimp only [cxOf, Cx.nox, Cx.wish])
local macro_rules | `(tactic| walk_at "rd") => `(tactic| repeat walk_at "rd1")
local macro_rules | `(tactic| walk_at "if") => `(tactic| ((first | with_reducible refine r_if ?_ | with_reducible refine r_ifS ?_); (repeat walk_at "rd1")))
section
variable {P : Program} {w : World} {K : Fr0} {mg : Str → Option Value} {base : Heap}
theorem ok_InvalidPart_init (T : Txt K mg) : OkM P w K mg base CX0 1 "InvalidPart" "__init__" ["self", "name"] (spI1 K "InvalidPart" "name") := by
  refine T.d_InvalidPart_init.ok sc_InvalidPart_init bd_InvalidPart_init (fun vs H Q E h => by obtain ⟨a, y, rfl, _⟩ := h; rfl) (fun cdv A outer s H vs Q E hr h => ?_)
  obtain ⟨a, y, rfl, ha, q⟩ := h
  refine ⟨_, PSs.nox (pss_cons (ps_expr (pe_alb T.h_AlbumError T.g_AlbumError (pa_cons (pv 0) (pa_cons pe_str pa_nil))))
      (pss_one (ps_ost (pv 0) (pv 1)))), ?_⟩
  repeat walk_at "rd1"
  refine ⟨a, fA K "InvalidPart", _, rfl, by show 1 ≤ 1000; decide, T.x_InvalidPart.o, ha, ?_⟩
  repeat walk_at "rd1"
  refine ⟨a, fA K "InvalidPart", rfl, T.x_InvalidPart.o, T.x_InvalidPart.no _ (.head _), .inl ⟨ha, fun dx n1 n2 => ?_⟩⟩
  exact q dx n1 n2

end
section
variable {P : Program} {w : World} {K : Fr0} {mg : Str → Option Value} {base : Heap}
def spWhole (K : Fr0) : Sp := fun vs H Q _ => ∃ (v : V) (t : String), vs = [v] ∧ AnyV K H v t ∧ Q (.bl (isI v)) H
theorem ok_is_whole (T : Txt K mg) : Ok P w K mg base CX0 1 "is_whole" ["value"] (spWhole K) := by
  refine T.d_is_whole.ok sc_is_whole bd_is_whole (fun vs H Q E h => by obtain ⟨v, t, rfl, _⟩ := h; rfl) (fun cdv A outer s H vs Q E hr h => ?_)
  obtain ⟨v, t, rfl, ha, q⟩ := h
  refine ⟨_, PSs.nox (pss_one (ps_ret (pe_and (pe_callB (isiKK (K := K) rfl) rfl T.b_isinstance (by decide +kernel) (pa_cons (pv 0) (pa_cons (pe_bltn (v := .ty "int") (u := .type "int") rfl T.b_int (by decide +kernel) rfl) pa_nil))) (pe_one (pe_not (pe_callB (isiKK (K := K) rfl) rfl T.b_isinstance (by decide +kernel) (pa_cons (pv 0) (pa_cons (pe_bltn (v := .ty "bool") (u := .type "bool") rfl T.b_bool (by decide +kernel) rfl) pa_nil)))))))), ?_⟩
  repeat walk_at "rd1"
  cases ha with
  | int i =>
    refine isi_ty (T := "int") (b := true) (.int i) (by decide +kernel) ?_
    refine ⟨_, rfl, iteT ?_⟩
    repeat walk_at "rd1"
    refine isi_ty (T := "bool") (b := false) (.int i) (by decide +kernel) ?_
    exact ⟨_, rfl, q⟩
  | bl b =>
    refine isi_ty (T := "int") (b := true) (.bl b) (by decide +kernel) ?_
    refine ⟨_, rfl, iteT ?_⟩
    repeat walk_at "rd1"
    refine isi_ty (T := "bool") (b := true) (.bl b) (by decide +kernel) ?_
    exact ⟨_, rfl, q⟩
  | non =>
    refine isi_ty (T := "int") (b := false) .non (by decide +kernel) ?_
    exact ⟨_, rfl, iteF q⟩
  | str x =>
    refine isi_ty (T := "int") (b := false) (.str x) (by decide +kernel) ?_
    exact ⟨_, rfl, iteF q⟩
  | tup h =>
    refine isi_ty (T := "int") (b := false) (.tup h) (by decide +kernel) ?_
    exact ⟨_, rfl, iteF q⟩
  | lst h =>
    refine isi_ty (T := "int") (b := false) (.lst h) (by decide +kernel) ?_
    exact ⟨_, rfl, iteF q⟩
  | dct h =>
    refine isi_ty (T := "int") (b := false) (.dct h) (by decide +kernel) ?_
    exact ⟨_, rfl, iteF q⟩

end
section
variable {P : Program} {w : World} {K : Fr0} {mg : Str → Option Value} {base : Heap}
def spWithin (K : Fr0) : Sp := fun vs H Q _ => ∃ (v : V) (t : String) (lo hi : Int), vs = [v, .int lo, .int hi] ∧ AnyV K H v t ∧ Q (.bl (isIn lo hi v)) H
theorem ok_is_within (T : Txt K mg) : Ok P w K mg base CX0 2 "is_within" ["value", "low", "high"] (spWithin K) := by
  refine T.d_is_within.ok sc_is_within bd_is_within (fun vs H Q E h => by obtain ⟨v, t, lo, hi, rfl, _⟩ := h; rfl) (fun cdv A outer s H vs Q E hr h => ?_)
  obtain ⟨v, t, lo, hi, rfl, ha, q⟩ := h
  refine ⟨_, PSs.nox (pss_one (ps_ret (pe_and (pe_f (ok_is_whole T) (hr.mono (by decide)) pass0 (pa_cons (pv 0) pa_nil)) (pe_one (pe_chain op_le op_le (pv 1) (pv 0) (pv 2)))))), ?_⟩
  repeat walk_at "rd1"
  refine ⟨v, t, rfl, ha, ⟨_, rfl, ?_⟩⟩
  cases ha with
  | int i =>
    refine iteT ?_
    repeat walk_at "rd1"
    have q : Q (.bl (decide (lo ≤ i) && decide (i ≤ hi))) H := q
    by_cases h1 : lo ≤ i
    · rw [decide_eq_true h1] at q ⊢
      refine iteT ?_
      repeat walk_at "rd1"
      exact q
    · rw [decide_eq_false h1] at q ⊢
      exact iteF q
  | bl b => exact iteF q
  | non => exact iteF q
  | str x => exact iteF q
  | tup h => exact iteF q
  | lst h => exact iteF q
  | dct h => exact iteF q

end
section
variable {P : Program} {w : World} {K : Fr0} {mg : Str → Option Value} {base : Heap}
def spNeedP (K : Fr0) : Sp := fun vs H Q E => ∃ (z : Str) (v : V) (t : String) (lo hi : Int), vs = [.str z, v, .int lo, .int hi] ∧ AnyV K H v t ∧ (isIn lo hi v = true → Q .non H) ∧ (isIn lo hi v = false → Raised K "InvalidPart" "name" (.str z) H E)
theorem ok_need_part (T : Txt K mg) : Ok P w K mg base (L2.CX P w) 4 "need_part" ["name", "value", "low", "high"] (spNeedP K) := by
  refine T.d_need_part.ok sc_need_part bd_need_part (fun vs H Q E h => by obtain ⟨z, v, t, lo, hi, rfl, _⟩ := h; rfl) (fun cdv A outer s H vs Q E hr h => ?_)
  obtain ⟨z, v, t, lo, hi, rfl, ha, q1, q2⟩ := h
  have tk : Takes (cxOf (L2.CX P w) P w K mg base N_need_part "need_part" (defScope s_need_part) (fA K "need_part") cdv A outer s H E) (fun cls d _ H => E cls d H) := takes_of rfl rfl rfl rfl
  refine ⟨_, (pss_one (ps_if (pt_not (pt_val (pe_f (ok_is_within T) (hr.mono (by decide)) pass0 (pa_cons (pv 1) (pa_cons (pv 2) (pa_cons (pv 3) pa_nil)))))) (pss_one (ps_raise rfl tk (pmk_x T.x_InvalidPart T.g_InvalidPart (ok_InvalidPart_init T) (hr.mono (by decide)) pass0 (pa_cons (pv 0) pa_nil)))) pss_nil)), ?_⟩
  walk_at "k0"
  walk_at "rd"
  walk_at "if"
  refine ⟨v, t, lo, hi, rfl, ha, _, rfl, ?_⟩
  cases e : isIn lo hi v with
  | true => exact iteF (q1 e)
  | false =>
    refine iteT ?_
    refine ⟨_, rfl, ?_⟩
    exact r_mk1 (x := "InvalidPart") (f := "name") rfl rfl fun d H' n s' e' => q2 e d H' n s' e'

end
section
variable {P : Program} {w : World} {K : Fr0} {mg : Str → Option Value} {base : Heap}
theorem ok_Way_init (T : Txt K mg) : OkM P w K mg base (L2.CX P w) 5 "Way" "__init__" ["self", "have", "buy", "price", "pack"] (spWayInit K) := by
  refine T.d_Way_init.ok sc_Way_init bd_Way_init (fun vs H Q E h => by obtain ⟨a, dx, u, v, x, y, tu, tv, tx, ty, rfl, _⟩ := h; rfl) (fun cdv A outer s H vs Q E hr h => ?_)
  obtain ⟨a, dx, u, v, x, y, tu, tv, tx, ty, rfl, ha, hu, hv, hx, hy, q⟩ := h
  have tk : Takes (cxOf (L2.CX P w) P w K mg base N_Way_init "Way.__init__" (defScope s_Way_init) (mA K "Way" "__init__") cdv A outer s H E) (fun cls d _ H => E cls d H) := takes_of rfl rfl rfl rfl
  refine ⟨_, (pss_cons (ps_expr (pe_fS (ok_need_part T) (hr.mono (by decide)) tk (pa_cons pe_str (pa_cons (pv 1) (pa_cons pe_int (pa_cons (pe_gi T.c_MOST_HAVE) pa_nil))))))
      (pss_cons (ps_expr (pe_fS (ok_need_part T) (hr.mono (by decide)) tk (pa_cons pe_str (pa_cons (pv 2) (pa_cons pe_int (pa_cons (pe_gi T.c_MOST_BUY) pa_nil))))))
      (pss_cons (ps_expr (pe_fS (ok_need_part T) (hr.mono (by decide)) tk (pa_cons pe_str (pa_cons (pv 3) (pa_cons pe_int (pa_cons (pe_gi T.c_MOST_PRICE) pa_nil))))))
      (pss_cons (ps_expr (pe_fS (ok_need_part T) (hr.mono (by decide)) tk (pa_cons pe_str (pa_cons (pv 4) (pa_cons pe_int (pa_cons (pe_gi T.c_MOST_PACK) pa_nil))))))
      (pss_cons (ps_fld (pv 0) (pv 1) rfl)
      (pss_cons (ps_fld (pv 0) (pv 2) rfl)
      (pss_cons (ps_fld (pv 0) (pv 3) rfl)
      (pss_cons (ps_fld (pv 0) (pv 4) rfl)
      (pss_one (ps_fld (pv 0) (pe_callB (cr_max rfl) rfl T.b_max (by decide +kernel) (pa_cons (pe_lst (pa_cons pe_int (pa_cons (pe_op op_add (pv 1) (pv 2)) pa_nil))) pa_nil)) rfl)))))))))), ?_⟩
  walk_at "k0"
  walk_at "rd"
  rcases q with ⟨bad, q⟩ | ⟨h, rfl, h5, q⟩
  · exact ⟨_, u, tu, 0, 5, rfl, hu, fun e => absurd e (by rw [bad]; decide), fun _ => q⟩
  refine ⟨_, _, tu, 0, 5, rfl, hu, fun _ => ?_, fun e => absurd e (by rw [isIn_nat (by omega) (by omega)]; decide)⟩
  walk_at "rd"
  rcases q with ⟨bad, q⟩ | ⟨b, rfl, b4, q⟩
  · exact ⟨_, v, tv, 0, 4, rfl, hv, fun e => absurd e (by rw [bad]; decide), fun _ => q⟩
  refine ⟨_, _, tv, 0, 4, rfl, hv, fun _ => ?_, fun e => absurd e (by rw [isIn_nat (by omega) (by omega)]; decide)⟩
  walk_at "rd"
  rcases q with ⟨bad, q⟩ | ⟨c, rfl, hc, q⟩
  · exact ⟨_, x, tx, 0, 50, rfl, hx, fun e => absurd e (by rw [bad]; decide), fun _ => q⟩
  refine ⟨_, _, tx, 0, 50, rfl, hx, fun _ => ?_, fun e => absurd e (by rw [isIn_nat (by omega) (by omega)]; decide)⟩
  walk_at "rd"
  rcases q with ⟨bad, q⟩ | ⟨k, rfl, k1, k3, q⟩
  · exact ⟨_, y, ty, 1, 3, rfl, hy, fun e => absurd e (by rw [bad]; decide), fun _ => q⟩
  refine ⟨_, _, ty, 1, 3, rfl, hy, fun _ => ?_, fun e => absurd e (by rw [isIn_nat (by omega) (by omega)]; decide)⟩
  walk_at "rd"
  refine ⟨a, _, dx, _, rfl, ha, T.cl_Way, T.n_Way_begun, by decide, ?_⟩
  walk_at "rd"
  have b1 : But a H (upd H a (.ins (fA K "Way") dx (putF "begun" (.int (h : Int)) []))) := But.refl'.set
  have e1 : upd H a (.ins (fA K "Way") dx (putF "begun" (.int (h : Int)) [])) a = some (.ins (fA K "Way") dx [("begun", .int (h : Int))]) := upd_same
  generalize upd H a (.ins (fA K "Way") dx (putF "begun" (.int (h : Int)) [])) = H1 at b1 e1
  refine ⟨a, _, dx, _, rfl, e1, T.cl_Way, T.n_Way_last, by show 1 < 1000; decide, ?_⟩
  walk_at "rd"
  have b2 : But a H (upd H1 a (.ins (fA K "Way") dx (putF "last" (.int (b : Int)) [("begun", .int (h : Int))]))) := b1.set
  have e2 : upd H1 a (.ins (fA K "Way") dx (putF "last" (.int (b : Int)) [("begun", .int (h : Int))])) a = some (.ins (fA K "Way") dx [("begun", .int (h : Int)), ("last", .int (b : Int))]) := upd_same
  generalize upd H1 a (.ins (fA K "Way") dx (putF "last" (.int (b : Int)) [("begun", .int (h : Int))])) = H2 at b2 e2
  refine ⟨a, _, dx, _, rfl, e2, T.cl_Way, T.n_Way_each, by show 2 < 1000; decide, ?_⟩
  walk_at "rd"
  have b3 : But a H (upd H2 a (.ins (fA K "Way") dx (putF "each" (.int (c : Int)) [("begun", .int (h : Int)), ("last", .int (b : Int))]))) := b2.set
  have e3 : upd H2 a (.ins (fA K "Way") dx (putF "each" (.int (c : Int)) [("begun", .int (h : Int)), ("last", .int (b : Int))])) a = some (.ins (fA K "Way") dx [("begun", .int (h : Int)), ("last", .int (b : Int)), ("each", .int (c : Int))]) := upd_same
  generalize upd H2 a (.ins (fA K "Way") dx (putF "each" (.int (c : Int)) [("begun", .int (h : Int)), ("last", .int (b : Int))])) = H3 at b3 e3
  refine ⟨a, _, dx, _, rfl, e3, T.cl_Way, T.n_Way_charge, by show 3 < 1000; decide, ?_⟩
  walk_at "rd"
  have b4' : But a H (upd H3 a (.ins (fA K "Way") dx (putF "charge" (.int (k : Int)) [("begun", .int (h : Int)), ("last", .int (b : Int)), ("each", .int (c : Int))]))) := b3.set
  have e4 : upd H3 a (.ins (fA K "Way") dx (putF "charge" (.int (k : Int)) [("begun", .int (h : Int)), ("last", .int (b : Int)), ("each", .int (c : Int))])) a = some (.ins (fA K "Way") dx [("begun", .int (h : Int)), ("last", .int (b : Int)), ("each", .int (c : Int)), ("charge", .int (k : Int))]) := upd_same
  generalize upd H3 a (.ins (fA K "Way") dx (putF "charge" (.int (k : Int)) [("begun", .int (h : Int)), ("last", .int (b : Int)), ("each", .int (c : Int))])) = H4 at b4' e4
  refine ⟨by show 2 ≤ sizeLine; decide, fun p np => ?_⟩
  walk_at "rd"
  refine r_max2 upd_same ?_
  walk_at "rd"
  have sp := same_new (o := .lst [.int 1, .int ((h : Int) + (b : Int))]) np
  refine ⟨a, _, dx, _, rfl, sp _ _ e4, T.cl_Way, T.n_Way_low, by show 4 < 1000; decide, ?_⟩
  refine q _ ((b4'.same sp).set) ?_
  rw [upd_same]
  have em : max (1 : Int) ((h : Int) + (b : Int)) = ((max 1 (h + b) : Nat) : Int) := by omega
  rw [em]
  rfl

end
section
variable {P : Program} {w : World} {K : Fr0} {mg : Str → Option Value} {base : Heap}
theorem ok_Way_have (T : Txt K mg) : OkP P w K mg base CX0 1 "Way" "have" ["self"] (spWayGet K (fun h _ _ _ => h)) := by
  refine T.d_Way_have.ok sc_Way_have bd_Way_have (fun vs H Q E h => by obtain ⟨a, h, b, c, k, rfl, _⟩ := h; rfl) (fun cdv A outer s H vs Q E hr h => ?_)
  obtain ⟨a, h, b, c, k, rfl, ⟨dx, e0⟩, q⟩ := h
  refine ⟨_, PSs.nox (pss_one (ps_ret (pe_fld (pv 0) rfl))), ?_⟩
  walk_at "k0"
  walk_at "rd"
  refine ⟨a, _, dx, _, _, rfl, e0, T.cl_Way, T.n_Way_begun, rfl, ?_⟩
  exact q

end
section
variable {P : Program} {w : World} {K : Fr0} {mg : Str → Option Value} {base : Heap}
theorem ok_Way_buy (T : Txt K mg) : OkP P w K mg base CX0 1 "Way" "buy" ["self"] (spWayGet K (fun _ b _ _ => b)) := by
  refine T.d_Way_buy.ok sc_Way_buy bd_Way_buy (fun vs H Q E h => by obtain ⟨a, h, b, c, k, rfl, _⟩ := h; rfl) (fun cdv A outer s H vs Q E hr h => ?_)
  obtain ⟨a, h, b, c, k, rfl, ⟨dx, e0⟩, q⟩ := h
  refine ⟨_, PSs.nox (pss_one (ps_ret (pe_fld (pv 0) rfl))), ?_⟩
  walk_at "k0"
  walk_at "rd"
  refine ⟨a, _, dx, _, _, rfl, e0, T.cl_Way, T.n_Way_last, rfl, ?_⟩
  exact q

end
section
variable {P : Program} {w : World} {K : Fr0} {mg : Str → Option Value} {base : Heap}
theorem ok_Way_price (T : Txt K mg) : OkP P w K mg base CX0 1 "Way" "price" ["self"] (spWayGet K (fun _ _ c _ => c)) := by
  refine T.d_Way_price.ok sc_Way_price bd_Way_price (fun vs H Q E h => by obtain ⟨a, h, b, c, k, rfl, _⟩ := h; rfl) (fun cdv A outer s H vs Q E hr h => ?_)
  obtain ⟨a, h, b, c, k, rfl, ⟨dx, e0⟩, q⟩ := h
  refine ⟨_, PSs.nox (pss_one (ps_ret (pe_fld (pv 0) rfl))), ?_⟩
  walk_at "k0"
  walk_at "rd"
  refine ⟨a, _, dx, _, _, rfl, e0, T.cl_Way, T.n_Way_each, rfl, ?_⟩
  exact q

end
section
variable {P : Program} {w : World} {K : Fr0} {mg : Str → Option Value} {base : Heap}
theorem ok_Way_pack (T : Txt K mg) : OkP P w K mg base CX0 1 "Way" "pack" ["self"] (spWayGet K (fun _ _ _ k => k)) := by
  refine T.d_Way_pack.ok sc_Way_pack bd_Way_pack (fun vs H Q E h => by obtain ⟨a, h, b, c, k, rfl, _⟩ := h; rfl) (fun cdv A outer s H vs Q E hr h => ?_)
  obtain ⟨a, h, b, c, k, rfl, ⟨dx, e0⟩, q⟩ := h
  refine ⟨_, PSs.nox (pss_one (ps_ret (pe_fld (pv 0) rfl))), ?_⟩
  walk_at "k0"
  walk_at "rd"
  refine ⟨a, _, dx, _, _, rfl, e0, T.cl_Way, T.n_Way_charge, rfl, ?_⟩
  exact q

end
section
variable {P : Program} {w : World} {K : Fr0} {mg : Str → Option Value} {base : Heap}
theorem ok_Way_least (T : Txt K mg) : OkP P w K mg base CX0 1 "Way" "least" ["self"] (spWayGet K (fun h b _ _ => max 1 (h + b))) := by
  refine T.d_Way_least.ok sc_Way_least bd_Way_least (fun vs H Q E h => by obtain ⟨a, h, b, c, k, rfl, _⟩ := h; rfl) (fun cdv A outer s H vs Q E hr h => ?_)
  obtain ⟨a, h, b, c, k, rfl, ⟨dx, e0⟩, q⟩ := h
  refine ⟨_, PSs.nox (pss_one (ps_ret (pe_fld (pv 0) rfl))), ?_⟩
  walk_at "k0"
  walk_at "rd"
  refine ⟨a, _, dx, _, _, rfl, e0, T.cl_Way, T.n_Way_low, rfl, ?_⟩
  exact q

end
section
variable {P : Program} {w : World} {K : Fr0} {mg : Str → Option Value} {base : Heap}
theorem ok_Way_eq (T : Txt K mg) : OkM P w K mg base CX0 1 "Way" "__eq__" ["self", "other"] (spWayEq K) := by
  refine T.d_Way_eq.ok sc_Way_eq bd_Way_eq (fun vs H Q E h => by obtain ⟨a, h, b, c, k, y, rfl, _⟩ := h; rfl) (fun cdv A outer s H vs Q E hr h => ?_)
  obtain ⟨a, h, b, c, k, y, rfl, ⟨dx, e0⟩, q⟩ := h
  refine ⟨_, PSs.nox (pss_cons (ps_if (PW.pt (pw_or (pt_not (pt_val (pe_callB (isiKK (K := K) rfl) rfl T.b_isinstance (by decide +kernel) (pa_cons (pv 1) (pa_cons (pe_gr T.g_Way) pa_nil))))) (pw_or (pt_cmpR op_ne (pe_fld (pv 0) rfl) (pe_fld (pv 1) rfl) (nomark _)) (pw_or1 (pt_cmpR op_ne (pe_fld (pv 0) rfl) (pe_fld (pv 1) rfl) (nomark _)))))) (pss_one (ps_ret pe_bl)) pss_nil)
      (pss_one (ps_ret (pe_and (pe_cmpR op_eq (pe_fld (pv 0) rfl) (pe_fld (pv 1) rfl) (nomark _)) (pe_one (pe_cmpR op_eq (pe_fld (pv 0) rfl) (pe_fld (pv 1) rfl) (nomark _))))))), ?_⟩
  walk_at "k0"
  walk_at "rd"
  walk_at "if"
  rcases q with ⟨t, ty, kk, q⟩ | ⟨a', h', b', c', k', rfl, ⟨dx', e1⟩, q⟩
  · refine ⟨_, _, _, _, _, rfl, .own _, ty, kk, ?_⟩
    walk_at "rd"
    exact q
  refine ⟨_, _, _, _, _, rfl, .own _, .base (.ins e1 T.cl_Way T.i_Way.ca T.i_Way.cn T.i_Way.ct T.i_Way.cm), kit_same, ?_⟩
  walk_at "rd"
  refine ⟨a, _, dx, _, _, rfl, e0, T.cl_Way, T.n_Way_begun, rfl, ?_⟩
  walk_at "rd"
  refine ⟨a', _, dx', _, _, rfl, e1, T.cl_Way, T.n_Way_begun, rfl, ?_⟩
  walk_at "rd"
  unfold sameWay at q
  refine r_ndec (fun h0 => ?_) (fun h0 => ?_)
  · rw [decide_eq_false (show ¬ h = h' from fun z => h0 (by rw [z])), Bool.false_and] at q
    walk_at "rd"
    exact q
  rw [decide_eq_true (show h = h' by omega), Bool.true_and] at q
  walk_at "rd"
  refine ⟨a, _, dx, _, _, rfl, e0, T.cl_Way, T.n_Way_last, rfl, ?_⟩
  walk_at "rd"
  refine ⟨a', _, dx', _, _, rfl, e1, T.cl_Way, T.n_Way_last, rfl, ?_⟩
  walk_at "rd"
  refine r_ndec (fun h1 => ?_) (fun h1 => ?_)
  · rw [decide_eq_false (show ¬ b = b' from fun z => h1 (by rw [z])), Bool.false_and] at q
    walk_at "rd"
    exact q
  rw [decide_eq_true (show b = b' by omega), Bool.true_and] at q
  walk_at "rd"
  refine ⟨a, _, dx, _, _, rfl, e0, T.cl_Way, T.n_Way_each, rfl, ?_⟩
  walk_at "rd"
  refine ⟨a', _, dx', _, _, rfl, e1, T.cl_Way, T.n_Way_each, rfl, ?_⟩
  walk_at "rd"
  refine r_dec (fun h2 => ?_) (fun h2 => ?_)
  · rw [decide_eq_true (show c = c' by omega), Bool.true_and] at q
    walk_at "rd"
    refine ⟨a, _, dx, _, _, rfl, e0, T.cl_Way, T.n_Way_charge, rfl, ?_⟩
    walk_at "rd"
    refine ⟨a', _, dx', _, _, rfl, e1, T.cl_Way, T.n_Way_charge, rfl, ?_⟩
    walk_at "rd"
    rw [show decide ((k : Int) = (k' : Int)) = decide (k = k') from decide_eq_decide.mpr (by omega)]
    exact q
  · rw [decide_eq_false (show ¬ c = c' from fun z => h2 (by rw [z])), Bool.false_and] at q
    walk_at "rd"
    exact q

end
section
variable {P : Program} {w : World} {K : Fr0} {mg : Str → Option Value} {base : Heap}
theorem draw_of {x : Int} {m : Nat} (m0 : 0 < m) : ∃ d : Nat, x % (m : Int) = (d : Int) ∧ d < m := by
  have h1 := Int.emod_nonneg x (show (m : Int) ≠ 0 by omega)
  have h2 := Int.emod_lt_of_pos x (show (0 : Int) < m by omega)
  exact ⟨(x % (m : Int)).toNat, by omega, by omega⟩
theorem ok_law_taken (T : Txt K mg) : Ok P w K mg base CX0 1 "_law_taken" ["_law_row", "_law_many"] (spTaken K) := by
  refine T.d_law_taken.ok sc_law_taken bd_law_taken (fun vs H Q E h => by obtain ⟨r, m, rfl, _⟩ := h; rfl) (fun cdv A outer s H vs Q E hr h => ?_)
  obtain ⟨r, m, rfl, ⟨s, ns, p, z, c, h1, h2, h3⟩, m0, m1, q⟩ := h
  have m0' : (0 : Int) < (m : Int) := by omega
  have m1' : CDiv c (m : Int) := ⟨m0', by omega⟩
  refine ⟨_, PSs.nox (pss_cons (ps_if (pt_cmpR op_gt (pe_ix (ixlK (K := K) rfl) (pv 0) pe_int (fun _ _ => rfl)) pe_int (nomark _)) (pss_cons (ps_set (i := 2) sc_law_taken.nd rfl (Or.inl rfl) (pe_op op_mod (pe_callTy call_int1 rfl T.b_int (by decide +kernel) (pa_cons (pe_ix (ixlK (K := K) rfl) (pv 0) pe_int (fun _ _ => rfl)) pa_nil)) (pv 1)))
      (pss_cons (ps_asg (pe_op op_fdiv (pe_ix (ixlK (K := K) rfl) (pv 0) pe_int (fun _ _ => rfl)) (pv 1)) (pg_sub (pv 0) pe_int set_list))
      (pss_one (ps_ret (pv 2))))) pss_nil)
      (pss_cons (ps_asg (pe_op op_add (pe_ix (ixlK (K := K) rfl) (pv 0) pe_int (fun _ _ => rfl)) pe_int) (pg_sub (pv 0) pe_int set_list))
      (pss_cons (ps_if (pt_cmpR op_gt (pe_ix (ixlK (K := K) rfl) (pv 0) pe_int (fun _ _ => rfl)) (pe_callB (lenK (K := K) rfl) rfl T.b_len (by decide +kernel) (pa_cons (pe_ix (ixlK (K := K) rfl) (pv 0) pe_int (fun _ _ => rfl)) pa_nil)) (nomark _)) (pss_cons (ps_asg (pe_op op_mod (pe_callTy call_int1 rfl T.b_int (by decide +kernel) (pa_cons (pe_op op_add (pe_op op_mul (pe_ix (ixlK (K := K) rfl) (pv 0) pe_int (fun _ _ => rfl)) pe_int) pe_int) pa_nil)) pe_int) (pg_sub (pv 0) pe_int set_list))
      (pss_one (ps_ret (pe_op op_mod (pe_callTy call_int1 rfl T.b_int (by decide +kernel) (pa_cons (pe_op op_fdiv (pe_ix (ixlK (K := K) rfl) (pv 0) pe_int (fun _ _ => rfl)) pe_int) pa_nil)) (pv 1))))) pss_nil)
      (pss_cons (ps_set (i := 3) sc_law_taken.nd rfl (Or.inl rfl) (pe_ix (ixlK (K := K) rfl) (pe_ix (ixlK (K := K) rfl) (pv 0) pe_int (fun _ _ => rfl)) (pe_op op_sub (pe_ix (ixlK (K := K) rfl) (pv 0) pe_int (fun _ _ => rfl)) pe_int) (fun _ _ => rfl)))
      (pss_cons (ps_asg (pe_op op_mod (pe_callTy call_int1 rfl T.b_int (by decide +kernel) (pa_cons (pe_op op_add (pe_op op_add (pe_op op_mul (pe_ix (ixlK (K := K) rfl) (pv 0) pe_int (fun _ _ => rfl)) pe_int) (pv 3)) pe_int) pa_nil)) pe_int) (pg_sub (pv 0) pe_int set_list))
      (pss_cons (ps_if (pt_cmpR op_ge (pv 3) (pe_op op_pow pe_int pe_int) (nomark _)) (pss_one (ps_asg (pe_op op_fdiv (pv 3) (pv 1)) (pg_sub (pv 0) pe_int set_list))) pss_nil)
      (pss_one (ps_ret (pe_op op_mod (pe_callTy call_int1 rfl T.b_int (by decide +kernel) (pa_cons (pv 3) pa_nil)) (pv 1)))))))))), ?_⟩
  walk_at "k0"
  walk_at "rd"
  walk_at "if"
  refine r_dec (fun hc => ?_) (fun hc => ?_)
  · walk_at "rd"
    refine r_i m0' ?_
    obtain ⟨d, ed, hd⟩ := draw_of (x := c) m0
    rw [ed]
    walk_at "rd"
    refine r_i m1' ?_
    walk_at "rd"
    refine r_setA _ h1 rfl rfl fun H1 g1 c1 => ?_
    walk_at "rd"
    exact q d _ hd c1 (RowAt.mk' g1 c1 h2 h3)
  · walk_at "rd"
    have e1 : ((p : Int) + 1) = ((p + 1 : Nat) : Int) := by omega
    rw [e1]
    refine r_setA [.ref s, .int ((p + 1 : Nat) : Int), .int z, .int c] h1 rfl rfl fun H1 g1 c1 => ?_
    have s1 := sql_off c1 h3 h2
    walk_at "rd"
    walk_at "if"
    refine ⟨s, _, rfl, .inl s1, ?_⟩
    walk_at "rd"
    refine r_dec (fun hl => ?_) (fun hl => ?_)
    · walk_at "rd"
      refine r_i (.inr ⟨by decide, by decide⟩) ?_
      walk_at "rd"
      refine r_i (by decide) ?_
      walk_at "rd"
      refine r_setA _ g1 rfl rfl fun H2 g2 c2 => ?_
      walk_at "rd"
      refine r_i ⟨by decide, by decide⟩ ?_
      walk_at "rd"
      refine r_i m0' ?_
      obtain ⟨d, ed, hd⟩ := draw_of (x := (z * 48271 + 11) % 2147483647 / 7) m0
      rw [ed]
      exact q d _ hd (c1.tr c2) (RowAt.mk' g2 c2 s1 h3)
    · have hl' : p < ns.length := by
        rw [List.length_map] at hl
        omega
      walk_at "rd"
      have e2 : (((p + 1 : Nat) : Int) - 1) = (p : Int) := by omega
      rw [e2]
      obtain ⟨x, hx⟩ : ∃ x, ns[p]? = some x := ⟨_, List.getElem?_eq_getElem hl'⟩
      refine r_ixS s1 (atI_nat (v := .int x) (by rw [List.getElem?_map, hx]; rfl)) ?_
      walk_at "rd"
      refine r_i (.inr ⟨by decide, by decide⟩) ?_
      walk_at "rd"
      refine r_i (by decide) ?_
      walk_at "rd"
      refine r_setA [.ref s, .int ((p + 1 : Nat) : Int), .int ((z * 48271 + x + 11) % 2147483647), .int c] g1 rfl rfl fun H2 g2 c2 => ?_
      have s2 := sql_off c2 h3 s1
      obtain ⟨d, ed, hd⟩ := draw_of (x := x) m0
      walk_at "rd"
      walk_at "if"
      refine r_i ⟨by decide, by decide, by decide⟩ ?_
      walk_at "rd"
      refine r_dec (fun hg => ?_) (fun hg => ?_)
      · walk_at "rd"
        refine r_i ⟨m0', m1'.2⟩ ?_
        walk_at "rd"
        refine r_setA _ g2 rfl rfl fun H3 g3 c3 => ?_
        walk_at "rd"
        refine r_i m0' ?_
        rw [ed]
        exact q d _ hd (c1.tr (c2.tr c3)) (RowAt.mk' g3 c3 s2 h3)
      · walk_at "rd"
        refine r_i m0' ?_
        rw [ed]
        exact q d _ hd (c1.tr c2) ⟨s, ns, p + 1, _, c, g2, s2, h3⟩

end
section
variable {P : Program} {w : World} {K : Fr0} {mg : Str → Option Value} {base : Heap}
def spDrawn (K : Fr0) : Sp := fun vs H Q _ => ∃ r : Addr, vs = [.ref r] ∧ RowAt K H r ∧ ∀ (h b c k : Nat) (H' : Hp) (p : Addr), DrawOk h b c k → H p = none → Chg r H H' → RowAt K H' r → DrawAt H' p h b c k → Q (.ref p) H'
theorem ok_law_drawn (T : Txt K mg) : Ok P w K mg base CX0 2 "_law_drawn" ["_law_row"] (spDrawn K) := by
  refine T.d_law_drawn.ok sc_law_drawn bd_law_drawn (fun vs H Q E h => by obtain ⟨r, rfl, _⟩ := h; rfl) (fun cdv A outer s H vs Q E hr h => ?_)
  obtain ⟨r, rfl, hR, q⟩ := h
  refine ⟨_, PSs.nox (pss_cons (ps_set (i := 1) sc_law_drawn.nd rfl (Or.inl rfl) (pe_disp (pps_cons pe_str (pe_ix (ixlK (K := K) rfl) (pe_lst (pa_cons pe_int (pa_cons pe_int (pa_cons pe_int (pa_cons pe_int (pa_cons pe_int pa_nil)))))) (pe_f (ok_law_taken T) (hr.mono (by decide)) pass0 (pa_cons (pv 0) (pa_cons pe_int pa_nil))) (fun _ _ => rfl)) (pps_cons pe_str (pe_ix (ixlK (K := K) rfl) (pe_lst (pa_cons pe_int (pa_cons pe_int (pa_cons pe_int (pa_cons pe_int (pa_cons pe_int (pa_cons pe_int pa_nil))))))) (pe_f (ok_law_taken T) (hr.mono (by decide)) pass0 (pa_cons (pv 0) (pa_cons pe_int pa_nil))) (fun _ _ => rfl)) pps_nil)) (by rfl) (by rfl) (fun z => by cases z) (by decide)))
      (pss_cons (ps_dput (hu_of hr) (pv 1) pe_str (pe_ix (ixlK (K := K) rfl) (pe_lst (pa_cons pe_int (pa_cons pe_int (pa_cons pe_int (pa_cons pe_int (pa_cons pe_int (pa_cons pe_int (pa_cons pe_int (pa_cons pe_int pa_nil))))))))) (pe_f (ok_law_taken T) (hr.mono (by decide)) pass0 (pa_cons (pv 0) (pa_cons pe_int pa_nil))) (fun _ _ => rfl)) rfl)
      (pss_cons (ps_dput (hu_of hr) (pv 1) pe_str (pe_op op_add pe_int (pe_f (ok_law_taken T) (hr.mono (by decide)) pass0 (pa_cons (pv 0) (pa_cons pe_int pa_nil)))) rfl)
      (pss_one (ps_ret (pv 1)))))), ?_⟩
  walk_at "k0"
  walk_at "rd"
  refine r_disp fun p np => ?_
  walk_at "rd"
  have rp : p ≠ r := fun z => by
    obtain ⟨l, hl⟩ := hR.lst
    rw [z, hl] at np
    cases np
  have hRp := hR.same (same_new (o := .dK []) np)
  have hp0 : upd H p (.dK []) p = some (.dK []) := upd_same
  have g0 : Same H (upd H p (.dK [])) := same_new np
  generalize upd H p (.dK []) = H0 at hRp hp0 g0 ⊢
  refine ⟨by show 5 ≤ sizeLine; decide, fun b1 nb1 => ?_⟩
  walk_at "rd"
  refine c_pick 5 hRp nb1 (by decide) (by decide) fun d1 H1 hd1 c1 h1 hb1 => ?_
  obtain ⟨h, hh, okh⟩ : ∃ h : Nat, atI [V.int 0, V.int 0, V.int 1, V.int 2, V.int 5] (d1 : Int) = some (.int h) ∧ h ∈ [0, 1, 2, 5] := by
    rcases nat_five hd1 with rfl | rfl | rfl | rfl | rfl
    · exact ⟨0, rfl, by decide⟩
    · exact ⟨0, rfl, by decide⟩
    · exact ⟨1, rfl, by decide⟩
    · exact ⟨2, rfl, by decide⟩
    · exact ⟨5, rfl, by decide⟩
  refine r_ixA hb1 hh ?_
  walk_at "rd"
  refine ⟨by show 6 ≤ sizeLine; decide, fun b2 nb2 => ?_⟩
  walk_at "rd"
  refine c_pick 6 h1 nb2 (by decide) (by decide) fun d2 H2 hd2 c2 h2 hb2 => ?_
  obtain ⟨b, hb, okb⟩ : ∃ b : Nat, atI [V.int 0, V.int 0, V.int 1, V.int 2, V.int 3, V.int 4] (d2 : Int) = some (.int b) ∧ b ≤ 4 := by
    rcases nat_six hd2 with rfl | rfl | rfl | rfl | rfl | rfl
    · exact ⟨0, rfl, by decide⟩
    · exact ⟨0, rfl, by decide⟩
    · exact ⟨1, rfl, by decide⟩
    · exact ⟨2, rfl, by decide⟩
    · exact ⟨3, rfl, by decide⟩
    · exact ⟨4, rfl, by decide⟩
  refine r_ixA hb2 hb ?_
  walk_at "rd"
  have nd : ∀ l : List (Key × V), ∀ l2 : List V, HO.dK l ≠ .lst l2 := fun _ _ z => nomatch z
  have hp2 := (c1.tr c2).at hp0 (nd _)
  refine ⟨hp2, [(.inr "have", .int (h : Int)), (.inr "buy", .int (b : Int))], rfl, by show 2 ≤ 15; decide, ?_⟩
  walk_at "rd"
  have e3 : upd H2 p (.dK (mergeK [] [(.inr "have", .int (h : Int)), (.inr "buy", .int (b : Int))])) p = some (.dK [(.inr "have", .int (h : Int)), (.inr "buy", .int (b : Int))]) := upd_same
  have hr2 : ∀ (l : List V), H2 r = some (.lst l) → upd H2 p (.dK (mergeK [] [(.inr "have", .int (h : Int)), (.inr "buy", .int (b : Int))])) r = some (.lst l) := fun l e => by rw [upd_ne rp.symm]; exact e
  have k3 : ∀ (x : Addr) (o : HO), x ≠ p → H2 x = some o → upd H2 p (.dK (mergeK [] [(.inr "have", .int (h : Int)), (.inr "buy", .int (b : Int))])) x = some o := fun x o n e => by rw [upd_ne n]; exact e
  have h3 := RowAt.off h2 hp2 k3
  generalize upd H2 p (.dK (mergeK [] [(.inr "have", .int (h : Int)), (.inr "buy", .int (b : Int))])) = H3 at e3 h3 k3 ⊢
  refine ⟨by show 8 ≤ sizeLine; decide, fun b4 nb4 => ?_⟩
  walk_at "rd"
  refine c_pick 8 h3 nb4 (by decide) (by decide) fun d4 H4 hd4 c4 h4 hb4 => ?_
  obtain ⟨c, hc, okc⟩ : ∃ c : Nat, atI [V.int 0, V.int 1, V.int 2, V.int 5, V.int 10, V.int 20, V.int 49, V.int 50] (d4 : Int) = some (.int c) ∧ c ∈ [0, 1, 2, 5, 10, 20, 49, 50] := by
    have : d4 = 0 ∨ d4 = 1 ∨ d4 = 2 ∨ d4 = 3 ∨ d4 = 4 ∨ d4 = 5 ∨ d4 = 6 ∨ d4 = 7 := by omega
    rcases this with rfl | rfl | rfl | rfl | rfl | rfl | rfl | rfl
    · exact ⟨0, rfl, by decide⟩
    · exact ⟨1, rfl, by decide⟩
    · exact ⟨2, rfl, by decide⟩
    · exact ⟨5, rfl, by decide⟩
    · exact ⟨10, rfl, by decide⟩
    · exact ⟨20, rfl, by decide⟩
    · exact ⟨49, rfl, by decide⟩
    · exact ⟨50, rfl, by decide⟩
  refine r_ixA hb4 hc ?_
  walk_at "rd"
  have e4 := c4.at e3 (nd _)
  refine ⟨p, _, rfl, DPut.k (k := .inr "price") e4 (by show 2 < sizeLine; decide), ?_⟩
  walk_at "rd"
  have e5 : upd H4 p (.dK (putK [(.inr "have", .int (h : Int)), (.inr "buy", .int (b : Int))] (.inr "price") (.int (c : Int)))) p = some (.dK [(.inr "have", .int (h : Int)), (.inr "buy", .int (b : Int)), (.inr "price", .int (c : Int))]) := upd_same
  have k5 : ∀ (x : Addr) (o : HO), x ≠ p → H4 x = some o → upd H4 p (.dK (putK [(.inr "have", .int (h : Int)), (.inr "buy", .int (b : Int))] (.inr "price") (.int (c : Int)))) x = some o := fun x o n e => by rw [upd_ne n]; exact e
  have h5 := RowAt.off h4 e4 k5
  generalize upd H4 p (.dK (putK [(.inr "have", .int (h : Int)), (.inr "buy", .int (b : Int))] (.inr "price") (.int (c : Int)))) = H5 at e5 h5 k5 ⊢
  refine c_taken (m := 3) h5 (by decide) (by decide) fun d6 H6 hd6 c6 h6 => ?_
  walk_at "rd"
  have e6 := c6.at e5 (nd _)
  rw [show (1 + (d6 : Int)) = ((1 + d6 : Nat) : Int) by omega]
  refine ⟨p, _, rfl, DPut.k (k := .inr "pack") e6 (by show 3 < sizeLine; decide), ?_⟩
  walk_at "rd"
  have k7 : ∀ (x : Addr) (o : HO), x ≠ p → H6 x = some o → upd H6 p (.dK (putK [(.inr "have", .int (h : Int)), (.inr "buy", .int (b : Int)), (.inr "price", .int (c : Int))] (.inr "pack") (.int ((1 + d6 : Nat) : Int)))) x = some o := fun x o n e => by rw [upd_ne n]; exact e
  have h7 := RowAt.off h6 e6 k7
  refine q h b c (1 + d6) _ p ⟨okh, okb, okc, by omega, by omega⟩ np ?_ h7 upd_same
  obtain ⟨l, hl⟩ := hR.lst
  refine ⟨⟨l, hl⟩, fun x o nx e => ?_⟩
  have xp : x ≠ p := ne_of_none e np
  exact k7 _ _ xp (c6.kp _ _ nx (k5 _ _ xp (c4.kp _ _ nx (k3 _ _ xp ((c1.tr c2).kp _ _ nx (g0 _ _ e))))))

end
section
variable {P : Program} {w : World} {K : Fr0} {mg : Str → Option Value} {base : Heap}
def spLeast (K : Fr0) : Sp := fun vs H Q _ => ∃ (p : Addr) (h b c k : Nat), vs = [.ref p] ∧ DrawAt H p h b c k ∧ Q (.int ((max 1 (h + b) : Nat) : Int)) H
theorem ok_law_least (T : Txt K mg) : Ok P w K mg base CX0 1 "_law_least" ["_law_d"] (spLeast K) := by
  refine T.d_law_least.ok sc_law_least bd_law_least (fun vs H Q E h => by obtain ⟨p, h, b, c, k, rfl, _⟩ := h; rfl) (fun cdv A outer s H vs Q E hr h => ?_)
  obtain ⟨p, h, b, c, k, rfl, hd, q⟩ := h
  obtain ⟨g1, g2, _⟩ := drawG hd
  refine ⟨_, PSs.nox (pss_one (ps_ret (pe_callB (call_max2 rfl) rfl T.b_max (by decide +kernel) (pa_cons pe_int (pa_cons (pe_op op_add (pe_dget (hu_of hr) (pv 0) pe_str (fun _ _ => rfl)) (pe_dget (hu_of hr) (pv 0) pe_str (fun _ _ => rfl))) pa_nil))))), ?_⟩
  walk_at "k0"
  walk_at "rd"
  refine ⟨p, _, rfl, g1, ?_⟩
  walk_at "rd"
  refine ⟨p, _, rfl, g2, ?_⟩
  walk_at "rd"
  refine ⟨_, _, rfl, ?_⟩
  have em : (if (1 : Int) < (h : Int) + (b : Int) then (h : Int) + (b : Int) else 1) = ((max 1 (h + b) : Nat) : Int) := by
    by_cases z : (1 : Int) < (h : Int) + (b : Int)
    · rw [if_pos z]; omega
    · rw [if_neg z]; omega
  rw [em]
  exact q

end
section
variable {P : Program} {w : World} {K : Fr0} {mg : Str → Option Value} {base : Heap}
theorem ok_law_made (T : Txt K mg) : Ok P w K mg base (L2.CX P w) 7 "_law_made" ["_law_d"] (spMadeX K) := by
  refine T.d_law_made.ok sc_law_made bd_law_made (fun vs H Q E h => by obtain ⟨p, u, v, x, y, tu, tv, tx, ty, rfl, _⟩ := h; rfl) (fun cdv A outer s H vs Q E hr h => ?_)
  obtain ⟨p, u, v, x, y, tu, tv, tx, ty, rfl, hd, hu, hv, hx, hy, q⟩ := h
  have tk : Takes (cxOf (L2.CX P w) P w K mg base N_law_made "_law_made" (defScope s_law_made) (fA K "_law_made") cdv A outer s H E) (fun cls d _ H => E cls d H) := takes_of rfl rfl rfl rfl
  obtain ⟨g1, g2, g3, g4⟩ := partsG hd
  refine ⟨_, (pss_one (ps_ret (pe_mkS T.mk_Way (ok_Way_init T) (hr.mono (by decide)) tk T.g_Way (pa_cons (pe_dget (hu_of hr) (pv 0) pe_str (fun _ _ => rfl)) (pa_cons (pe_dget (hu_of hr) (pv 0) pe_str (fun _ _ => rfl)) (pa_cons (pe_dget (hu_of hr) (pv 0) pe_str (fun _ _ => rfl)) (pa_cons (pe_dget (hu_of hr) (pv 0) pe_str (fun _ _ => rfl)) pa_nil))))))), ?_⟩
  walk_at "k0"
  walk_at "rd"
  refine ⟨p, _, rfl, g1, ?_⟩
  walk_at "rd"
  refine ⟨p, _, rfl, g2, ?_⟩
  walk_at "rd"
  refine ⟨p, _, rfl, g3, ?_⟩
  walk_at "rd"
  refine ⟨p, _, rfl, g4, ?_⟩
  walk_at "rd"
  exact way_wish hu hv hx hy q

end
section
variable {P : Program} {w : World} {K : Fr0} {mg : Str → Option Value} {base : Heap}
def spRefused (K : Fr0) : Sp := fun vs H Q _ => ∃ (p : Addr) (u v x y : V) (tu tv tx ty : String), vs = [.ref p] ∧ PartsAt H p u v x y ∧ AnyV K H u tu ∧ AnyV K H v tv ∧ AnyV K H x tx ∧ AnyV K H y ty ∧ ∀ H', Same H H' → Q (partOf u v x y) H'
theorem ok_law_refused (T : Txt K mg) : Ok P w K mg base CX0 8 "_law_refused" ["_law_d"] (spRefused K) := by
  refine T.d_law_refused.ok sc_law_refused bd_law_refused (fun vs H Q E h => by obtain ⟨p, u, v, x, y, tu, tv, tx, ty, rfl, _⟩ := h; rfl) (fun cdv A outer s H vs Q E hr h => ?_)
  obtain ⟨p, u, v, x, y, tu, tv, tx, ty, rfl, hd, hu, hv, hx, hy, q⟩ := h
  refine ⟨_, PSs.nox (pss_cons (ps_set (i := 1) sc_law_refused.nd rfl (Or.inl rfl) pe_non)
      (pss_cons (ps_try_as (i := 2) rfl rfl sc_law_refused.nd rfl rfl ⟨rfl, by decide, Or.inl T.g_InvalidPart⟩ takes0 (fun W pn xe tk1 _ => (pss_one (ps_expr (pe_fS (ok_law_made T) (hr.mono (by decide)) tk1 (pa_cons (pv 0) pa_nil))))) (fun a oe cls d pn hz hf => (pss_one (ps_set (i := 1) sc_law_refused.nd rfl (Or.inl rfl) (pe_xf T.x_InvalidPart.rd (T.x_InvalidPart.no _ (.head _)) hz hf (pv 2))))))
      (pss_one (ps_ret (pv 1))))), ?_⟩
  walk_at "k0"
  walk_at "rd"
  rcases part_or u v x y with e | ⟨z, e, _⟩
  · obtain ⟨h, b, c, k, e1, e2, e3, e4, ok⟩ := part_ok e
    refine ⟨p, u, v, x, y, tu, tv, tx, ty, rfl, hd, hu, hv, hx, hy, .inr ⟨h, b, c, k, e1, e2, e3, e4, ok, fun a H' na s' hw => ?_⟩⟩
    walk_at "rd"
    have z := q H' s'
    rw [e] at z
    exact z
  · refine ⟨p, u, v, x, y, tu, tv, tx, ty, rfl, hd, hu, hv, hx, hy, .inl ⟨z, e, fun d H' nd s' e' => ?_⟩⟩
    refine ⟨true, T.e_InvalidPart_InvalidPart, fun _ a na => ?_, fun z => nomatch z⟩
    walk_at "rd"
    refine ⟨rfl, _, _, e', look1, ?_⟩
    walk_at "rd"
    have z := q H' s'
    rw [e] at z
    exact z

end
section
variable {P : Program} {w : World} {K : Fr0} {mg : Str → Option Value} {base : Heap}
def spWrong (K : Fr0) : Sp := fun vs H Q _ => ∃ (p : Addr) (u v x y : V) (tu tv tx ty : String), vs = [.ref p] ∧ PartsAt H p u v x y ∧ AnyV K H u tu ∧ AnyV K H v tv ∧ AnyV K H x tx ∧ AnyV K H y ty ∧ ∀ H', Same H H' → Q (partOf u v x y) H'
/-- what is left to be looked at from the i-th part on -/
def partFrom (u v x y : V) : Nat → V
  | 0 => partOf u v x y
  | 1 => if isIn 0 4 v = false then .str "buy" else if isIn 0 50 x = false then .str "price" else if isIn 1 3 y = false then .str "pack" else .non
  | 2 => if isIn 0 50 x = false then .str "price" else if isIn 1 3 y = false then .str "pack" else .non
  | 3 => if isIn 1 3 y = false then .str "pack" else .non
  | _ => .non
theorem ok_law_wrong (T : Txt K mg) : Ok P w K mg base CX0 1 "_law_wrong" ["_law_d"] (spWrong K) := by
  refine T.d_law_wrong.ok sc_law_wrong bd_law_wrong (fun vs H Q E h => by obtain ⟨p, u, v, x, y, tu, tv, tx, ty, rfl, _⟩ := h; rfl) (fun cdv A outer s H vs Q E hr h => ?_)
  obtain ⟨p, u, v, x, y, tu, tv, tx, ty, rfl, hd, hu, hv, hx, hy, q⟩ := h
  refine ⟨_, PSs.nox (pss_cons (ps_for PassesOwn.never rfl (pi_list (pe_lst (pa_cons (pe_tup (pa_cons pe_str (pa_cons pe_int (pa_cons pe_int pa_nil)))) (pa_cons (pe_tup (pa_cons pe_str (pa_cons pe_int (pa_cons pe_int pa_nil)))) (pa_cons (pe_tup (pa_cons pe_str (pa_cons pe_int (pa_cons pe_int pa_nil)))) (pa_cons (pe_tup (pa_cons pe_str (pa_cons pe_int (pa_cons pe_int pa_nil)))) pa_nil)))))) (pg_tup rfl (pgs_cons (pg_name (i := 1) sc_law_wrong.nd rfl (Or.inl rfl)) (pgs_cons (pg_name (i := 2) sc_law_wrong.nd rfl (Or.inl rfl)) (pgs_cons (pg_name (i := 3) sc_law_wrong.nd rfl (Or.inl rfl)) pgs_nil)))) (pss_one (ps_if (PW.pt (pw_or (pt_not (pt_val (pe_callB (isiKK (K := K) rfl) rfl T.b_isinstance (by decide +kernel) (pa_cons (pe_dget (hu_of hr) (pv 0) (pv 1) (fun _ _ => rfl)) (pa_cons (pe_bltn (v := .ty "int") (u := .type "int") rfl T.b_int (by decide +kernel) rfl) pa_nil))))) (pw_or (pt_val (pe_callB (isiKK (K := K) rfl) rfl T.b_isinstance (by decide +kernel) (pa_cons (pe_dget (hu_of hr) (pv 0) (pv 1) (fun _ _ => rfl)) (pa_cons (pe_bltn (v := .ty "bool") (u := .type "bool") rfl T.b_bool (by decide +kernel) rfl) pa_nil)))) (pw_or (pt_cmpR op_lt (pe_dget (hu_of hr) (pv 0) (pv 1) (fun _ _ => rfl)) (pv 2) (nomark _)) (pw_or1 (pt_cmpR op_gt (pe_dget (hu_of hr) (pv 0) (pv 1) (fun _ _ => rfl)) (pv 3) (nomark _))))))) (pss_one (ps_ret (pv 1))) pss_nil)))
      (pss_one (ps_ret pe_non))), ?_⟩
  walk_at "k0"
  walk_at "rd"
  refine ⟨by show 3 ≤ sizeLine; decide, fun q1 n1 => ?_⟩
  walk_at "rd"
  refine ⟨by show 3 ≤ sizeLine; decide, fun q2 n2 => ?_⟩
  walk_at "rd"
  refine ⟨by show 3 ≤ sizeLine; decide, fun q3 n3 => ?_⟩
  walk_at "rd"
  refine ⟨by show 3 ≤ sizeLine; decide, fun q4 n4 => ?_⟩
  walk_at "rd"
  refine ⟨by show 4 ≤ sizeLine; decide, fun q5 n5 => ?_⟩
  walk_at "rd"
  have t1 := same_new (o := .tup [.str "have", .int 0, .int 5]) n1
  have t2 := same_new (o := .tup [.str "buy", .int 0, .int 4]) n2
  have t3 := same_new (o := .tup [.str "price", .int 0, .int 50]) n3
  have t4 := same_new (o := .tup [.str "pack", .int 1, .int 3]) n4
  have t5 := same_new (o := .lst [.ref q1, .ref q2, .ref q3, .ref q4]) n5
  have e1 := (t2.trans (t3.trans (t4.trans t5))) q1 _ upd_same
  have e2 := (t3.trans (t4.trans t5)) q2 _ upd_same
  have e3 := (t4.trans t5) q3 _ upd_same
  have e4 := t5 q4 _ upd_same
  have e5 : upd (upd (upd (upd (upd H q1 (.tup [.str "have", .int 0, .int 5])) q2 (.tup [.str "buy", .int 0, .int 4])) q3 (.tup [.str "price", .int 0, .int 50])) q4 (.tup [.str "pack", .int 1, .int 3])) q5 (.lst [.ref q1, .ref q2, .ref q3, .ref q4]) q5 = some (.lst [.ref q1, .ref q2, .ref q3, .ref q4]) := upd_same
  have t15 := t1.trans (t2.trans (t3.trans (t4.trans t5)))
  generalize upd (upd (upd (upd (upd H q1 (.tup [.str "have", .int 0, .int 5])) q2 (.tup [.str "buy", .int 0, .int 4])) q3 (.tup [.str "price", .int 0, .int 50])) q4 (.tup [.str "pack", .int 1, .int 3])) q5 (.lst [.ref q1, .ref q2, .ref q3, .ref q4]) = H5 at *
  obtain ⟨g1, g2, g3, g4⟩ := partsG (hd.same t15)
  have hu := hu.same t15
  have hv := hv.same t15
  have hx := hx.same t15
  have hy := hy.same t15
  refine ⟨⟨_, SqL.of e5⟩, ?_⟩
  refine for_list (K := K) (a := q5) (xs := [.ref q1, .ref q2, .ref q3, .ref q4]) (fun i σ H' => ∃ (b1 b2 b3 : Option V), σ = [some (.ref p), b1, b2, b3] ∧ H' = H5 ∧ partOf u v x y = partFrom u v x y i)
    ⟨_, _, _, rfl, rfl, rfl⟩ (fun i σ H' _ ⟨_, _, _, _, e, _⟩ => by rw [e]; exact SqL.of e5) ?_ ?_
  · rintro i z σ H' hz ⟨b1, b2, b3, rfl, rfl, ep⟩
    have hi : i < 4 := (List.getElem?_eq_some_iff.mp hz).1
    obtain ⟨qq, nm, lo, hi', vv, t, rfl, hq, hg, hV, f1, f2⟩ : ∃ (qq : Addr) (nm : Str) (lo hi' : Int) (vv : V) (t : String), z = .ref qq ∧ H' qq = some (.tup [.str nm, .int lo, .int hi']) ∧ DGet H' p (.str nm) (some vv) ∧ AnyV K H' vv t ∧
        (isIn lo hi' vv = false → partFrom u v x y i = .str nm) ∧ (isIn lo hi' vv = true → partFrom u v x y i = partFrom u v x y (i + 1)) := by
      rcases nat_four hi with rfl | rfl | rfl | rfl
      · exact ⟨q1, _, 0, 5, u, tu, (Option.some.inj hz).symm, e1, g1, hu, fun e => if_pos e, fun e => if_neg (by rw [e]; decide)⟩
      · exact ⟨q2, _, 0, 4, v, tv, (Option.some.inj hz).symm, e2, g2, hv, fun e => if_pos e, fun e => if_neg (by rw [e]; decide)⟩
      · exact ⟨q3, _, 0, 50, x, tx, (Option.some.inj hz).symm, e3, g3, hx, fun e => if_pos e, fun e => if_neg (by rw [e]; decide)⟩
      · exact ⟨q4, _, 1, 3, y, ty, (Option.some.inj hz).symm, e4, g4, hy, fun e => if_pos e, fun e => if_neg (by rw [e]; decide)⟩
    walk_at "rd"
    refine r_gtup (SqT.of hq) rfl ?_
    walk_at "rd"
    walk_at "if"
    refine ⟨p, vv, rfl, hg, ?_⟩
    walk_at "rd"
    have bad : isIn lo hi' vv = false → Q (.str nm) H' := fun e => by
      have z := q H' t15
      rw [ep, f1 e] at z
      exact z
    cases hV with
    | int j =>
      refine isi_ty (T := "int") (b := true) (.int j) (by decide +kernel) ?_
      walk_at "rd"
      refine ⟨p, _, rfl, hg, ?_⟩
      walk_at "rd"
      refine isi_ty (T := "bool") (b := false) (.int j) (by decide +kernel) ?_
      walk_at "rd"
      refine ⟨p, _, rfl, hg, ?_⟩
      walk_at "rd"
      refine r_dec (fun h0 => ?_) (fun h0 => ?_)
      · walk_at "rd"
        refine bad ?_
        show (decide (lo ≤ j) && decide (j ≤ hi')) = false
        rw [decide_eq_false (by omega), Bool.false_and]
      walk_at "rd"
      refine ⟨p, _, rfl, hg, ?_⟩
      walk_at "rd"
      refine r_dec (fun h1 => ?_) (fun h1 => ?_)
      · walk_at "rd"
        refine bad ?_
        show (decide (lo ≤ j) && decide (j ≤ hi')) = false
        rw [decide_eq_false (show ¬ j ≤ hi' by omega), Bool.and_false]
      walk_at "rd"
      refine ⟨_, _, _, rfl, rfl, ?_⟩
      rw [ep, f2]
      show (decide (lo ≤ j) && decide (j ≤ hi')) = true
      rw [decide_eq_true (show lo ≤ j by omega), decide_eq_true (show j ≤ hi' by omega)]
      rfl
    | bl b =>
      refine isi_ty (T := "int") (b := true) (.bl b) (by decide +kernel) ?_
      walk_at "rd"
      refine ⟨p, _, rfl, hg, ?_⟩
      walk_at "rd"
      refine isi_ty (T := "bool") (b := true) (.bl b) (by decide +kernel) ?_
      walk_at "rd"
      exact bad rfl
    | non =>
      refine isi_ty (T := "int") (b := false) .non (by decide +kernel) ?_
      walk_at "rd"
      exact bad rfl
    | str x =>
      refine isi_ty (T := "int") (b := false) (.str x) (by decide +kernel) ?_
      walk_at "rd"
      exact bad rfl
    | tup h =>
      refine isi_ty (T := "int") (b := false) (.tup h) (by decide +kernel) ?_
      walk_at "rd"
      exact bad rfl
    | lst h =>
      refine isi_ty (T := "int") (b := false) (.lst h) (by decide +kernel) ?_
      walk_at "rd"
      exact bad rfl
    | dct h =>
      refine isi_ty (T := "int") (b := false) (.dct h) (by decide +kernel) ?_
      walk_at "rd"
      exact bad rfl
  · rintro σ H' ⟨b1, b2, b3, rfl, rfl, ep⟩
    walk_at "rd"
    have z := q H' t15
    rw [ep] at z
    exact z

end
section
variable {P : Program} {w : World} {K : Fr0} {mg : Str → Option Value} {base : Heap}
theorem same_all (h b c k h' b' c' k' : Nat) : sameWay h' b' c' k' h b c k = ([((Sum.inr "have" : Key), (h' : Int), (h : Int)), (.inr "buy", (b' : Int), (b : Int)), (.inr "price", (c' : Int), (c : Int)), (.inr "pack", (k' : Int), (k : Int))].all fun t => t.2.1 == t.2.2) := by
  have e : ∀ x y : Nat, ((x : Int) == (y : Int)) = decide (x = y) := fun x y => by
    rw [show ((x : Int) == (y : Int)) = decide ((x : Int) = (y : Int)) from rfl]
    exact decide_eq_decide.mpr (by omega)
  unfold sameWay
  simp only [List.all_cons, List.all_nil, Bool.and_true, e]
theorem ok_law (T : Txt K mg) : Ok P w K mg base CX0 9 "law" ["_law_script"] (spLaw K) := by
  refine T.d_law.ok sc_law bd_law (fun vs H Q E h => by obtain ⟨a, ns, rfl, _⟩ := h; rfl) (fun cdv A outer s H vs Q E hr h => ?_)
  obtain ⟨a, ns, rfl, hS, hl, q⟩ := h
  refine ⟨_, PSs.nox (pss_cons (ps_set (i := 1) sc_law.nd rfl (Or.inl rfl) (pe_lst (pa_cons (pv 0) (pa_cons pe_int (pa_cons pe_int (pa_cons pe_int pa_nil))))))
      (pss_cons (ps_set (i := 2) sc_law.nd rfl (Or.inl rfl) (pe_lst (pa_cons pe_int (pa_cons pe_int (pa_cons pe_int (pa_cons pe_int (pa_cons pe_int (pa_cons pe_int (pa_cons pe_int (pa_cons pe_int (pa_cons (pe_un un_neg pe_int) (pa_cons pe_non (pa_cons pe_bl (pa_cons pe_str (pa_cons (pe_tup (pa_cons pe_int pa_nil)) (pa_cons (pe_lst pa_nil) (pa_cons pe_dnewK pa_nil)))))))))))))))))
      (pss_cons (ps_for PassesOwn.never rfl (pi_range1 rfl T.b_range (pa_cons pe_int pa_nil)) (pg_name (i := 3) sc_law.nd rfl (Or.inl rfl)) (pss_cons (ps_set (i := 4) sc_law.nd rfl (Or.inl rfl) (pe_f (ok_law_drawn T) (hr.mono (by decide)) pass0 (pa_cons (pv 1) pa_nil)))
      (pss_cons (ps_set (i := 5) sc_law.nd rfl (Or.inl rfl) (pe_f (ok_law_made T) (hr.mono (by decide)) passL (pa_cons (pv 4) pa_nil)))
      (pss_cons (ps_if (pt_cmpR (neDK (K := K) rfl hr.units) (pe_lst (pa_cons (pe_prp (pv 5) T.cl_Way T.p_Way_have (ok_Way_have T) (hr.mono (by decide)) pass0 rfl) (pa_cons (pe_prp (pv 5) T.cl_Way T.p_Way_buy (ok_Way_buy T) (hr.mono (by decide)) pass0 rfl) pa_nil))) (pe_lst (pa_cons (pe_dget (hu_of hr) (pv 4) pe_str (fun _ _ => rfl)) (pa_cons (pe_dget (hu_of hr) (pv 4) pe_str (fun _ _ => rfl)) pa_nil))) (nomark _)) (pss_one (ps_ret pe_bl)) pss_nil)
      (pss_cons (ps_if (pt_cmpR (neDK (K := K) rfl hr.units) (pe_lst (pa_cons (pe_prp (pv 5) T.cl_Way T.p_Way_price (ok_Way_price T) (hr.mono (by decide)) pass0 rfl) (pa_cons (pe_prp (pv 5) T.cl_Way T.p_Way_pack (ok_Way_pack T) (hr.mono (by decide)) pass0 rfl) pa_nil))) (pe_lst (pa_cons (pe_dget (hu_of hr) (pv 4) pe_str (fun _ _ => rfl)) (pa_cons (pe_dget (hu_of hr) (pv 4) pe_str (fun _ _ => rfl)) pa_nil))) (nomark _)) (pss_one (ps_ret pe_bl)) pss_nil)
      (pss_cons (ps_if (PW.pt (pw_or (pt_cmpR op_ne (pe_prp (pv 5) T.cl_Way T.p_Way_least (ok_Way_least T) (hr.mono (by decide)) pass0 rfl) (pe_f (ok_law_least T) (hr.mono (by decide)) pass0 (pa_cons (pv 4) pa_nil)) (nomark _)) (pw_or1 (pt_cmpR (op_ownI T.m_Way_eq (fun _ _ => rfl) rfl (ok_Way_eq T) (hr.mono (by decide)) pass0) (pv 5) (pv 4) (nomark _))))) (pss_one (ps_ret pe_bl)) pss_nil)
      (pss_cons (ps_set (i := 6) sc_law.nd rfl (Or.inl rfl) (pe_ifExp (pt_cmpR op_eq (pe_f (ok_law_taken T) (hr.mono (by decide)) pass0 (pa_cons (pv 1) (pa_cons pe_int pa_nil))) pe_int (nomark _)) (pe_f (ok_law_drawn T) (hr.mono (by decide)) pass0 (pa_cons (pv 1) pa_nil)) (pe_callTy call_dictD rfl T.b_dict (by decide +kernel) (pa_cons (pv 4) pa_nil))))
      (pss_cons (ps_if (pt_cmpR op_eq (pe_f (ok_law_taken T) (hr.mono (by decide)) pass0 (pa_cons (pv 1) (pa_cons pe_int pa_nil))) pe_int (nomark _)) (pss_cons (ps_set (i := 7) sc_law.nd rfl (Or.inl rfl) (pe_ix (ixlK (K := K) rfl) (pe_lst (pa_cons pe_str (pa_cons pe_str (pa_cons pe_str (pa_cons pe_str pa_nil))))) (pe_f (ok_law_taken T) (hr.mono (by decide)) pass0 (pa_cons (pv 1) (pa_cons pe_int pa_nil))) (fun _ _ => rfl)))
      (pss_one (ps_dput (hu_of hr) (pv 6) (pv 7) (pe_dget (hu_of hr) (pe_f (ok_law_drawn T) (hr.mono (by decide)) pass0 (pa_cons (pv 1) pa_nil)) (pv 7) (fun _ _ => rfl)) rfl))) pss_nil)
      (pss_cons (ps_if (pt_cmpR op_ne (pe_cmpR (op_ownI T.m_Way_eq (fun _ _ => rfl) rfl (ok_Way_eq T) (hr.mono (by decide)) pass0) (pe_f (ok_law_made T) (hr.mono (by decide)) passL (pa_cons (pv 6) pa_nil)) (pv 5) (nomark _)) (pe_cmpR (op_eqDI hr.units0) (pv 6) (pv 4) (nomark _)) (nomark _)) (pss_one (ps_ret pe_bl)) pss_nil)
      (pss_cons (ps_for PassesOwn.never rfl (pi_range1 rfl T.b_range (pa_cons (pe_op op_add pe_int (pe_f (ok_law_taken T) (hr.mono (by decide)) pass0 (pa_cons (pv 1) (pa_cons pe_int pa_nil)))) pa_nil)) (pg_name (i := 8) sc_law.nd rfl (Or.inl rfl)) (pss_one (ps_dput (hu_of hr) (pv 4) (pe_ix (ixlK (K := K) rfl) (pe_lst (pa_cons pe_str (pa_cons pe_str (pa_cons pe_str (pa_cons pe_str pa_nil))))) (pe_f (ok_law_taken T) (hr.mono (by decide)) pass0 (pa_cons (pv 1) (pa_cons pe_int pa_nil))) (fun _ _ => rfl)) (pe_ix (ixlK (K := K) rfl) (pv 2) (pe_f (ok_law_taken T) (hr.mono (by decide)) pass0 (pa_cons (pv 1) (pa_cons (pe_callB (lenK (K := K) rfl) rfl T.b_len (by decide +kernel) (pa_cons (pv 2) pa_nil)) pa_nil))) (fun _ _ => rfl)) rfl)))
      (pss_one (ps_if (pt_cmpR (neDK (K := K) rfl hr.units) (pe_f (ok_law_refused T) (hr.mono (by decide)) pass0 (pa_cons (pv 4) pa_nil)) (pe_f (ok_law_wrong T) (hr.mono (by decide)) pass0 (pa_cons (pv 4) pa_nil)) (nomark _)) (pss_one (ps_ret pe_bl)) pss_nil))))))))))))
      (pss_one (ps_ret pe_bl))))), ?_⟩
  walk_at "k0"
  walk_at "rd"
  refine ⟨by show 4 ≤ sizeLine; decide, fun r nr => ?_⟩
  walk_at "rd"
  refine ⟨by show 1 ≤ sizeLine; decide, fun p1 np1 => ?_⟩
  walk_at "rd"
  refine ⟨Nat.zero_le _, fun p2 np2 => ?_⟩
  walk_at "rd"
  refine fun p3 np3 => ?_
  walk_at "rd"
  refine ⟨by show 15 ≤ sizeLine; decide, fun O nO => ?_⟩
  walk_at "rd"
  have hR0 := RowAt.new (z := 201) nr hS
  have rlst : upd H r (.lst [.ref a, .int 0, .int 201, .int 0]) r = some (.lst [.ref a, .int 0, .int 201, .int 0]) := upd_same
  generalize upd H r (.lst [.ref a, .int 0, .int 201, .int 0]) = G0 at *
  have t1 := same_new (o := .tup [.int 1]) np1
  have t2 := same_new (o := .lst []) np2
  have t3 := same_new (o := .dK []) np3
  have t4 := same_new (o := .lst [.int 0, .int 1, .int 3, .int 4, .int 5, .int 6, .int 50, .int 51, .int (-1), .non, .bl true, .str "1", .ref p1, .ref p2, .ref p3]) nO
  have t14 := t1.trans (t2.trans (t3.trans t4))
  have nr' : ∀ {l : Addr} {G : Hp}, Same G0 G → G l = none → l ≠ r := fun {l G} s n z => by
    rw [z, s _ _ rlst] at n
    cases n
  have rO : O ≠ r ∧ p1 ≠ r ∧ p2 ≠ r ∧ p3 ≠ r := ⟨nr' (t1.trans (t2.trans t3)) nO, nr' (Same.refl _) np1, nr' t1 np2, nr' (t1.trans t2) np3⟩
  have od0 : OddAt (upd (upd (upd (upd G0 p1 (.tup [.int 1])) p2 (.lst [])) p3 (.dK [])) O (.lst [.int 0, .int 1, .int 3, .int 4, .int 5, .int 6, .int 50, .int 51, .int (-1), .non, .bl true, .str "1", .ref p1, .ref p2, .ref p3])) O p1 p2 p3 :=
    ⟨upd_same, (t2.trans (t3.trans t4)) _ _ upd_same, (t3.trans t4) _ _ upd_same, t4 _ _ upd_same⟩
  have hR1 := hR0.same t14
  generalize upd (upd (upd (upd G0 p1 (.tup [.int 1])) p2 (.lst [])) p3 (.dK [])) O (.lst [.int 0, .int 1, .int 3, .int 4, .int 5, .int 6, .int 50, .int 51, .int (-1), .non, .bl true, .str "1", .ref p1, .ref p2, .ref p3]) = G1 at *
  refine ⟨by decide, by decide, ?_⟩
  refine for_range (lo := 0) (n := 8) (fun i σ H' => ∃ (a1 a2 a3 a4 a5 a6 : Option V), σ = [some (.ref a), some (.ref r), some (.ref O), a1, a2, a3, a4, a5, a6] ∧ RowAt K H' r ∧ OddAt H' O p1 p2 p3)
    ⟨_, _, _, _, _, _, rfl, hR1, od0⟩ ?_ ?_
  · rintro i σ H1 hi ⟨a1, a2, a3, a4, a5, a6, rfl, hR, od1⟩
    walk_at "rd"
    refine ⟨r, rfl, hR, fun h b c k H2 p ok np c2 h2 hd2 => ?_⟩
    have wo := ok.way
    have npO := od1.ne np
    have od2 := od1.but c2.but rO
    walk_at "rd"
    refine c_madeX hd2 wo fun wa H3 nwa s3 hw3 => ?_
    walk_at "rd"
    walk_at "if"
    have hd3 := hd2.same s3
    refine ⟨wa, _, _, rfl, hw3.choose_spec, wa, h, b, c, k, rfl, hw3, ?_⟩
    walk_at "rd"
    refine ⟨wa, _, _, rfl, hw3.choose_spec, wa, h, b, c, k, rfl, hw3, ?_⟩
    walk_at "rd"
    refine ⟨by show 2 ≤ sizeLine; decide, fun p4 np4 => ?_⟩
    walk_at "rd"
    have s4 := same_new (o := .lst [.int (h : Int), .int (b : Int)]) np4
    obtain ⟨g1, g2, _, _⟩ := drawG (hd3.same s4)
    refine ⟨p, _, rfl, g1, ?_⟩
    walk_at "rd"
    refine ⟨p, _, rfl, g2, ?_⟩
    walk_at "rd"
    refine ⟨by show 2 ≤ sizeLine; decide, fun p5 np5 => ?_⟩
    have s5 := same_new (o := .lst [.int (h : Int), .int (b : Int)]) np5
    have sh2 : ∀ x y : Int, SeqAt.shaped (.list [.int x, .int y]) = true := fun x y => sh_mem fun d hd => by
      rcases List.mem_cons.mp hd with rfl | hd
      · exact ⟨rfl, Nat.zero_le _⟩
      · rw [List.mem_singleton.mp hd]
        exact ⟨rfl, Nat.zero_le _⟩
    refine r_neD (d := .list [.int h, .int b]) (.lst (SqL.of (s5 _ _ upd_same)) (.cons (.int _) (.cons (.int _) .nil))) (.lst (SqL.of upd_same) (.cons (.int _) (.cons (.int _) .nil))) (sh2 _ _) ?_
    walk_at "rd"
    walk_at "if"
    have s35 := s4.trans s5
    have hw5 := hw3.same s35
    have hd5 := hd3.same s35
    have od5 := (od2.same s3).same s35
    have h5 := (h2.same s3).same s35
    generalize upd (upd H3 p4 (.lst [.int (h : Int), .int (b : Int)])) p5 (.lst [.int (h : Int), .int (b : Int)]) = H5 at hw5 hd5 od5 h5 ⊢
    refine ⟨wa, _, _, rfl, hw5.choose_spec, wa, h, b, c, k, rfl, hw5, ?_⟩
    walk_at "rd"
    refine ⟨wa, _, _, rfl, hw5.choose_spec, wa, h, b, c, k, rfl, hw5, ?_⟩
    walk_at "rd"
    refine ⟨by show 2 ≤ sizeLine; decide, fun p6 np6 => ?_⟩
    walk_at "rd"
    have s6 := same_new (o := .lst [.int (c : Int), .int (k : Int)]) np6
    obtain ⟨_, _, g3, g4⟩ := drawG (hd5.same s6)
    refine ⟨p, _, rfl, g3, ?_⟩
    walk_at "rd"
    refine ⟨p, _, rfl, g4, ?_⟩
    walk_at "rd"
    refine ⟨by show 2 ≤ sizeLine; decide, fun p7 np7 => ?_⟩
    have s7 := same_new (o := .lst [.int (c : Int), .int (k : Int)]) np7
    refine r_neD (d := .list [.int c, .int k]) (.lst (SqL.of (s7 _ _ upd_same)) (.cons (.int _) (.cons (.int _) .nil))) (.lst (SqL.of upd_same) (.cons (.int _) (.cons (.int _) .nil))) (sh2 _ _) ?_
    walk_at "rd"
    walk_at "if"
    have s57 := s6.trans s7
    have hw7 := hw5.same s57
    have hd7 := hd5.same s57
    have od7 := od5.same s57
    have h7 := h5.same s57
    generalize upd (upd H5 p6 (.lst [.int (c : Int), .int (k : Int)])) p7 (.lst [.int (c : Int), .int (k : Int)]) = H7 at hw7 hd7 od7 h7 ⊢
    refine ⟨wa, _, _, rfl, hw7.choose_spec, wa, h, b, c, k, rfl, hw7, ?_⟩
    walk_at "rd"
    refine ⟨p, h, b, c, k, rfl, hd7, ?_⟩
    walk_at "rd"
    refine r_ndec (fun h0 => absurd rfl h0) (fun _ => ?_)
    walk_at "rd"
    refine ⟨wa, _, _, .type "dict", rfl, hw7.choose_spec, .base (.dK hd7), T.nf_Way, wa, h, b, c, k, _, rfl, hw7, .inl ⟨"dict", .base (.dK hd7), T.kd_Way, ?_⟩⟩
    walk_at "rd"
    refine r_via (fun v H' => ∃ (pe : Addr) (h' b' c' k' : Nat), v = .ref pe ∧ p ≠ pe ∧ wa ≠ pe ∧ (O ≠ pe ∧ p1 ≠ pe ∧ p2 ≠ pe ∧ p3 ≠ pe) ∧ RowAt K H' r ∧ OddAt H' O p1 p2 p3 ∧ WayOk h' b' c' k' ∧ DrawAt H' pe h' b' c' k' ∧ DrawAt H' p h b c k ∧ WayAt K H' wa h b c k) (fun Q' kk => ?_) ?_
    · walk_at "if"
      refine c_taken (m := 2) h7 (by decide) (by decide) fun d8 H8 hd8' c8 h8 => ?_
      have hd8 := hd7.chg c8
      have hw8 := hw7.chg c8
      have od8 := od7.but c8.but rO
      walk_at "rd"
      refine r_dec (fun h0 => ?_) (fun h0 => ?_)
      · walk_at "rd"
        refine ⟨r, rfl, h8, fun h' b' c' k' H9 pe ok' npe c9 h9 hde => kk _ _ ⟨pe, h', b', c', k', rfl, ne_of_none hd8 npe, ne_of_none hw8.choose_spec npe, od8.ne npe, h9, od8.but c9.but rO, ok'.way, hde, hd8.chg c9, hw8.chg c9⟩⟩
      · walk_at "rd"
        refine ⟨p, _, rfl, .inl hd8, fun pe npe => kk _ _ ⟨pe, h, b, c, k, rfl, ne_of_none hd8 npe, ne_of_none hw8.choose_spec npe, od8.ne npe, h8.same (same_new npe), od8.same (same_new npe), wo, upd_same, hd8.same (same_new npe), hw8.same (same_new npe)⟩⟩
    rintro vE H9 ⟨pe, h', b', c', k', rfl, npe, nwe, nOe, h9, od9, wo9, hde9, hd9, hw9⟩
    walk_at "rd"
    refine r_viaS (fun σ' H' => ∃ (b1 : Option V) (h2 b2 c2 k2 : Nat), σ' = [some (.ref a), some (.ref r), some (.ref O), some (.int (0 + (i : Int))), some (.ref p), some (.ref wa), some (.ref pe), b1, a6] ∧ RowAt K H' r ∧ OddAt H' O p1 p2 p3 ∧ WayOk h2 b2 c2 k2 ∧ DrawAt H' pe h2 b2 c2 k2 ∧ DrawAt H' p h b c k ∧ WayAt K H' wa h b c k) (fun nx kk => ?_) ?_
    · walk_at "if"
      refine c_taken (m := 2) h9 (by decide) (by decide) fun d10 H10 hd10' c10 h10 => ?_
      have hd10 := hd9.chg c10
      have hde10 := hde9.chg c10
      have hw10 := hw9.chg c10
      have od10 := od9.but c10.but rO
      walk_at "rd"
      refine r_dec (fun h0 => ?_) (fun h0 => ?_)
      · walk_at "rd"
        refine ⟨by show 4 ≤ sizeLine; decide, fun l11 nl11 => ?_⟩
        walk_at "rd"
        refine c_pick 4 h10 nl11 (by decide) (by decide) fun d12 H12 hd12 c12 h12 hb12 => ?_
        have hd12' := hd10.chg c12
        have hde12 := hde10.chg c12
        have hw12 := hw10.chg c12
        have od12 := od10.but c12.but rO
        rcases nat_four hd12 with rfl | rfl | rfl | rfl
        all_goals refine r_ixA hb12 rfl ?_
        all_goals walk_at "rd"
        all_goals refine ⟨r, rfl, h12, fun h3 b3 c3 k3 H13 pd ok3 npd c13 h13 hd13 => ?_⟩
        all_goals walk_at "rd"
        all_goals have w3 := ok3.way
        all_goals obtain ⟨g1, g2, g3, g4⟩ := drawG hd13
        all_goals have hde13 := hde12.chg c13
        all_goals have o3 := od12.but c13.but rO
        all_goals first
          | refine ⟨pd, _, rfl, g1, ?_⟩
          | refine ⟨pd, _, rfl, g2, ?_⟩
          | refine ⟨pd, _, rfl, g3, ?_⟩
          | refine ⟨pd, _, rfl, g4, ?_⟩
        all_goals walk_at "rd"
        · refine ⟨pe, _, rfl, DPut.k (k := .inr "have") hde13 (by show 4 < sizeLine; decide), ?_⟩
          exact kk _ _ ⟨_, h3, b', c', k', rfl, h13.but hde13 But.set1, o3.but But.set1 nOe, ⟨w3.h, wo9.b, wo9.c, wo9.k1, wo9.k3⟩, upd_same, But.set1 _ _ npe (hd12'.chg c13), (hw12.chg c13).but hde13 But.set1⟩
        · refine ⟨pe, _, rfl, DPut.k (k := .inr "buy") hde13 (by show 4 < sizeLine; decide), ?_⟩
          exact kk _ _ ⟨_, h', b3, c', k', rfl, h13.but hde13 But.set1, o3.but But.set1 nOe, ⟨wo9.h, w3.b, wo9.c, wo9.k1, wo9.k3⟩, upd_same, But.set1 _ _ npe (hd12'.chg c13), (hw12.chg c13).but hde13 But.set1⟩
        · refine ⟨pe, _, rfl, DPut.k (k := .inr "price") hde13 (by show 4 < sizeLine; decide), ?_⟩
          exact kk _ _ ⟨_, h', b', c3, k', rfl, h13.but hde13 But.set1, o3.but But.set1 nOe, ⟨wo9.h, wo9.b, w3.c, wo9.k1, wo9.k3⟩, upd_same, But.set1 _ _ npe (hd12'.chg c13), (hw12.chg c13).but hde13 But.set1⟩
        · refine ⟨pe, _, rfl, DPut.k (k := .inr "pack") hde13 (by show 4 < sizeLine; decide), ?_⟩
          exact kk _ _ ⟨_, h', b', c', k3, rfl, h13.but hde13 But.set1, o3.but But.set1 nOe, ⟨wo9.h, wo9.b, wo9.c, w3.k1, w3.k3⟩, upd_same, But.set1 _ _ npe (hd12'.chg c13), (hw12.chg c13).but hde13 But.set1⟩
      · walk_at "rd"
        exact kk _ _ ⟨_, h', b', c', k', rfl, h10, od10, wo9, hde10, hd10, hw10⟩
    rintro σ' H10 ⟨b1, h2', b2', c2', k2', rfl, h10, od10, wo10, hde10, hd10, hw10⟩
    walk_at "rd"
    walk_at "if"
    refine c_madeX hde10 wo10 fun we H11 nwe' s11 hwe => ?_
    walk_at "rd"
    have hw11 := hw10.same s11
    have hd11 := hd10.same s11
    have hde11 := hde10.same s11
    refine ⟨we, _, _, .ref (fA K "Way"), rfl, hwe.choose_spec, .base (.ins hw11.choose_spec T.cl_Way T.i_Way.ca T.i_Way.cn T.i_Way.ct T.i_Way.cm), nf_same, we, h2', b2', c2', k2', _, rfl, hwe, .inr ⟨wa, h, b, c, k, rfl, hw11, ?_⟩⟩
    walk_at "rd"
    refine ⟨pe, p, [(.inr "have", (h2' : Int), (h : Int)), (.inr "buy", (b2' : Int), (b : Int)), (.inr "price", (c2' : Int), (c : Int)), (.inr "pack", (k2' : Int), (k : Int))], drawF h b c k, rfl, rfl, hde11, hd11, rfl, fun t ht => ?_, ?_⟩
    · simp only [List.mem_cons, List.not_mem_nil, or_false] at ht
      rcases ht with rfl | rfl | rfl | rfl <;> rfl
    rw [same_all h b c k h2' b2' c2' k2']
    refine r_neB ?_
    rw [decide_eq_true rfl]
    walk_at "rd"
    refine c_taken (m := 2) (h10.same s11) (by decide) (by decide) fun d12 H12 hd12 c12 h12 => ?_
    walk_at "rd"
    have od12 := (od10.same s11).but c12.but rO
    have hp12 : PartsAt H12 p (.int h) (.int b) (.int c) (.int k) := (hd11.chg c12).parts
    refine ⟨by omega, by omega, ?_⟩
    rw [show ((1 : Int) + (d12 : Int)).toNat = 1 + d12 by omega]
    refine for_range (lo := 0) (n := 1 + d12) (fun j σ H' => ∃ (b8 : Option V) (u v x y : V), σ = [some (.ref a), some (.ref r), some (.ref O), some (.int (0 + (i : Int))), some (.ref p), some (.ref wa), some (.ref pe), b1, b8] ∧ RowAt K H' r ∧ OddAt H' O p1 p2 p3 ∧ PartsAt H' p u v x y ∧
        OddV p1 p2 p3 u ∧ OddV p1 p2 p3 v ∧ OddV p1 p2 p3 x ∧ OddV p1 p2 p3 y) ⟨_, _, _, _, _, rfl, h12, od12, hp12, .int _, .int _, .int _, .int _⟩ ?_ ?_
    · rintro j σ H13 hj ⟨b8, u, v, x, y, rfl, h13, od13, hp13, ou, ov, ox, oy⟩
      walk_at "rd"
      refine ⟨O, _, rfl, .inl (SqL.of od13.o), ?_⟩
      walk_at "rd"
      refine c_taken (m := 15) h13 (by decide) (by decide) fun d14 H14 hd14 c14 h14 => ?_
      have od14 := od13.but c14.but rO
      obtain ⟨z, hz, oz⟩ : ∃ z, atI [V.int 0, .int 1, .int 3, .int 4, .int 5, .int 6, .int 50, .int 51, .int (-1), .non, .bl true, .str "1", .ref p1, .ref p2, .ref p3] (d14 : Int) = some z ∧ OddV p1 p2 p3 z := by
        have : d14 = 0 ∨ d14 = 1 ∨ d14 = 2 ∨ d14 = 3 ∨ d14 = 4 ∨ d14 = 5 ∨ d14 = 6 ∨ d14 = 7 ∨ d14 = 8 ∨ d14 = 9 ∨ d14 = 10 ∨ d14 = 11 ∨ d14 = 12 ∨ d14 = 13 ∨ d14 = 14 := by omega
        rcases this with rfl | rfl | rfl | rfl | rfl | rfl | rfl | rfl | rfl | rfl | rfl | rfl | rfl | rfl | rfl
        · exact ⟨_, rfl, .int _⟩
        · exact ⟨_, rfl, .int _⟩
        · exact ⟨_, rfl, .int _⟩
        · exact ⟨_, rfl, .int _⟩
        · exact ⟨_, rfl, .int _⟩
        · exact ⟨_, rfl, .int _⟩
        · exact ⟨_, rfl, .int _⟩
        · exact ⟨_, rfl, .int _⟩
        · exact ⟨_, rfl, .int _⟩
        · exact ⟨_, rfl, .non⟩
        · exact ⟨_, rfl, .bl _⟩
        · exact ⟨_, rfl, .str _⟩
        · exact ⟨_, rfl, .t⟩
        · exact ⟨_, rfl, .l⟩
        · exact ⟨_, rfl, .d⟩
      refine r_ixA od14.o hz ?_
      walk_at "rd"
      refine ⟨by show 4 ≤ sizeLine; decide, fun l15 nl15 => ?_⟩
      walk_at "rd"
      refine c_pick 4 h14 nl15 (by decide) (by decide) fun d16 H16 hd16 c16 h16 hb16 => ?_
      have od16 := od14.but c16.but rO
      have hp16 := (hp13.chg c14).chg c16
      rcases nat_four hd16 with rfl | rfl | rfl | rfl
      all_goals refine r_ixA hb16 rfl ?_
      all_goals walk_at "rd"
      · refine ⟨p, _, rfl, DPut.k (k := .inr "have") hp16 (by show 4 < sizeLine; decide), ?_⟩
        exact ⟨_, z, v, x, y, rfl, h16.but hp16 But.set1, od16.but But.set1 npO, upd_same, oz, ov, ox, oy⟩
      · refine ⟨p, _, rfl, DPut.k (k := .inr "buy") hp16 (by show 4 < sizeLine; decide), ?_⟩
        exact ⟨_, u, z, x, y, rfl, h16.but hp16 But.set1, od16.but But.set1 npO, upd_same, ou, oz, ox, oy⟩
      · refine ⟨p, _, rfl, DPut.k (k := .inr "price") hp16 (by show 4 < sizeLine; decide), ?_⟩
        exact ⟨_, u, v, z, y, rfl, h16.but hp16 But.set1, od16.but But.set1 npO, upd_same, ou, ov, oz, oy⟩
      · refine ⟨p, _, rfl, DPut.k (k := .inr "pack") hp16 (by show 4 < sizeLine; decide), ?_⟩
        exact ⟨_, u, v, x, z, rfl, h16.but hp16 But.set1, od16.but But.set1 npO, upd_same, ou, ov, ox, oz⟩
    rintro σ H13 ⟨b8, u, v, x, y, rfl, h13, od13, hp13, ou, ov, ox, oy⟩
    walk_at "rd"
    walk_at "if"
    obtain ⟨tu, hu⟩ := ou.any (K := K) od13
    obtain ⟨tv, hv⟩ := ov.any (K := K) od13
    obtain ⟨tx, hx⟩ := ox.any (K := K) od13
    obtain ⟨ty, hy⟩ := oy.any (K := K) od13
    refine ⟨p, u, v, x, y, tu, tv, tx, ty, rfl, hp13, hu, hv, hx, hy, fun H14 s14 => ?_⟩
    walk_at "rd"
    refine ⟨p, u, v, x, y, tu, tv, tx, ty, rfl, hp13.same s14, hu.same s14, hv.same s14, hx.same s14, hy.same s14, fun H15 s15 => ?_⟩
    have s1315 := s14.trans s15
    rcases part_or u v x y with e | ⟨zz, e, ok⟩
    · rw [e]
      refine r_neD (d := .none) .non .non (by decide +kernel) ?_
      walk_at "rd"
      exact ⟨_, _, _, _, _, _, rfl, h13.same s1315, od13.same s1315⟩
    · rw [e]
      refine r_neD (d := .str zz) (.str _) (.str _) (by unfold SeqAt.shaped; simp [PyData.canLay0, PyData.depth, ok]) ?_
      walk_at "rd"
      exact ⟨_, _, _, _, _, _, rfl, h13.same s1315, od13.same s1315⟩
  · rintro σ H1 ⟨a1, a2, a3, a4, a5, a6, rfl, hR, od1⟩
    walk_at "rd"
    exact q _

end
set_option maxHeartbeats 0
def names0 : List Str := ["AlbumError", "InvalidPart", "is_whole", "is_within", "MOST_HAVE", "MOST_BUY", "MOST_PRICE", "MOST_PACK", "Way", "need_part", "_law_taken", "_law_drawn"]
def names1 : List Str := ["_law_least", "_law_made", "_law_refused", "_law_wrong"]
def names : List Str := names0 ++ names1
abbrev R : PySem.W.OpenRow := PySem.W.OpenLaw.row PySem.Challenge.rw_albumforms_k01_ways_refused
abbrev hk : PySem.W.Hook := hookB 5 fs fn
def ob (s : PySem.W.SharedT) : He.AlD := lookB 5 fs fn (HandSHeadRun.getT s)
theorem ob_hook (s : PySem.W.SharedT) : ob s = hk.obs s.abs := lookB_hook (HandSHeadRun.getT_eq s)
theorem run (w : World) : HandSHeadRun.RunEq R (PySem.W.view R.prog [20]) hk ob 9000 names w := by
  intro os
  kernel_rfl
end Ab
open PySem PySem.W PySem.Calls PyProof.Rows
theorem PySem.Challenge.cw_albumforms_k01_ways_refused_holds : PySem.Challenge.rw_albumforms_k01_ways_refused.Holds := by
  w_on; o_law
  refine HandSHeadRun.head_any (r := OpenLaw.row PySem.Challenge.rw_albumforms_k01_ways_refused) (q := view (OpenLaw.row PySem.Challenge.rw_albumforms_k01_ways_refused).prog [20]) (H := Ab.hk) (ob := Ab.ob) (M := 9000) (loose := Ab.names)
    (d := HandSHeadRun.topDef (OpenLaw.row PySem.Challenge.rw_albumforms_k01_ways_refused).prog 20) (kwd := []) Ab.ob_hook
    (by kernel_rfl) (fun s => by kernel_rfl) Ab.run (by kernel_rfl) (by kernel_rfl) (by kernel_rfl) (by rfl) (by first | assumption | decide +kernel) (by decide +kernel) ⟨rfl, rfl, rfl, rfl, rfl, by decide +kernel⟩ ?hw ?hc
  case hw => w_witness2
  case hc =>
    refine L2.walk_ofE (l := PySem.Challenge.rw_albumforms_k01_ways_refused) (n := 63) (k := 9) (x := "_law_script") (CX := L2.CX0) rfl (by decide) (by kernel_rfl) ⟨rfl, by decide, by decide⟩ ?F (fun _ _ _ _ z => z)
    intro w mg fa h Y G hmg0
    obtain ⟨K, KX, c⟩ := Y
    have hmg : mg ("law" : PySem.Str) = some (.ref fa) := by
      have e : (HandSHeadRun.topDef (OpenLaw.row PySem.Challenge.rw_albumforms_k01_ways_refused).prog 20).name = ("law" : PySem.Str) := by kernel_rfl
      rw [← e]
      exact hmg0
    have T : Ab.Txt K mg := Ab.txt_of KX G c
    obtain ⟨fd, F⟩ := T.d_law.fn
    have eq : fa = Ab.fA K "law" := by
      have z := hmg.symm.trans T.d_law.gl
      injection z with z
      injection z
    subst eq
    exact ⟨K, fd, Ab.spLaw K, KX, fun s u => L2.FunD.bindsA (ps := ["_law_script"]) F Ab.bd_law s [u] rfl, fun H a ns hl _ hS => ⟨a, ns, rfl, hS, hl, fun _ => rfl⟩,
      fun base _ _ => Ab.fn_of_ok (Ab.ok_law T) F⟩
#print axioms PySem.Challenge.cw_albumforms_k01_ways_refused_holds
