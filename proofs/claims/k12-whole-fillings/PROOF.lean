import PyProof.Rows.All
import Wide.All
import OpenK.AllK
import Wide.FinOn
import HandS.ForMost
import HandS.ForExc
import HandS.ExcInit
import HandS.TryMany
import HandS.ExcField
import HandS.IsInst
import HandS.Property
import HandS.Wide
import HandS.Defaults
import HandS.Conv
import HandS.HeadHook1
import HandS.HeadHook2
import HandS.HeadNt
import HandS.HeadEnd
import HandS.Head0
import HandS.Head1
import HandS.Head2
import KE.KDictDisplayH
import HandS.Walk
import HandS.Style
import HandS.More
import HandS.SlotsOwn
import HandS.FStr
import HandS.Flow
import HandS.CallSlots
import HandS.TupAny
import HandS.Zip
import PyProof.FactsAll.bool
import PySem.Challenge.RW_albumforms_k12_whole_fillings
set_option Elab.async false
set_option linter.all false
set_option maxRecDepth 100000
set_option maxHeartbeats 4000000
/-! PART base: facts of the written part by one hook, calls by name. -/
namespace Ab
open PySem PySem.Spec PyProof.Rows L2

/-! ### the hook: facts as Bools, defs as data -/
abbrev Fr0 := PySem.W.Frag
abbrev Fact := Fr0 → Bool
def saysB (fs : List Fact) (fn : List He5.DefA) (K : Fr0) : He.AlD :=
  (fs.all (fun f => f K) && fn.all (fun d => d.ok K), fn.map (fun d => He5.fnA K (d.at_ K)))
def valB (fn : List He5.DefA) : He.AlD := (true, fn.map He5.DefA.val)
def SaysB (fs : List Fact) (fn : List He5.DefA) (K : Fr0) : Prop := saysB fs fn K = valB fn
def lookB (n : Nat) (fs : List Fact) (fn : List He5.DefA) (g : Addr → Option Obj) : He.AlD := saysB fs fn (He.frG g (He5.asA g n))
def hookB (n : Nat) (fs : List Fact) (fn : List He5.DefA) : PySem.W.Hook where
  α := He.AlD
  obs := fun s => lookB n fs fn s.heap.get?
  val := fun _ => valB fn
  says := fun _ h => ∃ K : Fr0, K.In h ∧ SaysB fs fn K
  of := fun _ _ e => ⟨_, He.frG_in, e⟩
  keeps := fun _ _ _ ⟨K, hK, c⟩ k => ⟨K, PySem.W.Frag.In.keeps hK k, c⟩
theorem lookB_hook {n : Nat} {fs : List Fact} {fn : List He5.DefA} {g : Addr → Option Obj} {s : Shared} (h : ∀ a, g a = s.heap.get? a) :
    lookB n fs fn g = (hookB n fs fn).obs s := by
  obtain rfl : g = s.heap.get? := funext h
  rfl
theorem SaysB.fact {fs : List Fact} {fn : List He5.DefA} {K : Fr0} (c : SaysB fs fn K) (i : Nat) {f : Fact} (h : fs[i]? = some f := by rfl) : f K = true := by
  have a : (fs.all (fun f => f K) && fn.all (fun d => d.ok K)) = true := congrArg Prod.fst c
  rw [Bool.and_eq_true] at a
  exact List.all_eq_true.mp a.1 f (List.mem_of_getElem? h)
theorem SaysB.dfn {fs : List Fact} {fn : List He5.DefA} {K : Fr0} (c : SaysB fs fn K) (i : Nat) {d : He5.DefA} (h : fn[i]? = some d := by rfl) :
    ∃ fd, FunD K d.name d.qual d.params d.body d.scope (d.dvs K) (d.kws K) (d.at_ K) fd := by
  have a : (fs.all (fun f => f K) && fn.all (fun d => d.ok K)) = true := congrArg Prod.fst c
  have b : fn.map (fun d => He5.fnA K (d.at_ K)) = fn.map He5.DefA.val := congrArg Prod.snd c
  rw [Bool.and_eq_true] at a
  have b2 := congrArg (fun l => l[i]?) b
  simp only [List.getElem?_map, h, Option.map_some] at b2
  exact He5.DefA.funD (Option.some.inj b2) (List.all_eq_true.mp a.2 d (List.mem_of_getElem? h))

/-! ### a global def, by its name -/
abbrev fA (K : Fr0) (x : Str) : Addr := He.ga K x
abbrev mA (K : Fr0) (C m : Str) : Addr := He.ma K (He.ga K C) m
/-- the def x of the top, whose text is st -/
structure Top (K : Fr0) (mg : Str → Option Value) (x : Str) (st : Stmt) : Prop where
  fn : ∃ fd, FunD K x x (defArgs st) (defBody st) (defScope st) [] [] (fA K x) fd
  gl : mg x = some (.ref (fA K x))
/-- the def x is there and keeps sp -/
structure Ok (P : Program) (w : World) (K : Fr0) (mg : Str → Option Value) (base : Heap) (CX : CXT) (k : Nat) (x : Str) (ps : List Str) (sp : Sp) : Prop where
  fn : ∃ fd, FnOk P w K mg base CX k (fA K x) fd ps sp ∧ Binds K fd ps [] ∧ ∃ oc od osl, K.lookup (fA K x) = some ⟨oc, od, .func fd, osl⟩
  gl : mg x = some (.ref (fA K x))
  kp : PySem.W.keepIn K (.ref (fA K x)) = true
/-- how a def without defaults binds -/
def BindsAs (st : Stmt) (x q : Str) (ps : List Str) : Prop := ∀ (kV doc pm : Value) (an : Option Addr) (cdv ct : Value) (us : List Value), us.length = ps.length →
  bindArgs (PySem.W.fnOf x q (defArgs st) (defBody st) (defScope st) .none kV doc pm an cdv ct) ⟨us, []⟩ = pure (ps.zip us)
section
variable {P : Program} {w : World} {K : Fr0} {mg : Str → Option Value} {base : Heap} {CX : CXT} {x : Str} {st : Stmt} {N ps : List Str} {k : Nat} {sp : Sp}
theorem Top.ok (D : Top K mg x st) (S : FnScope N ps (defScope st)) (b : BindsAs st x x ps) (len : ∀ vs H Q E, sp vs H Q E → vs.length = ps.length)
    (body : ∀ (cdv : Value) (A : Around) (outer : List Env) (s : Shared) (H : Hp) (vs : List V) (Q : VK) (E : XK), Room k (A.deeper (envOfC x (defScope st) s.heap.objs.size (fA K x) cdv)) → sp vs H Q E →
      ∃ t, PSs (cxOf CX P w K mg base N x (defScope st) (fA K x) cdv A outer s H E) (defBody st) t ∧ t { nx := fun _ H' => Q .non H', rt := Q } (start N vs) H) :
    Ok P w K mg base CX (k + 1) x ps sp := by
  obtain ⟨fd, F⟩ := D.fn
  refine ⟨⟨fd, F.ok S len body, F.bindsN b, ?_⟩, D.gl, F.kp⟩
  obtain ⟨oc, od, _, _, _, _, _, _, _, osl, _, e, _⟩ := F.ex
  exact ⟨oc, od, osl, e⟩
/-- at the def's own record -/
theorem fn_of_ok {q : Str} {pa : Arguments} {bo : List Stmt} {sc : Scope} {dv : List V} {kw : List (Str × V)} {fd : FuncData} (G : Ok P w K mg base CX k x ps sp) (F : FunD K x q pa bo sc dv kw (fA K x) fd) : FnOk P w K mg base CX k (fA K x) fd ps sp := by
  obtain ⟨fd', F', _, oc, od, osl, e⟩ := G.fn
  obtain ⟨oc2, od2, _, _, _, _, _, _, _, osl2, _, e2, _⟩ := F.ex
  rw [e] at e2
  have z := Option.some.inj e2
  injection z with z1 z2 z3
  injection z3 with z3
  subst z3
  exact F'
theorem Ok.imp {sp' : Sp} (G : Ok P w K mg base CX k x ps sp) (h : ∀ vs H Q E, sp' vs H Q E → sp vs H Q E) : Ok P w K mg base CX k x ps sp' := by
  obtain ⟨fd, F, b⟩ := G.fn
  exact ⟨⟨fd, F.imp h, b⟩, G.gl, G.kp⟩
end
section
variable {X : Cx} {CX : CXT} {k : Nat} {x : Str} {ps : List Str} {sp : Sp} {E : XK} {p pos : Pos} {e : Expr} {es : List Expr} {t : TA}
/-- x(e, ..) -/
theorem pe_f (G : Ok X.prog X.w X.K X.mg X.base CX k x ps sp) (hr : Room k X.A) (hx : Passes CX X E) (ha : PA X (e :: es) t) (hg : Gl X x := by rfl)
    (hdb : (x == ("__debug__" : Str)) = false := by decide) (he : starEach (e :: es) X.env = (false, eval e X.env) :: starEach es X.env := by rfl) (hpl : (backTo pos (starEach es X.env)).any (·.1) = false := by rfl) :
    PE X (.Call (.Name x p) (e :: es) [] pos) (tCall sp [] E t) := by
  obtain ⟨fd, F, b, _⟩ := G.fn
  exact pe_call F hr hg G.gl G.kp b .nil hx ha hdb he hpl
/-- x() -/
theorem pe_f0 (G : Ok X.prog X.w X.K X.mg X.base CX k x ps sp) (hr : Room k X.A) (hx : Passes CX X E) (hg : Gl X x := by rfl)
    (hdb : (x == ("__debug__" : Str)) = false := by decide) : PE X (.Call (.Name x p) [] [] pos) (tCall sp [] E tNil) := by
  obtain ⟨fd, F, b, _⟩ := G.fn
  exact pe_call0 F hr hg G.gl G.kp b .nil hx hdb
/-- x(e, ..), what it lets out goes on, or is caught -/
theorem pe_fS {W : WX} (G : Ok X.prog X.w X.K X.mg X.base (L2.CX X.prog X.w) k x ps sp) (hr : Room k X.A) (tk : Takes X W) (ha : PA X (e :: es) t) (hg : Gl X x := by rfl)
    (hdb : (x == ("__debug__" : Str)) = false := by decide) (he : starEach (e :: es) X.env = (false, eval e X.env) :: starEach es X.env := by rfl) (hpl : (backTo pos (starEach es X.env)).any (·.1) = false := by rfl) :
    PE X (.Call (.Name x p) (e :: es) [] pos) (tCallS sp (WE W) t) := by
  obtain ⟨fd, F, b, _⟩ := G.fn
  exact pe_callS F hr hg G.gl G.kp b (fun σ => passAt tk σ) ha hdb he hpl
end
end Ab
/-! PART reads: what is kept, data at any depth, the readings step by step. -/
namespace Ab
open PySem PySem.Spec PyProof.Rows L2

/-! ### what is kept -/
theorem same_new {H : Hp} {p : Addr} {o : HO} (n : H p = none) : Same H (upd H p o) := fun b u e => by rw [upd_ne (ne_of_none e n)]; exact e
theorem same_add {H H' : Hp} {p : Addr} {o : HO} (s : Same H H') (n : H' p = none) : Same H (upd H' p o) := s.trans (same_new n)
/-- all but the list at r is kept -/
structure Chg (r : Addr) (H H' : Hp) : Prop where
  was : ∃ l, H r = some (.lst l)
  kp : ∀ b o, b ≠ r → H b = some o → H' b = some o
theorem Chg.upd {r : Addr} {H : Hp} {l : List V} {o : HO} (h : H r = some (.lst l)) : Chg r H (upd H r o) := ⟨⟨l, h⟩, fun b u n e => by rw [upd_ne n]; exact e⟩
theorem Chg.at {r a : Addr} {H H' : Hp} {o : HO} (c : Chg r H H') (e : H a = some o) (n : ∀ l, o ≠ .lst l) : H' a = some o := by
  obtain ⟨l, hl⟩ := c.was
  refine c.kp a o (fun z => ?_) e
  subst z
  rw [hl] at e
  exact n l (Option.some.inj e).symm
theorem Chg.ne {r a : Addr} {H H' : Hp} {o : HO} (c : Chg r H H') (e : H a = some o) (n : ∀ l, o ≠ .lst l) : a ≠ r := by
  obtain ⟨l, hl⟩ := c.was
  intro z
  subst z
  rw [hl] at e
  exact n l (Option.some.inj e).symm
theorem rd_same {H H' : Hp} {a : Addr} {u : HO} (s : Same H H') (h : Rd H a u) : Rd H' a u := by
  rcases h with h | ⟨o, h⟩
  · exact .inl (s _ _ h)
  · exact .inr ⟨o, s _ _ h⟩
theorem sql_same {K : Fr0} {H H' : Hp} {a : Addr} {xs : List V} (s : Same H H') (h : SqL K H a xs) : SqL K H' a xs := s.seq h
theorem sqt_same {K : Fr0} {H H' : Hp} {a : Addr} {xs : List V} (s : Same H H') (h : SqT K H a xs) : SqT K H' a xs := by
  rcases h with h | h
  · exact .inl (rd_same s h)
  · exact .inr h
theorem sqt_chg {K : Fr0} {H H' : Hp} {r a : Addr} {xs : List V} (c : Chg r H H') (h : SqT K H a xs) : SqT K H' a xs := by
  rcases h with (h | ⟨o, h⟩) | h
  · exact .inl (.inl (c.at h fun _ z => nomatch z))
  · exact .inl (.inr ⟨o, c.at h fun _ z => nomatch z⟩)
  · exact .inr h
theorem sql_chg {K : Fr0} {H H' : Hp} {r a : Addr} {xs : List V} (c : Chg r H H') (n : a ≠ r) (h : SqL K H a xs) : SqL K H' a xs := by
  rcases h with (h | ⟨o, h⟩) | h
  · exact .inl (.inl (c.kp _ _ n h))
  · exact .inl (.inr ⟨o, c.at h fun _ z => nomatch z⟩)
  · exact .inr h

/-! ### data -/
mutual
theorem dp_same {K : Fr0} {H H' : Hp} (s : Same H H') : ∀ {d : PyData} {v : V}, Dp K H v d → Dp K H' v d
  | .none, _, h => by cases h; exact .non
  | .bool b, _, h => by cases h; exact .bl b
  | .int i, _, h => by cases h; exact .int i
  | .str x, _, h => by cases h; exact .str x
  | .list ds, _, h => by
    cases h with
    | lst h1 h2 => exact .lst (sql_same s h1) (dpA_same s h2)
  | .tuple ds, _, h => by
    cases h with
    | tup h1 h2 => exact .tup (sqt_same s h1) (dpA_same s h2)
  | .dict _, _, h => by cases h
theorem dpA_same {K : Fr0} {H H' : Hp} (s : Same H H') : ∀ {ds : List PyData} {vs : List V}, DpAll K H vs ds → DpAll K H' vs ds
  | [], _, h => by cases h; exact .nil
  | d :: ds, _, h => by
    cases h with
    | cons h1 h2 => exact .cons (dp_same s h1) (dpA_same s h2)
end
/-- no lists within -/
def nol : PyData → Bool
  | .list _ => false
  | .tuple [] => true
  | .tuple (d :: ds) => nol d && nol (.tuple ds)
  | _ => true
theorem dp_chg {K : Fr0} {H H' : Hp} {r : Addr} (c : Chg r H H') : ∀ {d : PyData} {v : V}, nol d = true → Dp K H v d → Dp K H' v d := by
  have all : ∀ (n : Nat), (∀ {d : PyData} {v : V}, sizeOf d ≤ n → nol d = true → Dp K H v d → Dp K H' v d) ∧ (∀ {ds : List PyData} {vs : List V}, sizeOf ds ≤ n → nol (.tuple ds) = true → DpAll K H vs ds → DpAll K H' vs ds) := by
    intro n
    induction n with
    | zero =>
      refine ⟨fun {d v} hz => ?_, fun {ds vs} hz => ?_⟩
      · exfalso; cases d <;> simp at hz
      · exfalso; cases ds <;> simp at hz
    | succ n ih =>
      refine ⟨fun {d v} hz hn h => ?_, fun {ds vs} hz hn h => ?_⟩
      · cases h with
        | non => exact .non
        | bl b => exact .bl b
        | int i => exact .int i
        | str x => exact .str x
        | lst h1 h2 => exact absurd hn (by rw [nol]; decide)
        | tup h1 h2 => exact .tup (sqt_chg c h1) (ih.2 (by simp at hz; omega) hn h2)
      · cases h with
        | nil => exact .nil
        | cons h1 h2 =>
          rw [nol, Bool.and_eq_true] at hn
          refine .cons (ih.1 ?_ hn.1 h1) (ih.2 ?_ hn.2 h2)
          · simp at hz; omega
          · simp at hz; omega
  intro d v hn h
  exact (all (sizeOf d)).1 (Nat.le_refl _) hn h
theorem dp_tup {K : Fr0} {H : Hp} {v : V} {ds : List PyData} (h : Dp K H v (.tuple ds)) : ∃ a xs, v = .ref a ∧ SqT K H a xs ∧ DpAll K H xs ds := by
  cases h with
  | tup h1 h2 => exact ⟨_, _, rfl, h1, h2⟩
theorem dp_lst {K : Fr0} {H : Hp} {v : V} {ds : List PyData} (h : Dp K H v (.list ds)) : ∃ a xs, v = .ref a ∧ SqL K H a xs ∧ DpAll K H xs ds := by
  cases h with
  | lst h1 h2 => exact ⟨_, _, rfl, h1, h2⟩
theorem dpA_len {K : Fr0} {H : Hp} : ∀ {ds : List PyData} {vs : List V}, DpAll K H vs ds → vs.length = ds.length
  | [], _, h => by cases h; rfl
  | d :: ds, _, h => by
    cases h with
    | cons h1 h2 => exact congrArg Nat.succ (dpA_len h2)
theorem dpA_get {K : Fr0} {H : Hp} : ∀ {ds : List PyData} {vs : List V} {i : Nat} {d : PyData}, DpAll K H vs ds → ds[i]? = some d → ∃ v, vs[i]? = some v ∧ Dp K H v d
  | [], _, _, _, _, e => by simp at e
  | d :: ds, _, 0, _, h, e => by
    cases h with
    | cons h1 h2 =>
      simp at e
      subst e
      exact ⟨_, rfl, h1⟩
  | d :: ds, _, i + 1, _, h, e => by
    cases h with
    | cons h1 h2 =>
      obtain ⟨v, e1, e2⟩ := dpA_get (i := i) h2 (by simpa using e)
      exact ⟨v, by simpa using e1, e2⟩
theorem dpA_at {K : Fr0} {H : Hp} {ds : List PyData} {vs : List V} {i : Int} {d : PyData} (h : DpAll K H vs ds) (e : atI ds i = some d) : ∃ v, atI vs i = some v ∧ Dp K H v d := by
  unfold atI at e ⊢
  rw [dpA_len h]
  cases q : ixN ds.length i with
  | none => rw [q] at e; exact nomatch e
  | some j =>
    rw [q] at e
    exact dpA_get h e
theorem dpA_app {K : Fr0} {H : Hp} {v : V} {d : PyData} (h2 : Dp K H v d) : ∀ {ds : List PyData} {vs : List V}, DpAll K H vs ds → DpAll K H (vs ++ [v]) (ds ++ [d])
  | [], _, h => by cases h; exact .cons h2 .nil
  | _ :: ds, _, h => by
    cases h with
    | cons a b => exact .cons a (dpA_app h2 b)
theorem dpA_ints {K : Fr0} {H : Hp} : ∀ ns : List Int, DpAll K H (ns.map V.int) (ns.map PyData.int)
  | [] => .nil
  | n :: ns => .cons (.int n) (dpA_ints ns)
abbrev pr (a b : Int) : PyData := .tuple [.int a, .int b]
theorem dp_pr {K : Fr0} {H : Hp} {p : Addr} {a b : Int} (h : SqT K H p [.int a, .int b]) : Dp K H (.ref p) (pr a b) := .tup h (.cons (.int a) (.cons (.int b) .nil))

/-! ### readings, step by step -/
section
variable {K : Fr0} {σ σ' : L2.St} {H : Hp} {D : Ends} {t u : TS} {te ta tb tc : TE} {tt uu : TT} {Q : VK} {QT : Bool → Hp → Prop} {QA : List V → Hp → Prop} {v x y : V} {i j : Int} {n : Nat} {r r' : R2} {tr : TA}
theorem r_seq (h : t ⟨fun σ' H' => u D σ' H', D.rt, D.bk, D.ct⟩ σ H) : tSeq t u D σ H := h
theorem r_next (h : D.nx σ H) : tNext D σ H := h
theorem r_brk (h : D.bk σ H) : tBreak D σ H := h
theorem r_cont (h : D.ct σ H) : tCont D σ H := h
theorem r_ret (h : te σ H D.rt) : tRet te D σ H := h
theorem r_retN (h : D.rt .non H) : tRetN D σ H := h
theorem r_drop (h : te σ H fun _ H1 => D.nx σ H1) : tDrop te D σ H := h
theorem r_asg {g : TG} (h : te σ H fun x H1 => g x σ H1 D.nx) : tAsg te g D σ H := h
theorem r_name {QS : L2.St → Hp → Prop} (h : QS (σ.set n (some v)) H) : gName n v σ H QS := h
theorem r_pairS {P : L2.St → Hp → Prop} {k : Nat} (h : P ((σ.set n (some x)).set k (some y)) H) :
    ∃ v w, [x, y] = [v, w] ∧ P ((σ.set n (some v)).set k (some w)) H := ⟨x, y, rfl, h⟩
theorem r_par {k : Nat} (h : tr σ H fun vs H1 => ∃ v w, vs = [v, w] ∧ D.nx ((σ.set n (some v)).set k (some w)) H1) : tPar n k tr D σ H := h
theorem r_ifS (h : tt σ H fun b H1 => if b = true then t D σ H1 else u D σ H1) : tIfS tt t u D σ H := h
theorem r_var (e : σ[n]? = some (some v)) (h : Q v H) : tVar n σ H Q := ⟨v, e, h⟩
theorem r_c (h : Q v H) : tC v σ H Q := h
theorem r_op (h : ta σ H fun x H1 => tb σ H1 fun y H2 => r x y H2 Q) : tOp r ta tb σ H Q := h
theorem r_un {f : V → Hp → VK → Prop} (h : ta σ H fun x H1 => f x H1 Q) : tUn f ta σ H Q := h
theorem r_i0 {g : Int → Int → V} (h : Q (g i j) H) : rI0 g (.int i) (.int j) H Q := ⟨i, j, rfl, rfl, h⟩
theorem r_i {C : Int → Int → Prop} {g : Int → Int → V} (c : C i j) (h : Q (g i j) H) : rI C g (.int i) (.int j) H Q := ⟨i, j, rfl, rfl, c, h⟩
theorem r_u {g : Int → V} (h : Q (g i) H) : rU g (.int i) H Q := ⟨i, rfl, h⟩
theorem r_test (h : te σ H fun x H' => ∃ k, x = .bl k ∧ QT k H') : tTest te σ H QT := h
theorem r_B (h : te σ H fun x H' => ∃ k, x = .bl k ∧ QT k H') : tB te σ H QT := h
theorem r_bl {b : Bool} (h : QT b H) : ∃ k, V.bl b = .bl k ∧ QT k H := ⟨b, rfl, h⟩
theorem r_not (h : tt σ H fun c H1 => QT (!c) H1) : tNot tt σ H QT := h
theorem r_and (h : tt σ H fun c H1 => if c = true then uu σ H1 QT else QT false H1) : tAnd tt uu σ H QT := h
theorem r_or (h : tt σ H fun c H1 => if c = true then QT true H1 else uu σ H1 QT) : tOr tt uu σ H QT := h
theorem r_andV (h : ta σ H fun x H1 => ∃ c, x = .bl c ∧ if c = true then tb σ H1 Q else Q (.bl false) H1) : tAndV ta tb σ H Q := h
theorem r_orV (h : ta σ H fun x H1 => ∃ c, x = .bl c ∧ if c = true then Q (.bl true) H1 else tb σ H1 Q) : tOrV ta tb σ H Q := h
theorem r_notV (h : ta σ H fun x H1 => ∃ c, x = .bl c ∧ Q (.bl (!c)) H1) : tNotV ta σ H Q := h
theorem r_if (h : tt σ H fun c H1 => if c = true then ta σ H1 Q else tb σ H1 Q) : tIf tt ta tb σ H Q := h
theorem r_chain (h : ta σ H fun x H1 => tb σ H1 fun y H2 => r x y H2 fun z H3 => ∃ k, z = .bl k ∧ (if k = true then tc σ H3 fun w' H4 => r' y w' H4 Q else Q (.bl false) H3)) : tChain r r' ta tb tc σ H Q := h
theorem r_nil (h : QA [] H) : tNil σ H QA := h
theorem r_cons (h : ta σ H fun x H1 => tr σ H1 fun xs H2 => QA (x :: xs) H2) : tCons ta tr σ H QA := h
theorem r_tup (h : tr σ H fun xs H1 => xs.length ≤ sizeLine ∧ ∀ p, H1 p = none → Q (.ref p) (upd H1 p (.tup xs))) : tTup tr σ H Q := h
theorem r_lst (h : tr σ H fun xs H1 => xs.length ≤ sizeLine ∧ ∀ p, H1 p = none → Q (.ref p) (upd H1 p (.lst xs))) : tLst tr σ H Q := h
theorem r_cb {f : List V → Hp → VK → Prop} (h : tr σ H fun vs H1 => f vs H1 Q) : tCB f tr σ H Q := h
theorem r_call {sp : Sp} {dvs : List V} {E : XK} (h : tr σ H fun vs H1 => sp (vs ++ dvs) H1 Q E) : tCall sp dvs E tr σ H Q := h
theorem r_callS {sp : Sp} {E : L2.St → XK} (h : tr σ H fun vs H1 => sp vs H1 Q (E σ)) : tCallS sp E tr σ H Q := h
theorem r_bm {T : String} {f : V → List V → Hp → VK → Prop} (h : te σ H fun x H1 => tyV K T x H1 ∧ tr σ H1 fun xs H2 => f x xs H2 Q) : tBM K T f te tr σ H Q := h
theorem r_bm0 {T : String} {f : V → List V → Hp → VK → Prop} (h : te σ H fun x H1 => tyV K T x H1 ∧ f x [] H1 Q) : tBM0 K T f te σ H Q := h
theorem r_for {wi : TI} {g : TG} {tb : TS} (h : wi σ H fun J H1 => ∃ W : Nat → Nat → L2.St → Hp → Prop, (∃ m, W 0 m σ H1) ∧ ∀ i m σ H, W i m σ H →
  (J.stop i H ∧ D.nx σ H) ∨ (J.go i H ∧ ∃ N : L2.St → Hp → Prop, (∀ σ' H', N σ' H' → ∃ m', m' < m ∧ W (i + 1) m' σ' H') ∧ ∀ x H', J.yld i H x H' → g x σ H' fun σ2 H2 => tb { D with nx := N, ct := N, bk := D.nx } σ2 H2)) : tFor wi g tb D σ H := h
/-- a while, its test monotone -/
theorem r_while {c : TT} {tb : TS} (W : Nat → L2.St → Hp → Prop) (m : Nat) (h0 : W m σ H) (mono : ∀ σ H (q q' : Bool → Hp → Prop), (∀ b H1, q b H1 → q' b H1) → c σ H q → c σ H q')
    (hs : ∀ m σ H, W m σ H → c σ H fun b H1 => if b = true then tb ⟨fun σ' H' => ∃ m', m' < m ∧ W m' σ' H', D.rt, D.nx, fun σ' H' => ∃ m', m' < m ∧ W m' σ' H'⟩ σ H1 else D.nx σ H1) : tWhile c tb D σ H := by
  refine ⟨W, ⟨m, h0⟩, fun m σ H w => mono σ H _ _ (fun b H1 q => ?_) (hs m σ H w)⟩
  cases b with
  | true => exact ⟨_, fun _ _ n => n, q⟩
  | false => exact q
theorem r_slice {f : V → Option Int → Option Int → Hp → VK → Prop} {tl th : TO} (h : te σ H fun x H1 => tl σ H1 fun l H2 => th σ H2 fun u H3 => f x l u H3 Q) : tSl f te tl th σ H Q := h
theorem r_part {QO : Option Int → Hp → Prop} (h : te σ H fun x H1 => ∃ i, x = .int i ∧ QO (some i) H1) : tPart te σ H QO := h
theorem r_nopart {QO : Option Int → Hp → Prop} (h : QO none H) : tNoPart σ H QO := h
theorem r_vei (h : tr σ H fun vs H1 => ∃ (a C : Addr) (ws : List V), vs = .ref a :: ws ∧ ws.length ≤ 1000 ∧ OexC K C ∧ H1 a = some (exo a C none) ∧ Q .non H1) : tVeI K tr σ H Q := h
theorem r_ost {f : Str} (h : tb σ H fun y H1 => ta σ H1 fun x H2 => ∃ a C : Addr, x = .ref a ∧ OexC K C ∧ PySem.W.findIn K (.ref C) f = some none ∧
  ((H2 a = some (exo a C none) ∧ ∀ dx, H2 dx = none → dx ≠ a → D.nx σ (upd (upd H2 dx (exd dx [(f, y)])) a (exo a C (some dx)))) ∨
    ∃ (dx : Addr) (fs : List (Str × V)), H2 a = some (exo a C (some dx)) ∧ H2 dx = some (exd dx fs) ∧ fs.length ≤ 900 ∧ D.nx σ (upd H2 dx (exd dx ((f, y) :: fs))))) : tOst K f ta tb D σ H := h
/-- an item of data -/
theorem r_ixD {d : PyData} {ds : List PyData} (h : Dp K H v (.tuple ds)) (e : atI ds i = some d) (k : ∀ w, Dp K H w d → Q w H) : rIxT K v (.int i) H Q := by
  obtain ⟨a, xs, rfl, h1, h2⟩ := dp_tup h
  obtain ⟨w, e1, e2⟩ := dpA_at h2 e
  exact ⟨a, xs, i, w, rfl, rfl, h1, e1, k w e2⟩
theorem r_ixI {ds : List PyData} (h : Dp K H v (.tuple ds)) (e : atI ds i = some (.int j)) (k : Q (.int j) H) : rIxT K v (.int i) H Q :=
  r_ixD h e fun w hw => by cases hw; exact k
theorem r_fst {a b : Int} (h : Dp K H v (pr a b)) (k : Q (.int a) H) : rIxT K v (.int 0) H Q := r_ixI h rfl k
theorem r_snd {a b : Int} (h : Dp K H v (pr a b)) (k : Q (.int b) H) : rIxT K v (.int 1) H Q := r_ixI h rfl k
theorem r_ixDL {d : PyData} {ds : List PyData} (h : Dp K H v (.list ds)) (e : atI ds i = some d) (k : ∀ w, Dp K H w d → Q w H) : rIxL K v (.int i) H Q := by
  obtain ⟨a, xs, rfl, h1, h2⟩ := dp_lst h
  obtain ⟨w, e1, e2⟩ := dpA_at h2 e
  exact ⟨a, xs, i, w, rfl, rfl, h1, e1, k w e2⟩
theorem r_ixIL {ds : List PyData} (h : Dp K H v (.list ds)) (e : atI ds i = some (.int j)) (k : Q (.int j) H) : rIxL K v (.int i) H Q :=
  r_ixDL h e fun w hw => by cases hw; exact k
theorem r_dec {p : Prop} [Decidable p] {A B : Prop} (h1 : p → A) (h2 : ¬ p → B) : if decide p = true then A else B := by
  by_cases h : p
  · rw [decide_eq_true h]; exact iteT (h1 h)
  · rw [decide_eq_false h]; exact iteF (h2 h)
theorem r_ndec {p : Prop} [Decidable p] {A B : Prop} (h1 : ¬ p → A) (h2 : p → B) : if (!decide p) = true then A else B := by
  by_cases h : p
  · rw [decide_eq_true h]; exact iteF (h2 h)
  · rw [decide_eq_false h]; exact iteT (h1 h)
end
end Ab
/-! PART errors: the program's own errors, made, let out, read. -/
namespace Ab
open PySem PySem.Spec PyProof.Rows L2

/-! ### what the written part says of an error's class -/
def oexB (K : Fr0) (C : Addr) : Bool :=
  (match K.lookup C with
    | some ⟨.type t, _, .cls cd, sl⟩ =>
      (match cd.mro, sl.toList with
        | .ref B :: bm, [_, _, _, _, some (.builtin n), _] => decide (t = "type") && (decide (B = C) && (decide (n = "ValueError.__new__") && (!cd.hasDel && (cd.hasDict && PySem.HandSPX.refsVE bm))))
        | _, _ => false)
    | _ => false) &&
  (He.eqO (PySem.W.findIn K (.ref C) "__setattr__") (some (some (.builtin "object.__setattr__"))) &&
    (decide (PySem.W.subIn K (.ref C) (.type "BaseException") = some true) && (decide (PySem.W.typeIn K (.ref C) = some (.type "type")) && PySem.W.keepIn K (.ref C))))
theorem oexB_ok {K : Fr0} {C : Addr} (h : oexB K C = true) : OexC K C := by
  unfold oexB at h
  obtain ⟨h1, h⟩ := He.ba h
  obtain ⟨h2, h⟩ := He.ba h
  obtain ⟨h3, h⟩ := He.ba h
  obtain ⟨h4, h5⟩ := He.ba h
  refine ⟨?_, He.eqO_ok h2, of_decide_eq_true h3, of_decide_eq_true h4, h5⟩
  split at h1
  · rename_i t dd cd sl lk
    split at h1
    · rename_i B bm k0 k1 k2 k3 n k5 em es
      obtain ⟨a1, h1⟩ := He.ba h1
      obtain ⟨a2, h1⟩ := He.ba h1
      obtain ⟨a3, h1⟩ := He.ba h1
      obtain ⟨a4, h1⟩ := He.ba h1
      obtain ⟨a5, a6⟩ := He.ba h1
      obtain rfl := of_decide_eq_true a1
      obtain rfl := of_decide_eq_true a2
      obtain rfl := of_decide_eq_true a3
      obtain ⟨nm, bs, mro, ns, qn, hd, sn, sub, ab, col, del⟩ := cd
      dsimp only at em a4 a5
      subst em
      obtain rfl : del = false := by simpa using a4
      subst a5
      obtain ⟨sl⟩ := sl
      dsimp only at es
      subst es
      exact ⟨nm, qn, ns, bs, bm, sn, sub, ab, col, dd, k0, k1, k2, k3, k5, lk, a6⟩
    · cases h1
  · cases h1
/-- an error's class x with the fields fs and an __init__ of its own -/
structure ExcF (K : Fr0) (x : Str) (fs : List Str) : Prop where
  o : OexC K (fA K x)
  ini : PySem.W.findIn K (.ref (fA K x)) "__init__" = some (some (.ref (mA K x "__init__")))
  tin : PySem.W.typeIn K (.ref (mA K x "__init__")) = some (.type "function")
  rd : XfC K (fA K x)
  no : ∀ f ∈ fs, PySem.W.findIn K (.ref (fA K x)) f = some none
def excB (x : Str) (fs : List Str) (K : Fr0) : Bool := oexB K (fA K x) && (He.eqO (PySem.W.findIn K (.ref (fA K x)) "__init__") (some (some (.ref (mA K x "__init__")))) &&
  (decide (PySem.W.typeIn K (.ref (mA K x "__init__")) = some (.type "function")) && (xfB K (fA K x) && fs.all fun f => He.eqO (PySem.W.findIn K (.ref (fA K x)) f) (some none))))
theorem excB_ok {K : Fr0} {x : Str} {fs : List Str} (h : excB x fs K = true) : ExcF K x fs := by
  unfold excB at h
  obtain ⟨h1, h⟩ := He.ba h
  obtain ⟨h2, h⟩ := He.ba h
  obtain ⟨h3, h⟩ := He.ba h
  obtain ⟨h4, h5⟩ := He.ba h
  exact ⟨oexB_ok h1, He.eqO_ok h2, of_decide_eq_true h3, xfB_ok h4, fun f hf => He.eqO_ok (List.all_eq_true.mp h5 f hf)⟩
/-- the base of them all, read for its __init__ -/
structure BaseF (K : Fr0) (A : Addr) : Prop where
  rd : PySem.W.readsIn K A (.type "type") = true
  ga : PySem.W.specialIn K (.ref A) "__getattribute__" = some (some (.builtin "type.__getattribute__"))
  fi : PySem.W.findCls K (.ref A) (.type "type") "__init__" = some (.val (.builtin "ValueError.__init__"))
def isVI : Option PySem.W.CFound → Bool
  | some (.val (.builtin n)) => decide (n = "ValueError.__init__")
  | _ => false
def baseB (x : Str) (K : Fr0) : Bool := PySem.W.readsIn K (fA K x) (.type "type") && (He.eqO (PySem.W.specialIn K (.ref (fA K x)) "__getattribute__") (some (some (.builtin "type.__getattribute__"))) &&
  isVI (PySem.W.findCls K (.ref (fA K x)) (.type "type") "__init__"))
theorem baseB_ok {K : Fr0} {x : Str} (h : baseB x K = true) : BaseF K (fA K x) := by
  unfold baseB at h
  obtain ⟨h1, h⟩ := He.ba h
  obtain ⟨h2, h3⟩ := He.ba h
  refine ⟨h1, He.eqO_ok h2, ?_⟩
  unfold isVI at h3
  split at h3
  · rename_i n e
    rw [e, of_decide_eq_true h3]
  · cases h3
/-- a method of a class, as it stands behind the top -/
structure TopM (K : Fr0) (C m q : Str) (st : Stmt) : Prop where
  fn : ∃ fd, FunD K m q (defArgs st) (defBody st) (defScope st) [] [] (mA K C m) fd
structure OkM (P : Program) (w : World) (K : Fr0) (mg : Str → Option Value) (base : Heap) (CX : CXT) (k : Nat) (C m : Str) (ps : List Str) (sp : Sp) : Prop where
  fn : ∃ fd, FnOk P w K mg base CX k (mA K C m) fd ps sp ∧ Binds K fd ps []
section
variable {P : Program} {w : World} {K : Fr0} {mg : Str → Option Value} {base : Heap} {CX : CXT} {C m q : Str} {st : Stmt} {N ps : List Str} {k : Nat} {sp : Sp}
theorem TopM.ok (D : TopM K C m q st) (S : FnScope N ps (defScope st)) (b : BindsAs st m q ps) (len : ∀ vs H Q E, sp vs H Q E → vs.length = ps.length)
    (body : ∀ (cdv : Value) (A : Around) (outer : List Env) (s : Shared) (H : Hp) (vs : List V) (Q : VK) (E : XK), Room k (A.deeper (envOfC q (defScope st) s.heap.objs.size (mA K C m) cdv)) → sp vs H Q E →
      ∃ t, PSs (cxOf CX P w K mg base N q (defScope st) (mA K C m) cdv A outer s H E) (defBody st) t ∧ t { nx := fun _ H' => Q .non H', rt := Q } (start N vs) H) :
    OkM P w K mg base CX (k + 1) C m ps sp := by
  obtain ⟨fd, F⟩ := D.fn
  exact ⟨fd, F.ok S len body, F.bindsN b⟩
end
section
variable {X : Cx} {k : Nat} {CX : CXT} {x y : Str} {ps fs : List Str} {sp : Sp} {p p1 p2 pos : Pos} {e : Expr} {es : List Expr} {ta : TA} {A : Addr}
/-- Base.__init__(self, ..) -/
theorem pe_alb {pl : Sem Bool} (B : BaseF X.K A) (hm : X.mg x = some (.ref A)) (ha : PA X (e :: es) ta) (hg : Gl X x := by rfl) (hdb : (x == ("__debug__" : Str)) = false := by decide)
    (hc : eval (.Call (.Attribute (.Name x p1) "__init__" p2) (e :: es) [] pos) X.env = (do
      let ov ← eval (.Name x p1) X.env
      standAt p2.atName
      let (f, first) ← holding [ov] (getMethod ov "__init__" pl)
      callWith pos f first (backTo pos (starEach (e :: es) X.env)) (backToKw pos (keywordEach [] X.env))) := by rfl)
    (he : starEach (e :: es) X.env = (false, eval e X.env) :: starEach es X.env := by rfl) (hpl : (backTo pos (starEach es X.env)).any (·.1) = false := by rfl) :
    PE X (.Call (.Attribute (.Name x p1) "__init__" p2) (e :: es) [] pos) (tVeI X.K ta) := by
  constructor
  intro pins s σ H Q I h
  refine PySem.W.methodCall_KW (ld_glob I hg hm ?_ hdb) hc
  refine PySem.W.method_cls I.kIn B.ga (PySem.W.cls_value I.kIn B.rd B.fi rfl ?_)
  show wpAny _ _ (callWith pos (Value.builtin "ValueError.__init__") [] (backTo pos (starEach (e :: es) X.env)) []) _ _ _
  refine PyProof.Rows.callWith_method1 (thn (ha.run pos pins _ σ H _ (I.tok _) h) ?_) he hpl
  rintro us s1 ⟨vs, H1, I1, rv, a, C, ws, rfl, hl, T, ea, q⟩
  cases rv with
  | cons ra rw' =>
    cases ra
    have hz := Paired.length rw'
    refine oinit_ok T I1 ea (by rw [sizeLine_eq]; omega) fun s2 J => ⟨.non, H1, J, rfl, q⟩
/-- x(e, ..), an error with an __init__ of its own -/
theorem pmk_x (T : ExcF X.K x fs) (hm : X.mg x = some (.ref (fA X.K x))) (G : OkM X.prog X.w X.K X.mg X.base CX k x "__init__" ps sp) (hr : Room (k + 1) X.A) (hx : Passes CX X E0) (ha : PA X (e :: es) ta) (hg : Gl X x := by rfl)
    (hdb : (x == ("__debug__" : Str)) = false := by decide) (he : starEach (e :: es) X.env = (false, eval e X.env) :: starEach es X.env := by rfl) (hpl : (backTo pos (starEach es X.env)).any (·.1) = false := by rfl) :
    PMk X (.Call (.Name x p) (e :: es) [] pos) (tMkO (fA X.K x) sp [] ta) := by
  obtain ⟨fd, F, b⟩ := G.fn
  exact pmk_oex T.o T.ini T.tin F hr b .nil hx hg hm ha hdb he hpl
end
/-! ### the promise of such an __init__: one field, two -/
def spI1 (K : Fr0) (x f : Str) : Sp := fun vs H Q _ => ∃ (a : Addr) (y : V), vs = [.ref a, y] ∧ H a = some (exo a (fA K x) none) ∧
  ∀ dx, H dx = none → dx ≠ a → Q .non (upd (upd H dx (exd dx [(f, y)])) a (exo a (fA K x) (some dx)))
section
variable {K : Fr0} {x f : Str} {σ : L2.St} {H : Hp} {ta : TA} {W : WX} {D : Ends} {y : V}
/-- the heap behind the making of an error with one field -/
theorem mk1_heap {H H2 : Hp} {a d C : Addr} {y : V} (na : H a = none) (nd : H d = none) (ne : d ≠ a) (e : H2 = upd (upd (upd H a (exo a C none)) d (exd d [(f, y)])) a (exo a C (some d))) :
    Same H (upd (del H2 a) d (.xd [(f, y)])) ∧ (upd (del H2 a) d (.xd [(f, y)])) d = some (.xd [(f, y)]) := by
  subst e
  refine ⟨fun b o hb => ?_, upd_same⟩
  have hba := ne_of_none hb na
  have hbd := ne_of_none hb nd
  rw [upd_ne hbd, del_ne hba, upd_ne hba, upd_ne hbd, upd_ne hba]
  exact hb
theorem r_mk1 {C : Addr} (hC : C = fA K x) {Q : XK} {vs : List V} (h1 : vs = [y]) (h : ∀ d H', H d = none → Same H H' → H' d = some (.xd [(f, y)]) → Q (.ref C) (some d) H') :
    vs.length ≤ 1000 ∧ ∀ a, H a = none → spI1 K x f (.ref a :: (vs ++ [])) (upd H a (exo a C none))
      (fun v H2 => v = .non ∧ ∃ (d : Addr) (fs : List (Str × V)), H2 a = some (exo a C (some d)) ∧ H2 d = some (exd d fs) ∧ H d = none ∧ Q (.ref C) (some d) (upd (del H2 a) d (.xd fs))) (fun _ _ _ => False) := by
  subst h1 hC
  refine ⟨by show 1 ≤ 1000; decide, fun a na => ⟨a, y, rfl, upd_same, fun dx nd ne => ⟨rfl, dx, [(f, y)], upd_same, ?_, ?_, ?_⟩⟩⟩
  · rw [upd_ne ne, upd_same]
  · rw [upd_ne ne] at nd
    exact nd
  · rw [upd_ne ne] at nd
    obtain ⟨s, e⟩ := mk1_heap (C := fA K x) (f := f) (y := y) na nd ne rfl
    exact h dx _ nd s e
end
/-- a field of the error that was caught -/
theorem r_xf {C a dd : Addr} {te : TE} {Q : VK} {f : Str} {σ : L2.St} {H : Hp} (h : te σ H fun x H1 => x = .ref a ∧ ∃ (fs : List (Str × V)) (v : V), H1 dd = some (.xd fs) ∧ fs.lookup f = some v ∧ Q v H1) : tXf a (.ref C) (some dd) C f te σ H Q := by
  have e : (fun (x : V) (H1 : Hp) => x = V.ref a ∧ Value.ref C = Value.ref C ∧ ∃ (d : Addr) (fs : List (Str × V)) (v : V), some dd = some d ∧ H1 d = some (.xd fs) ∧ fs.lookup f = some v ∧ Q v H1) =
      fun (x : V) (H1 : Hp) => x = .ref a ∧ ∃ (fs : List (Str × V)) (v : V), H1 dd = some (.xd fs) ∧ fs.lookup f = some v ∧ Q v H1 := by
    funext x H1
    refine propext ⟨fun ⟨h1, _, d, fs, v, h2, h3⟩ => ?_, fun ⟨h1, fs, v, h3⟩ => ⟨h1, rfl, dd, fs, v, rfl, h3⟩⟩
    injection h2 with h2
    subst h2
    exact ⟨h1, fs, v, h3⟩
  show te σ H (fun (x : V) (H1 : Hp) => x = V.ref a ∧ Value.ref C = Value.ref C ∧ ∃ (d : Addr) (fs : List (Str × V)) (v : V), some dd = some d ∧ H1 d = some (.xd fs) ∧ fs.lookup f = some v ∧ Q v H1)
  rw [e]
  exact h
theorem look1 {f : Str} {v : V} {r : List (Str × V)} : ((f, v) :: r).lookup f = some v := by simp [List.lookup]
/-! ### constants of the top -/
theorem pe_gi {X : Cx} {x : Str} {i : Int} {pos : Pos} (h : ∃ t, X.mg x = some (.int i t)) (hg : Gl X x := by rfl) (hd : (x == ("__debug__" : Str)) = false := by decide) : PE X (.Name x pos) (tC (.int i)) := by
  obtain ⟨t, e⟩ := h
  exact pe_glob hg e ⟨t, rfl⟩ hd
theorem pe_gr {X : Cx} {x : Str} {a : Addr} {pos : Pos} (h : X.mg x = some (.ref a)) (hg : Gl X x := by rfl) (hd : (x == ("__debug__" : Str)) = false := by decide) : PE X (.Name x pos) (tC (.ref a)) := pe_glob hg h rfl hd
theorem pe_gs {X : Cx} {x z : Str} {pos : Pos} (h : ∃ t, X.mg x = some (.str z t)) (hg : Gl X x := by rfl) (hd : (x == ("__debug__" : Str)) = false := by decide) : PE X (.Name x pos) (tC (.str z)) := by
  obtain ⟨t, e⟩ := h
  exact pe_glob hg e ⟨t, rfl⟩ hd
end Ab
/-! PART values: any value handed in, what is raised of it; lists that are changed. -/
namespace Ab
open PySem PySem.Spec PyProof.Rows L2
/-- any value that a law hands in: its type's name -/
inductive AnyV (K : Fr0) (H : Hp) : V → String → Prop
  | int (i : Int) : AnyV K H (.int i) "int"
  | bl (b : Bool) : AnyV K H (.bl b) "bool"
  | non : AnyV K H .non "NoneType"
  | str (x : Str) : AnyV K H (.str x) "str"
  | tup {a : Addr} (h : TyX K H (.ref a) (.type "tuple")) : AnyV K H (.ref a) "tuple"
  | lst {a : Addr} (h : TyX K H (.ref a) (.type "list")) : AnyV K H (.ref a) "list"
  | dct {a : Addr} (h : TyX K H (.ref a) (.type "dict")) : AnyV K H (.ref a) "dict"
def isI : V → Bool
  | .int _ => true
  | _ => false
theorem AnyV.tyx {K : Fr0} {H : Hp} {v : V} {t : String} (h : AnyV K H v t) : TyX K H v (.type t) := by
  cases h with
  | int i => exact .base (.int i)
  | bl b => exact .base (.bl b)
  | non => exact .base .non
  | str x => exact .base (.str x)
  | tup h => exact h
  | lst h => exact h
  | dct h => exact h
theorem isi_ty {K : Fr0} {H : Hp} {v : V} {t T : String} {b : Bool} {Q : VK} (h : AnyV K H v t) (e : kitB t T = some b) (q : Q (.bl b) H) : rIsi K [v, .ty T] H Q :=
  ⟨v, .ty T, .type t, .type T, b, rfl, .ty T, h.tyx, kit_ty e, q⟩
/-- an int from lo to hi -/
def isIn (lo hi : Int) : V → Bool
  | .int i => decide (lo ≤ i) && decide (i ≤ hi)
  | _ => false
theorem AnyV.same {K : Fr0} {H H' : Hp} {v : V} {t : String} (s : Same H H') (h : AnyV K H v t) : AnyV K H' v t := by
  have key : ∀ {a : Addr} {u : Value}, (u = .type "tuple" ∨ u = .type "list" ∨ u = .type "dict") → TyX K H (.ref a) u → TyX K H' (.ref a) u := by
    intro a u hu h
    cases h with
    | base h =>
      cases h with
      | lst e => exact .base (.lst (s _ _ e))
      | frz e => exact .base (.frz (s _ _ e))
      | tup e => exact .base (.tup (s _ _ e))
      | dK e => exact .base (.dK (s _ _ e))
      | dT e => exact .base (.dT (s _ _ e))
      | ins e cl => rcases hu with hu | hu | hu <;> cases hu
    | set e => exact .set (s _ _ e)
    | kList e c => exact .kList e c
    | kTuple e c => exact .kTuple e c
    | kDict e c => exact .kDict e c
    | fTuple e => exact .fTuple (s _ _ e)
    | fDict e => exact .fDict (s _ _ e)
  cases h with
  | int i => exact .int i
  | bl b => exact .bl b
  | non => exact .non
  | str x => exact .str x
  | tup h => exact .tup (key (.inl rfl) h)
  | lst h => exact .lst (key (.inr (.inl rfl)) h)
  | dct h => exact .dct (key (.inr (.inr rfl)) h)
/-- an error of the class x is let out, its field f holds y -/
def Raised (K : Fr0) (x f : Str) (y : V) (H : Hp) (E : XK) : Prop := ∀ d H', H d = none → Same H H' → H' d = some (.xd [(f, y)]) → E (.ref (fA K x)) (some d) H'
theorem Raised.same {K : Fr0} {x f : Str} {y : V} {H H1 : Hp} {E : XK} (s : Same H H1) (h : Raised K x f y H E) : Raised K x f y H1 E := fun d H' n s' e => h d H' (s.free n) (s.trans s') e
/-- the heap without the list at r -/
def cut (H : Hp) (r : Addr) : Hp := fun b => if b = r then none else H b
theorem cut_at {H : Hp} {r : Addr} : cut H r r = none := if_pos rfl
theorem cut_ne {H : Hp} {r b : Addr} (h : b ≠ r) : cut H r b = H b := if_neg h
theorem cut_same {H : Hp} {r : Addr} : Same (cut H r) H := fun b o e => by
  by_cases h : b = r
  · rw [h, cut_at] at e; cases e
  · rwa [cut_ne h] at e
theorem cut_chg {H : Hp} {r : Addr} {l : List V} (h : H r = some (.lst l)) : Chg r H (cut H r) := ⟨⟨l, h⟩, fun b o n e => by rw [cut_ne n]; exact e⟩
theorem cut_of {G H : Hp} {r : Addr} (s : Same G H) (n : G r = none) : Same G (cut H r) := fun b o e => by
  rw [cut_ne (ne_of_none e n)]
  exact s b o e
theorem same_put {G H : Hp} {r : Addr} {o : HO} (s : Same G H) (n : G r = none) : Same G (upd H r o) := fun b u e => by
  rw [upd_ne (ne_of_none e n)]
  exact s b u e
/-! ### ways joined, loops, lists grown -/
section
variable {K : Fr0} {σ : L2.St} {H : Hp} {D : Ends} {t : TS} {te : TE} {ta : TA} {Q : VK} {R : It → Hp → Prop}
theorem r_via (P : V → Hp → Prop) (h : ∀ Q' : VK, (∀ v H', P v H' → Q' v H') → te σ H Q') (J : ∀ v H', P v H' → Q v H') : te σ H Q := h Q J
theorem r_viaT {tt : TT} {QT : Bool → Hp → Prop} (P : Bool → Hp → Prop) (h : ∀ Q' : Bool → Hp → Prop, (∀ v H', P v H' → Q' v H') → tt σ H Q') (J : ∀ v H', P v H' → QT v H') : tt σ H QT := h QT J
theorem r_viaS (P : L2.St → Hp → Prop) (h : ∀ nx : L2.St → Hp → Prop, (∀ σ' H', P σ' H' → nx σ' H') → t ⟨nx, D.rt, D.bk, D.ct⟩ σ H) (J : ∀ σ' H', P σ' H' → D.nx σ' H') : t D σ H := h D.nx J
theorem r_rng1 (h : ta σ H fun vs H1 => ∃ j : Int, vs = [.int j] ∧ -(2 ^ 62) ≤ j ∧ j < 2 ^ 62 ∧ R (Itr 0 j.toNat) H1) : iRng1 ta σ H R := h
theorem r_rng2 (h : ta σ H fun vs H1 => ∃ i j : Int, vs = [.int i, .int j] ∧ (-(2 ^ 62) ≤ i ∧ i < 2 ^ 62 ∧ -(2 ^ 62) ≤ j ∧ j < 2 ^ 62) ∧ R (Itr i (j - i).toNat) H1) : iRng2 ta σ H R := h
theorem r_rng3 (h : ta σ H fun vs H1 => ∃ (i j c : Int) (n : Nat), vs = [.int i, .int j, .int c] ∧ RgC i j c n ∧ R (Itc i c n) H1) : iRng3 ta σ H R := h
theorem r_iList {tl : TE} (h : tl σ H fun x H1 => ∃ a, x = .ref a ∧ (∃ xs, SqL K H1 a xs) ∧ R (Itl K a) H1) : iList K tl σ H R := h
theorem r_iTup {tl : TE} (h : tl σ H fun x H1 => ∃ a, x = .ref a ∧ (∃ xs, SqT K H1 a xs) ∧ R (Itt K a) H1) : iTup K tl σ H R := h
theorem r_append {l : Addr} {xs : List V} {y : V} (h : H l = some (.lst xs)) (hz : xs.length < 100000) (q : Q .non (upd H l (.lst (xs ++ [y])))) : rAppend (.ref l) [y] H Q :=
  ⟨l, xs, y, rfl, rfl, h, Nat.lt_of_lt_of_le hz (by decide), q⟩
theorem ty_lst {l : Addr} {xs : List V} (h : H l = some (.lst xs)) : tyV K "list" (.ref l) H := .inl ⟨rfl, _, SqL.of h⟩
theorem r_max2 {a : Addr} {i j : Int} (h : H a = some (.lst [.int i, .int j])) (q : Q (.int (max i j)) H) : rMax K [.ref a] H Q := by
  refine ⟨a, [i, j], rfl, SqL.of h, (by show 0 < 2; decide), fun m hm hl => ?_⟩
  have h1 := hl i (by simp)
  have h2 := hl j (by simp)
  have e : m = max i j := by
    rcases List.mem_cons.mp hm with e | hm
    · omega
    · rcases List.mem_cons.mp hm with e | hm
      · omega
      · cases hm
  rw [e]
  exact q
theorem r_min2 {a : Addr} {i j : Int} (h : H a = some (.lst [.int i, .int j])) (q : Q (.int (min i j)) H) : rMin K [.ref a] H Q := by
  refine ⟨a, [i, j], rfl, SqL.of h, (by show 0 < 2; decide), fun m hm hl => ?_⟩
  have h1 := hl i (by simp)
  have h2 := hl j (by simp)
  have e : m = min i j := by
    rcases List.mem_cons.mp hm with e | hm
    · omega
    · rcases List.mem_cons.mp hm with e | hm
      · omega
      · cases hm
  rw [e]
  exact q
end
theorem small_sz {n : Nat} (h : n ≤ 100000) : n ≤ sizeLine := Nat.le_trans h (by decide)
def nolA (ds : List PyData) : Bool := nol (.tuple ds)
theorem dpA_chg {K : Fr0} {H H' : Hp} {r : Addr} (c : Chg r H H') : ∀ {ds : List PyData} {vs : List V}, nolA ds = true → DpAll K H vs ds → DpAll K H' vs ds
  | [], _, _, h => by cases h; exact .nil
  | d :: ds, _, hn, h => by
    cases h with
    | cons h1 h2 =>
      unfold nolA at hn
      rw [nol, Bool.and_eq_true] at hn
      exact .cons (dp_chg c hn.1 h1) (dpA_chg c (show nolA ds = true from hn.2) h2)
theorem nolA_app {ds : List PyData} {d : PyData} (h : nolA ds = true) (hd : nol d = true) : nolA (ds ++ [d]) = true := by
  induction ds with
  | nil => unfold nolA; rw [List.nil_append, nol, hd, Bool.true_and, nol]
  | cons a ds ih =>
    unfold nolA at h ⊢
    rw [nol, Bool.and_eq_true] at h
    rw [List.cons_append, nol, h.1, Bool.true_and]
    exact ih h.2
theorem nolA_map {α : Type} (f : α → PyData) (h : ∀ a, nol (f a) = true) : ∀ l : List α, nolA (l.map f) = true
  | [] => by unfold nolA; rw [List.map_nil, nol]
  | a :: l => by
    unfold nolA
    rw [List.map_cons, nol, h a, Bool.true_and]
    exact nolA_map f h l
theorem isIn_nat {lo hi : Int} {n : Nat} (h1 : lo ≤ (n : Int)) (h2 : (n : Int) ≤ hi) : isIn lo hi (.int n) = true := by unfold isIn; simp [h1, h2]
end Ab
/-! PART draws: the law's row, what a draw leaves. -/
namespace Ab
open PySem PySem.Spec PyProof.Rows L2
section
variable {K : Fr0} {σ : L2.St} {H : Hp} {Q : VK} {v : V} {p : Addr} {xs : List V} {i : Int} {j : Nat}
theorem r_ixA (h : H p = some (.lst xs)) (e : atI xs i = some v) (q : Q v H) : rIxL K (.ref p) (.int i) H Q := ⟨p, xs, i, v, rfl, rfl, SqL.of h, e, q⟩
theorem r_ixS (h : SqL K H p xs) (e : atI xs i = some v) (q : Q v H) : rIxL K (.ref p) (.int i) H Q := ⟨p, xs, i, v, rfl, rfl, h, e, q⟩
theorem r_gsub {to ti : TE} {t : TSet} {QS : L2.St → Hp → Prop} (h : to σ H fun o H1 => ti σ H1 fun i H2 => t o i v H2 fun H3 => QS σ H3) : gSub to ti t v σ H QS := h
theorem r_setL {QH : Hp → Prop} (h : H p = some (.lst xs)) (e : ixN xs.length i = some j) (q : QH (upd H p (.lst (xs.set j v)))) : rSetL (.ref p) (.int i) v H QH := ⟨p, xs, i, j, rfl, rfl, h, e, q⟩
theorem r_setA {QH : Hp → Prop} (ys : List V) (h : H p = some (.lst xs)) (e : ixN xs.length i = some j) (e2 : xs.set j v = ys) (q : ∀ H', H' p = some (.lst ys) → Chg p H H' → QH H') : rSetL (.ref p) (.int i) v H QH :=
  ⟨p, xs, i, j, rfl, rfl, h, e, by rw [e2]; exact q _ upd_same (Chg.upd h)⟩
theorem r_lenS (h : SqL K H p xs) (q : Q (.int xs.length) H) : (fun (xs : List V) (H : Hp) (Q : VK) => ∃ p ys, xs = [.ref p] ∧ (SqL K H p ys ∨ SqT K H p ys) ∧ Q (.int ys.length) H) [.ref p] H Q := ⟨p, xs, rfl, .inl h, q⟩
end
/-- the script's list at s is not the row at r, or stands in the written part -/
def Off (K : Fr0) (s r : Addr) (xs : List V) : Prop := s ≠ r ∨ ∀ H, SqL K H s xs
theorem sql_off {K : Fr0} {H H' : Hp} {r s : Addr} {xs : List V} (c : Chg r H H') (n : Off K s r xs) (h : SqL K H s xs) : SqL K H' s xs := by
  rcases n with n | n
  · exact sql_chg c n h
  · exact n H'
theorem Off.of {K : Fr0} {H : Hp} {r s : Addr} {xs : List V} (n : H r = none) (h : SqL K H s xs) : Off K s r xs := by
  rcases h with (h | ⟨o, h⟩) | h
  · exact .inl (fun z => by rw [z, n] at h; cases h)
  · exact .inl (fun z => by rw [z, n] at h; cases h)
  · exact .inr fun H => .inr h
/-- the row at r: the script, how many cells were taken, the mixed number, the rest of a great cell -/
def RowAt (K : Fr0) (H : Hp) (r : Addr) : Prop := ∃ (s : Addr) (ns : List Int) (p : Nat) (m c : Int), H r = some (.lst [.ref s, .int p, .int m, .int c]) ∧ SqL K H s (ns.map V.int) ∧ Off K s r (ns.map V.int)
theorem RowAt.same {K : Fr0} {H H' : Hp} {r : Addr} (s : Same H H') (h : RowAt K H r) : RowAt K H' r := by
  obtain ⟨a, ns, p, m, c, h1, h2, h3⟩ := h
  exact ⟨a, ns, p, m, c, s _ _ h1, sql_same s h2, h3⟩
theorem RowAt.lst {K : Fr0} {H : Hp} {r : Addr} (h : RowAt K H r) : ∃ l, H r = some (.lst l) := by
  obtain ⟨a, ns, p, m, c, h1, h2, h3⟩ := h
  exact ⟨_, h1⟩
/-- the row changed and nothing else -/
theorem RowAt.put {K : Fr0} {H : Hp} {r s : Addr} {ns : List Int} {l : List V} (p : Nat) (m c : Int) (h1 : H r = some (.lst l)) (h2 : SqL K H s (ns.map V.int)) (h3 : Off K s r (ns.map V.int)) : RowAt K (upd H r (.lst [.ref s, .int p, .int m, .int c])) r :=
  ⟨s, ns, p, m, c, upd_same, sql_off (Chg.upd h1) h3 h2, h3⟩
theorem RowAt.mk' {K : Fr0} {H H' : Hp} {r s : Addr} {ns : List Int} {p : Nat} {m c : Int} (h1 : H' r = some (.lst [.ref s, .int p, .int m, .int c])) (g : Chg r H H') (h2 : SqL K H s (ns.map V.int)) (h3 : Off K s r (ns.map V.int)) : RowAt K H' r :=
  ⟨s, ns, p, m, c, h1, sql_off g h3 h2, h3⟩
theorem Chg.refl' {H : Hp} {r : Addr} {l : List V} (h : H r = some (.lst l)) : Chg r H H := ⟨⟨l, h⟩, fun _ _ _ e => e⟩
theorem Chg.tr {r : Addr} {H H1 H2 : Hp} (a : Chg r H H1) (b : Chg r H1 H2) : Chg r H H2 := ⟨a.was, fun c o n e => b.kp c o n (a.kp c o n e)⟩
theorem Chg.same {r : Addr} {H H1 H2 : Hp} (a : Chg r H H1) (b : Same H1 H2) : Chg r H H2 := ⟨a.was, fun c o n e => b c o (a.kp c o n e)⟩
theorem Same.chg {r : Addr} {H H1 H2 : Hp} {l : List V} (a : Same H H1) (h : H r = some (.lst l)) (b : Chg r H1 H2) : Chg r H H2 := ⟨⟨l, h⟩, fun c o n e => b.kp c o n (a c o e)⟩
/-- a draw -/
def spTaken (K : Fr0) : Sp := fun vs H Q _ => ∃ (r : Addr) (m : Nat), vs = [.ref r, .int m] ∧ RowAt K H r ∧ 0 < m ∧ m < 1073741824 ∧
  ∀ (d : Nat) (H' : Hp), d < m → Chg r H H' → RowAt K H' r → Q (.int d) H'
theorem c_taken {K : Fr0} {H : Hp} {r : Addr} {m : Nat} {Q : VK} {E : XK} (h : RowAt K H r) (h0 : 0 < m) (h1 : m < 1073741824) (k : ∀ (d : Nat) (H' : Hp), d < m → Chg r H H' → RowAt K H' r → Q (.int d) H') :
    spTaken K ([.ref r, .int m] ++ []) H Q E := ⟨r, m, rfl, h, h0, h1, k⟩
/-- a new row -/
theorem RowAt.new {K : Fr0} {H : Hp} {r s : Addr} {ns : List Int} {z : Int} (n : H r = none) (h : SqL K H s (ns.map V.int)) : RowAt K (upd H r (.lst [.ref s, .int 0, .int z, .int 0])) r :=
  ⟨s, ns, 0, z, 0, upd_same, sql_same (same_new n) h, .of n h⟩
/-- the law itself: handed the script's list, it answers True -/
def spLaw (K : Fr0) : Sp := fun vs H Q _ => ∃ (a : Addr) (ns : List Int), vs = [.ref a] ∧ SqL K H a (ns.map V.int) ∧ ns.length ≤ 63 ∧ ∀ H', Q (.bl true) H'
theorem r_eqD {K : Fr0} {H : Hp} {x y : V} {d : PyData} {Q : VK} (h1 : Dp K H x d) (h2 : Dp K H y d) (s : SeqAt.shaped d = true) (q : Q (.bl true) H) : rEqD K x y H Q :=
  ⟨d, d, h1, h2, s, s, by rw [SeqAt.eqv_refl d (SeqAt.canLay_of_shaped s)]; exact q⟩
theorem r_neD {K : Fr0} {H : Hp} {x y : V} {d : PyData} {Q : VK} (h1 : Dp K H x d) (h2 : Dp K H y d) (s : SeqAt.shaped d = true) (q : Q (.bl false) H) : rNeD K x y H Q :=
  ⟨d, d, h1, h2, s, s, by rw [SeqAt.eqv_refl d (SeqAt.canLay_of_shaped s)]; exact q⟩
theorem sh_pr {a b : Int} : SeqAt.shaped (pr a b) = true := rfl
/-- a value of a law's own list: a number, a text, a truth value, None -/
inductive Leaf : PyData → V → String → Prop
  | int (i : Int) : Leaf (.int i) (.int i) "int"
  | bl (b : Bool) : Leaf (.bool b) (.bl b) "bool"
  | non : Leaf .none .non "NoneType"
  | str (x : Str) : Leaf (.str x) (.str x) "str"
theorem Leaf.any {K : Fr0} {H : Hp} {d : PyData} {v : V} {t : String} (h : Leaf d v t) : AnyV K H v t := by
  cases h
  · exact .int _
  · exact .bl _
  · exact .non
  · exact .str _
theorem Leaf.dp {K : Fr0} {H : Hp} {d : PyData} {v : V} {t : String} (h : Leaf d v t) : Dp K H v d := by
  cases h
  · exact .int _
  · exact .bl _
  · exact .non
  · exact .str _
theorem atI_last {α : Type} {xs : List α} {v : α} {n : Nat} (h : xs[n]? = some v) (len : xs.length = n + 1) : atI xs (-1) = some v := by
  have e : ixN (n + 1) (-1) = some n := by
    unfold ixN
    rw [if_neg (by decide), if_pos (by omega)]
    congr 1
    omega
  unfold atI
  rw [len, e]
  exact h
/-- a draw while a new list waits at b -/
theorem c_pick {K : Fr0} {H : Hp} {r b : Addr} {xs : List V} (m : Nat) {Q : VK} {E : XK} (h : RowAt K H r) (nb : H b = none) (h0 : 0 < m) (h1 : m < 1073741824)
    (k : ∀ (d : Nat) (H' : Hp), d < m → Chg r H H' → RowAt K H' r → H' b = some (.lst xs) → Q (.int d) H') : spTaken K ([.ref r, .int m] ++ []) (upd H b (.lst xs)) Q E := by
  refine c_taken (h.same (same_new nb)) h0 h1 fun d H' hd c h' => ?_
  obtain ⟨l, hl⟩ := h.lst
  refine k d H' hd (Same.chg (same_new nb) hl c) h' (c.kp _ _ (fun z => ?_) upd_same)
  rw [z, hl] at nb
  cases nb
theorem nat_two {d : Nat} (h : d < 2) : d = 0 ∨ d = 1 := by omega
theorem nat_three {d : Nat} (h : d < 3) : d = 0 ∨ d = 1 ∨ d = 2 := by omega
theorem nat_five {d : Nat} (h : d < 5) : d = 0 ∨ d = 1 ∨ d = 2 ∨ d = 3 ∨ d = 4 := by omega
theorem nat_six {d : Nat} (h : d < 6) : d = 0 ∨ d = 1 ∨ d = 2 ∨ d = 3 ∨ d = 4 ∨ d = 5 := by omega
end Ab
/-! PART tables: a table that is written with one pair, its key a tuple. -/
namespace Ab
open PySem PySem.Spec PyProof.Rows L2
def tDispT (trs : List (TE × TE)) : TE := fun σ H Q => ∀ p, H p = none → tPairs trs σ (upd H p (.dT [])) fun ps H2 => ∃ b k y, ps = [(.ref b, y)] ∧ H2 b = some (.tup (k.map kV)) ∧ H2 p = some (.dT []) ∧ Q (.ref p) (upd H2 p (.dT [(k, y)]))
theorem pe_dispT {X : Cx} {pos : Pos} {keys : List (Option Expr)} {values : List Expr} {trs : List (TE × TE)} (hu : X.A.units + 1 < cLine) (h : PPs X pos keys values trs) (hall : keys.all (·.isSome) = true) (hl : keys.length = values.length) (h0 : keys ≠ [])
    (h15 : keys.length ≤ 15) : PE X (.Dict keys values pos) (tDispT trs) := by
  refine ⟨fun pins s σ H Q I q => ?_⟩
  have hn := I.hok.fresh (Nat.le_refl s.heap.objs.size)
  have I1 := I.laid (a := s.heap.objs.size) (o := .dT []) (h' := s.heap.push { cls := .type "dict", data := .dict #[] }) (t' := s.toks) (fun _ _ q => Heap.get?_push_of_some _ q) (Nat.le_refl _) (dt_empty s.heap I.big)
  have hz := pairTrees_length keys values X.env pos hall hl
  rw [arm_eval_Dict, zip_pairTrees keys values X.env pos hall hl, dictDisplay_pairs (pairTrees keys values X.env pos) (by intro e; rw [e] at hz; exact h0 (List.length_eq_zero_iff.mp hz.symm)) (by omega)]
  refine wpAny_bind (wpAny_standAt (wpAny_bind (wpAny_subDictH (knd := tupleKind (mixKind X.prog X.w)) (Nat.lt_of_succ_lt hu) (by omega) ?_)))
  refine thn (h.run pins _ σ _ _ I1 (q _ hn)) fun ws s2 ⟨ps, H2, I2, rel, b, k, y, ep, eb, e, q2⟩ => ?_
  subst ep
  cases rel with
  | @cons p0 w0 _ _ h1 t =>
    cases t
    obtain ⟨w1, w2⟩ := w0
    obtain ⟨h1, h2⟩ := h1
    cases (show w1 = Value.ref b from h1)
    obtain ⟨z, hd, xs0, r0, dd⟩ := dt_of I2.hok e
    cases r0
    refine ⟨[(k, b, w2)], ⟨rfl, rfl, key_of I2.hok eb, True.intro⟩, dd, fun h' tk dd' hs => wpAny_pure ⟨.ref s.heap.objs.size, _, ?_, rfl, q2⟩⟩
    obtain ⟨qo, es, ep, hq, g2, g3, g4, _, g5⟩ := dd'
    have nb : b ≠ s.heap.objs.size := fun zz => by
      subst zz
      rw [eb] at e
      cases e
    refine d_write I2 (by rw [e]; exact True.intro) hs ⟨qo, hq⟩ ⟨(by show 1 ≤ sizeLine; decide), hd, [(k, b, w2)], ?_, qo, es, ep, hq, g2, g3, g4, g5⟩
    refine .cons ⟨rfl, ?_, h2⟩ .nil
    rw [upd_ne nb]
    exact eb
section
variable {K : Fr0} {σ : L2.St} {H : Hp} {D : Ends} {t : TS} {te : TE} {ta : TA} {Q : VK}
theorem r_dispT {trs : List (TE × TE)} (h : ∀ p, H p = none → tPairs trs σ (upd H p (.dT [])) fun ps H2 => ∃ b k y, ps = [(.ref b, y)] ∧ H2 b = some (.tup (k.map kV)) ∧ H2 p = some (.dT []) ∧ Q (.ref p) (upd H2 p (.dT [(k, y)]))) : tDispT trs σ H Q := h
theorem r_prs {tk tv : TE} {r : List (TE × TE)} {QP : List (V × V) → Hp → Prop} (h : tk σ H fun x H1 => tv σ H1 fun y H2 => tPairs r σ H2 fun ps H3 => QP ((x, y) :: ps) H3) : tPairs ((tk, tv) :: r) σ H QP := h
theorem r_prs0 {QP : List (V × V) → Hp → Prop} (h : QP [] H) : tPairs [] σ H QP := h
theorem r_dput {td ty tv : TE} (h : tv σ H fun v H1 => td σ H1 fun x H2 => ty σ H2 fun y H3 => ∃ a H4, x = .ref a ∧ DPut H3 a y v H4 ∧ D.nx σ H4) : sDPut td ty tv D σ H := h
theorem r_dget {td ty : TE} (h : td σ H fun x H1 => ty σ H1 fun y H2 => ∃ a v, x = .ref a ∧ DGet H2 a y (some v) ∧ Q v H2) : tDGet td ty σ H Q := h
end
theorem dg_at {H : Hp} {p b : Addr} {kvs : List (List Key × V)} {x y : Int} {v : V} (hp : H p = some (.dT kvs)) (hb : H b = some (.tup [.int x, .int y])) (hv : valV kvs [.inl x, .inl y] = some v) :
    DGet H p (.ref b) (some v) := hv ▸ DGet.t (k := [.inl x, .inl y]) hp hb
theorem dput_at {H : Hp} {p b : Addr} {kvs : List (List Key × V)} {x y : Int} {v : V} (hp : H p = some (.dT kvs)) (hb : H b = some (.tup [.int x, .int y])) (hl : kvs.length < 100000) :
    DPut H p (.ref b) v (upd H p (.dT (putK kvs [.inl x, .inl y] v))) := DPut.t (k := [.inl x, .inl y]) hp hb (Nat.lt_of_lt_of_le hl (by decide))
theorem sqt_cutT {K : Fr0} {H : Hp} {p a : Addr} {kvs : List (List Key × V)} {xs : List V} (hp : H p = some (.dT kvs)) (h : SqT K H a xs) : SqT K (cut H p) a xs := by
  have key : ∀ {o : HO}, H a = some o → (∀ l, o ≠ .dT l) → cut H p a = some o := fun {o} e n => by
    rw [cut_ne]
    · exact e
    · intro z
      subst z
      rw [hp] at e
      exact n _ (Option.some.inj e).symm
  rcases h with (h | ⟨o, h⟩) | h
  · exact .inl (.inl (key h fun _ z => nomatch z))
  · exact .inl (.inr ⟨o, key h fun _ z => nomatch z⟩)
  · exact .inr h
theorem dp_cutT {K : Fr0} {H : Hp} {p : Addr} {kvs : List (List Key × V)} {v : V} {a b : Int} (hp : H p = some (.dT kvs)) (h : Dp K H v (pr a b)) : Dp K (cut H p) v (pr a b) := by
  obtain ⟨q, xs, rfl, h1, h2⟩ := dp_tup h
  refine .tup (sqt_cutT hp h1) ?_
  cases h2 with
  | cons a h2 =>
    cases a
    cases h2 with
    | cons a h2 =>
      cases a
      cases h2
      exact .cons (.int _) (.cons (.int _) .nil)
end Ab
/-! PART clauses: several clauses of a try, each with a name for the error. -/
namespace Ab
open PySem PySem.Spec PyProof.Rows L2
abbrev ClauseT := Value × Nat × (Addr → Value → Option Addr → TS)
/-- the wish at the first clause, behind it at the next ones -/
def wAll (K : Fr0) (Wo : WX) (D : Ends) : List ClauseT → WX
  | [] => Wo
  | (c, i, ts) :: r => wAs K c i ts (wAll K Wo D r) D
inductive HdsA (X : Cx) : List ExceptHandler → List ClauseT → Prop
  | nil : HdsA X [] []
  | cons {x n : Str} {c : Value} {i : Nat} {ts : Addr → Value → Option Addr → TS} {st : Stmt} {sts : List Stmt} {p1 p2 : Pos} {rest : List ExceptHandler} {l : List ClauseT}
      (hc : Names X x c) (hi : X.N[i]? = some n) (hk : X.env.kindOf n = some .local)
      (su : ∀ (b : Addr) (ob : Obj) (cl : Value) (dd : Option Addr) (pns : List (Addr × Obj)), Zc cl dd ob → (∃ ws, ob.data = .fields ws) → PSs (X.suite b ((b, ob) :: pns)) (st :: sts) (ts b cl dd))
      (r : HdsA X rest l) : HdsA X (.ExceptHandler (some (.Name x p1)) (some n) (st :: sts) p2 :: rest) ((c, i, ts) :: l)
section
variable {X : Cx} {body : List Stmt} {hd0 : ExceptHandler} {hds0 : List ExceptHandler} {l : List ClauseT} {pos : Pos} {tb : WX → TS} {Wo : WX}
theorem ps_try_manyA (st : X.stack = X.env :: X.outer) (fr : X.env.frame = some X.env.locals) (nd : X.N.Nodup) (tk : Takes X Wo)
    (bd : ∀ (W : WX) (pns : List (Addr × Obj)) (xx : Value → Shared → Prop), Takes (X.tr pns xx) W → PassesOwn (model X.prog X.w) X.A X.env xx → PSs (X.tr pns xx) body (tb W))
    (hh : HdsA X (hd0 :: hds0) l) : PS X (.Try body (hd0 :: hds0) [] [] pos) (fun D σ H => tb (wAll X.K Wo D l) D σ H) := by
  refine ⟨fun pins s0 σ0 H0 D I0 w0 => ?_⟩
  have fine := I0.ok
  have frs0 : X.A.frames = some (X.env :: X.outer) := by rw [fine.frames, st]
  refine wpAny_Try_except (wpAny_mono ((bd (wAll X.K Wo D l) (X.pn ++ pins)
    (fun er sa => wpAny (model X.prog X.w) X.A (noteFrame er X.env)
      (fun _ sb => wpAny (model X.prog X.w) X.A (setFlight er none)
        (fun _ sc => wpAny (model X.prog X.w) X.A (handleBy er X.env (hd0 :: hds0)) (SP X pins D) X.xe sc) X.xe sb) X.xe sa)
    (fun v0 sq got => ?_) PassesOwn.looking).run [] s0 σ0 H0 D (I0.toTry _) w0) (fun fl sz done => ?_) (fun _ _ z => z))
  case refine_2 =>
    cases fl with
    | next => obtain ⟨_, _, J, q⟩ := done; exact wpAny_execs_nil ⟨_, _, J.ofTry fine, q⟩
    | brk => obtain ⟨_, _, J, q⟩ := done; exact ⟨_, _, J.ofTry fine, q⟩
    | cont => obtain ⟨_, _, J, q⟩ := done; exact ⟨_, _, J.ofTry fine, q⟩
    | ret _ => obtain ⟨_, _, _, J, rel, q⟩ := done; exact ⟨_, _, _, J.ofTry fine, rel, q⟩
  obtain ⟨b, B, sI, pins2, σ, H, cl, dd, rfl, JT, fresh, up, sky, nb, osame, ag, want⟩ := got
  have J : Inv X pins σ H sI := JT.ofTry fine
  have sky2 : Sky B (X.env :: X.outer) b (Zc cl dd) X.env.locals sq.heap := by rw [← st]; exact sky
  show wpAny (model X.prog X.w) X.A (noteFrame (.ref b) X.env) _ _ _
  refine Sky.land Zc.steady frs0 fr sky2 fun g1 land1 up1 => ?_
  have J1 : Inv X pins σ H { sq with heap := g1 } := J.landed fresh land1.1 (up.trans up1) osame ag
  obtain ⟨ob1, ws1, at1, zc1, dat1⟩ := land1.there
  have out : b ∉ frs (X.env :: X.outer) := fun hm => by
    obtain ⟨_, o2, at2, no⟩ := land1.2.2.1.mem hm
    rw [at1] at at2
    cases at2
    exact no _ dat1
  have nL : b ≠ X.env.locals := fun z => out (List.mem_filterMap.mpr ⟨X.env, List.mem_cons_self, by rw [fr, z]⟩)
  have nF : b ∉ X.fs := fun hm => by
    obtain ⟨en, hen, hfr⟩ := List.mem_filterMap.mp hm
    exact out (List.mem_filterMap.mpr ⟨en, List.mem_cons_of_mem _ hen, hfr⟩)
  have U := J1.suite at1 dat1 nb nL nF
  have looks : PySem.W.Looks (model X.prog X.w) g1 (typeOf (.ref b)) cl := fun _ _ _ _ kp q => wpAny_typeOf_ref (kp _ _ at1) (by rw [zc1.1]; exact q)
  have go : ∀ {hs1 : List ExceptHandler} {l1 : List ClauseT}, HdsA X hs1 l1 → wAll X.K Wo D l1 cl dd σ H →
      wpAny (model X.prog X.w) X.A (handleBy (.ref b) X.env hs1) (SP X pins D) X.xe { sq with heap := g1 } := by
    intro hs1 l1 der
    induction der with
    | nil =>
      intro wish
      refine wpAny_handleBy_nil ?_
      obtain ⟨_, _, _, ob2, ws2, T, oT, tts, at2, zc2, dat2, f2, _⟩ := id land1
      unfold PySem.passOn
      refine wpAny_bind (wpAny_field at2 dat2 f2 ?_)
      rw [if_neg (show ¬ ((Value.ref T == Value.none) = true) by simp)]
      have last : wpAny (model X.prog X.w) X.A (setFlight (.ref b) X.env.frame) (fun _ sd => wpAny (model X.prog X.w) X.A (throw (.ref b) : Sem Flow) (SP X pins D) X.xe sd) X.xe { sq with heap := g1 } := by
        rw [fr]
        refine HandSPX.setFlight_upZ land1 fun g2 fly up2 => wpAny_throw (tk _ _ ⟨b, B, sI, pins, σ, H, cl, dd, rfl, J, fresh, (up.trans up1).trans up2, .inr (.inr ?_), nb, osame, ag, wish⟩)
        rw [st]
        exact fly
      first
        | exact wpAny_bind (wpAny_pure (wpAny_bind last))
        | exact wpAny_bind last
    | @cons x n c i ts s1 sts p1 p2 rest l2 hc hi hk su r ih =>
      intro wish
      obtain ⟨fits, he, yes, no⟩ := wish
      have LM := PySem.W.exm_one (M := model X.prog X.w) (J1.kIn) looks he
      refine wpAny_handleBy_cons (codeAny_handlers_test ?_) (fun z => by cases z)
      have named : ∀ {Q E : Value → Shared → Prop}, Q c { sq with heap := g1 } → wpAny (model X.prog X.w) (X.A.mark (some (.ref b))) (eval (.Name x p1) X.env) Q E { sq with heap := g1 } := by
        intro Q E q
        obtain ⟨hg, hdb, hm | ⟨hm, hv, hnn⟩⟩ := hc
        · exact ld_glob (X := X.suite b ((b, ob1) :: (X.pn ++ pins))) U hg hm q hdb
        · exact ld_blt (X := X.suite b ((b, ob1) :: (X.pn ++ pins))) U hg hm hv q hnn hdb
      refine named (LM.here ?_)
      cases fits with
      | false => exact ih (no rfl)
      | true =>
        refine codeAny_handlers_suite_as (HandSPX.lands_againZ land1 fun g2 land2 up2 => ?_)
        have J2 : Inv X pins σ H { sq with heap := g2 } := J.landed fresh land2.1 ((up.trans up1).trans up2) osame ag
        obtain ⟨ob2, ws2, at2, zc2, dat2⟩ := land2.there
        have U2 := J2.suite at2 dat2 nb nL nF
        refine store_ok (X := X.suite b ((b, ob2) :: (X.pn ++ pins))) (v := .ref b) U2 nd hi (.inl hk) rfl (fun s5 U5 => ?_) (.inr hk)
        refine wpAny_mono ((su b ob2 cl dd (X.pn ++ pins) zc2 ⟨_, dat2⟩).run [] s5 _ H _ U5 (yes rfl b nb)) (fun fl s6 done => ?_) (fun _ _ z => z.elim)
        have gone : ∀ {σ6 : L2.St} {H6 : Hp} {Q : Shared → Prop}, Inv (X.suite b ((b, ob2) :: (X.pn ++ pins))) [] σ6 H6 s6 → (∀ s7, Inv X pins (σ6.set i none) H6 s7 → Q s7) →
            wpAny (model X.prog X.w) X.A (do bindName X.env n .none; unbindBehindTheSuite X.env n p2) (fun _ s7 => Q s7) X.xe s6 :=
          fun U6 q => gone_ok (U6.unsuite fine) nd hi hk q
        cases fl with
        | next => obtain ⟨_, _, U6, q⟩ := done; exact gone U6 fun _ J7 => ⟨_, _, J7, q⟩
        | brk => obtain ⟨_, _, U6, q⟩ := done; exact gone U6 fun _ J7 => ⟨_, _, J7, q⟩
        | cont => obtain ⟨_, _, U6, q⟩ := done; exact gone U6 fun _ J7 => ⟨_, _, J7, q⟩
        | ret _ => obtain ⟨_, _, _, U6, rel, q⟩ := done; exact gone U6 fun _ J7 => ⟨_, _, _, J7, rel, q⟩
  exact go hh want
end
end Ab
/-! PART lists: lists of data that are made by a comprehension. -/
namespace Ab
open PySem PySem.Spec PyProof.Rows L2
/-- at D a list of data grows; all else stands in G -/
structure Grown (K : Fr0) (H0 : Hp) (D : Addr) (ds : List PyData) (G H : Hp) (acc : List V) : Prop where
  at_ : H D = some (.lst acc)
  was : Same H0 G
  now : Same G H
  off : G D = none
  dat : DpAll K G acc ds
theorem Grown.len {K : Fr0} {H0 : Hp} {D : Addr} {ds : List PyData} {G H : Hp} {acc : List V} (g : Grown K H0 D ds G H acc) : acc.length = ds.length := dpA_len g.dat
theorem Grown.same {K : Fr0} {H0 : Hp} {D : Addr} {ds : List PyData} {G H : Hp} {acc : List V} (g : Grown K H0 D ds G H acc) : Same H0 H := g.was.trans g.now
theorem Grown.dp {K : Fr0} {H0 : Hp} {D : Addr} {ds : List PyData} {G H : Hp} {acc : List V} (g : Grown K H0 D ds G H acc) : Dp K H (.ref D) (.list ds) := .lst (SqL.of g.at_) (dpA_same g.now g.dat)
theorem Grown.new {K : Fr0} {H0 : Hp} {D : Addr} (n : H0 D = none) : Grown K H0 D [] H0 (upd H0 D (.lst [])) [] := ⟨upd_same, Same.refl _, same_new n, n, .nil⟩
theorem Grown.step {K : Fr0} {H0 : Hp} {D : Addr} {ds : List PyData} {G H H' : Hp} {acc : List V} {y : V} {d : PyData} (g : Grown K H0 D ds G H acc) (s : Same H H') (hy : Dp K H' y d) (nl : nol d = true) :
    Grown K H0 D (ds ++ [d]) (cut H' D) (upd H' D (.lst (acc ++ [y]))) (acc ++ [y]) :=
  ⟨upd_same, g.was.trans (cut_of (g.now.trans s) g.off), same_put cut_same cut_at, cut_at, dpA_app (dp_chg (cut_chg (s _ _ g.at_)) nl hy) (dpA_same (cut_of (g.now.trans s) g.off) g.dat)⟩
theorem Grown.mono {K : Fr0} {H0 : Hp} {D : Addr} {ds : List PyData} {G H H' : Hp} {acc : List V} (g : Grown K H0 D ds G H acc) (s : Same H H') : Grown K H0 D ds G H' acc :=
  ⟨s _ _ g.at_, g.was, g.now.trans s, g.off, g.dat⟩
/-- a comprehension without a test that makes data, over whole numbers -/
theorem lc_nums {K : Fr0} {J : It} {n : Nat} {h : Nat → V} (w : Walk J n (fun _ => True) (YFn h)) {g : TG} {te : TE} {vs : List Nat} {σ : L2.St} {H1 : Hp} {D : Addr} {Qd : Hp → Prop} (f : Nat → PyData) (nl : ∀ i, nol (f i) = true) (hn : n < 100000) (nD : H1 D = none)
    (hs : ∀ (i : Nat) (H : Hp) (Q' : VK), i < n → Same H1 H → (∀ y H4, Same H H4 → Dp K H4 y (f i) → Q' y H4) → g (h i) (wipe σ vs) H fun σ2 H2 => wipe σ2 vs = wipe σ vs ∧ te σ2 H2 Q')
    (hd : ∀ G H acc, Grown K H1 D ((List.range n).map f) G H acc → Qd H) :
    ∃ W : Nat → Nat → Hp → Prop, (∃ m, W 0 m (upd H1 D (.lst []))) ∧ ∀ i m H, W i m H →
      (J.stop i H ∧ Qd H) ∨ (J.go i H ∧ ∃ Nx : Hp → Prop, (∀ H', Nx H' → ∃ m', m' < m ∧ W (i + 1) m' H') ∧ ∀ x H', J.yld i H x H' → g x (wipe σ vs) H' fun σ2 H2 => wipe σ2 vs = wipe σ vs ∧ tYes σ2 H2 fun b H3 =>
        if b = true then te σ2 H3 fun y H4 => ∃ acc, H4 D = some (.lst acc) ∧ acc.length < sizeLine ∧ Nx (upd H4 D (.lst (acc ++ [y]))) else Nx H3) := by
  refine lc_it w (fun i H => ∃ G acc, Grown K H1 D ((List.range i).map f) G H acc) ⟨_, _, Grown.new nD⟩ (fun _ _ _ _ => True.intro) ?_ (fun H ⟨G, acc, q⟩ => hd G H acc q)
  rintro i x H H' hi ⟨G, acc, q⟩ hy
  obtain ⟨rfl, rfl⟩ := hy
  refine hs i _ _ hi q.same fun y H4 s4 d4 => ?_
  have len : acc.length = i := by rw [q.len]; simp
  refine ⟨acc, s4 _ _ q.at_, Nat.lt_of_lt_of_le (show acc.length < 100000 by omega) (by decide), cut H4 D, acc ++ [y], ?_⟩
  have z := q.step s4 d4 (nl i)
  rwa [show (List.range i).map f ++ [f i] = (List.range (i + 1)).map f by rw [List.range_succ, List.map_append]; rfl] at z
/-- the same over a list -/
theorem lc_vals {K : Fr0} {a : Addr} {xs : List V} {g : TG} {te : TE} {vs : List Nat} {σ : L2.St} {H1 : Hp} {D : Addr} {Qd : Hp → Prop} (f : Nat → PyData) (nl : ∀ i, nol (f i) = true) (hn : xs.length < 100000) (nD : H1 D = none) (hx : SqL K H1 a xs)
    (hs : ∀ (i : Nat) (x : V) (H : Hp) (Q' : VK), xs[i]? = some x → Same H1 H → (∀ y H4, Same H H4 → Dp K H4 y (f i) → Q' y H4) → g x (wipe σ vs) H fun σ2 H2 => wipe σ2 vs = wipe σ vs ∧ te σ2 H2 Q')
    (hd : ∀ G H acc, Grown K H1 D ((List.range xs.length).map f) G H acc → Qd H) :
    ∃ W : Nat → Nat → Hp → Prop, (∃ m, W 0 m (upd H1 D (.lst []))) ∧ ∀ i m H, W i m H →
      ((Itl K a).stop i H ∧ Qd H) ∨ ((Itl K a).go i H ∧ ∃ Nx : Hp → Prop, (∀ H', Nx H' → ∃ m', m' < m ∧ W (i + 1) m' H') ∧ ∀ x H', (Itl K a).yld i H x H' → g x (wipe σ vs) H' fun σ2 H2 => wipe σ2 vs = wipe σ vs ∧ tYes σ2 H2 fun b H3 =>
        if b = true then te σ2 H3 fun y H4 => ∃ acc, H4 D = some (.lst acc) ∧ acc.length < sizeLine ∧ Nx (upd H4 D (.lst (acc ++ [y]))) else Nx H3) := by
  refine lc_list (xs := xs) (fun i H => ∃ G acc, Grown K H1 D ((List.range i).map f) G H acc) ⟨_, _, Grown.new nD⟩ (fun _ _ _ ⟨G, acc, q⟩ => sql_same q.same hx) ?_ (fun H ⟨G, acc, q⟩ => hd G H acc q)
  rintro i x H hi ⟨G, acc, q⟩
  have lt := (List.getElem?_eq_some_iff.mp hi).1
  refine hs i x _ _ hi q.same fun y H4 s4 d4 => ?_
  have len : acc.length = i := by rw [q.len]; simp
  refine ⟨acc, s4 _ _ q.at_, Nat.lt_of_lt_of_le (show acc.length < 100000 by omega) (by decide), cut H4 D, acc ++ [y], ?_⟩
  have z := q.step s4 d4 (nl i)
  rwa [show (List.range i).map f ++ [f i] = (List.range (i + 1)).map f by rw [List.range_succ, List.map_append]; rfl] at z
section
variable {K : Fr0} {σ : L2.St} {H : Hp} {Q : VK}
theorem r_lc {wi : TI} {g : TG} {tt : TT} {te : TE} {vs : List Nat} (h : wi σ H fun J H1 => ∀ D, H1 D = none → ∃ W : Nat → Nat → Hp → Prop, (∃ m, W 0 m (upd H1 D (.lst []))) ∧ ∀ i m H, W i m H →
    (J.stop i H ∧ Q (.ref D) H) ∨ (J.go i H ∧ ∃ Nx : Hp → Prop, (∀ H', Nx H' → ∃ m', m' < m ∧ W (i + 1) m' H') ∧ ∀ x H', J.yld i H x H' → g x (wipe σ vs) H' fun σ2 H2 => wipe σ2 vs = wipe σ vs ∧ tt σ2 H2 fun b H3 =>
      if b = true then te σ2 H3 fun y H4 => ∃ acc, H4 D = some (.lst acc) ∧ acc.length < sizeLine ∧ Nx (upd H4 D (.lst (acc ++ [y]))) else Nx H3)) : tLc wi g tt te vs σ H Q := h
theorem r_gtup {a : Addr} {n : Nat} {xs : List V} {t : TGs} {QS : L2.St → Hp → Prop} (h : SqT K H a xs) (len : xs.length = n) (q : t xs σ H QS) : gTup K n t (.ref a) σ H QS := ⟨a, xs, rfl, h, len, q⟩
theorem r_gcons {x : V} {xs : List V} {g : TG} {u : TGs} {QS : L2.St → Hp → Prop} (q : g x σ H fun σ' H' => u xs σ' H' QS) : gCons g u (x :: xs) σ H QS := ⟨x, xs, rfl, q⟩
theorem r_gnil {QS : L2.St → Hp → Prop} (q : QS σ H) : gNil [] σ H QS := ⟨rfl, q⟩
theorem r_eqI {i j : Int} (q : Q (.bl (decide (i = j))) H) : rEq (.int i) (.int j) H Q := ⟨rfl, by rw [show decide (V.int i = V.int j) = decide (i = j) from decide_eq_decide.mpr ⟨V.int.inj, congrArg _⟩]; exact q⟩
theorem r_neI {i j : Int} (q : Q (.bl (!decide (i = j))) H) : rNe (.int i) (.int j) H Q := ⟨rfl, by rw [show decide (V.int i = V.int j) = decide (i = j) from decide_eq_decide.mpr ⟨V.int.inj, congrArg _⟩]; exact q⟩
theorem r_iff {A B : Prop} (h : B) : if false = true then A else B := h
theorem r_ift {A B : Prop} (h : A) : if true = true then A else B := h
theorem r_cat {l b : Addr} {xs zs : List V} (h1 : H l = some (.lst xs)) (h2 : H b = some (.lst zs)) (hl : xs.length + zs.length < 100000) (q : ∀ p, H p = none → Q (.ref p) (upd H p (.lst (xs ++ zs)))) : rCat (.ref l) (.ref b) H Q :=
  ⟨l, b, xs, zs, rfl, rfl, h1, h2, Nat.le_of_lt (Nat.lt_of_lt_of_le hl (by decide)), q⟩
end
/-! ### lists that may be compared -/
theorem lay_map {α : Type} (f : α → PyData) (h : ∀ a, (f a).canLay0 = true) : ∀ l : List α, PyData.canLayAll0 (l.map f) = true
  | [] => rfl
  | a :: l => by rw [List.map_cons, PyData.canLayAll0, h a, lay_map f h l]; rfl
theorem dep_map {α : Type} {m : Nat} (f : α → PyData) (h : ∀ a, (f a).depth ≤ m) : ∀ l : List α, PyData.depthAll (l.map f) ≤ m
  | [] => by rw [List.map_nil, PyData.depthAll]; exact Nat.zero_le _
  | a :: l => by
    rw [List.map_cons, PyData.depthAll]
    exact Nat.max_le.mpr ⟨h a, dep_map f h l⟩
theorem sh_list {α : Type} (f : α → PyData) (h : ∀ a, (f a).canLay0 = true) (d : ∀ a, (f a).depth ≤ 9) (l : List α) : SeqAt.shaped (.list (l.map f)) = true := by
  unfold SeqAt.shaped
  rw [Bool.and_eq_true, PyData.canLay0, PyData.depth]
  exact ⟨lay_map f h l, decide_eq_true (by have := dep_map f d l; omega)⟩
theorem sh_tuple {α : Type} (f : α → PyData) (h : ∀ a, (f a).canLay0 = true) (d : ∀ a, (f a).depth ≤ 9) (l : List α) : SeqAt.shaped (.tuple (l.map f)) = true := by
  unfold SeqAt.shaped
  rw [Bool.and_eq_true, PyData.canLay0, PyData.depth]
  exact ⟨lay_map f h l, decide_eq_true (by have := dep_map f d l; omega)⟩
theorem sh_ints (l : List Int) : SeqAt.shaped (.list (l.map .int)) = true := sh_list _ (fun _ => rfl) (fun _ => by rw [PyData.depth]; exact Nat.zero_le _) l
theorem sh_nats (l : List Nat) : SeqAt.shaped (.list (l.map fun n : Nat => PyData.int (n : Int))) = true := sh_list (fun n : Nat => PyData.int (n : Int)) (fun _ => rfl) (fun _ => by rw [PyData.depth]; exact Nat.zero_le _) l
theorem dep_pr (a b : Int) : (pr a b).depth ≤ 9 := by show PyData.depth (.tuple [.int a, .int b]) ≤ 9; simp [PyData.depth, PyData.depthAll]
theorem sh_prs {α : Type} (f g : α → Int) (l : List α) : SeqAt.shaped (.list (l.map fun a => pr (f a) (g a))) = true := sh_list _ (fun _ => rfl) (fun _ => dep_pr _ _) l
theorem nol_int (i : Int) : nol (.int i) = true := by simp [nol]
theorem nol_pr (a b : Int) : nol (pr a b) = true := by simp [nol]
/-! ### within a comprehension: the written part is the same -/
section
variable {X : Cx} {K : Fr0}
theorem ixlK (h : X.K = K) : IxR X (rIxL K) := h ▸ ix_list
theorem ixtK (h : X.K = K) : IxR X (rIxT K) := h ▸ ix_tup
theorem lenK (h : X.K = K) : CallR X (.builtin "len") (fun xs H Q => ∃ p ys, xs = [.ref p] ∧ (SqL K H p ys ∨ SqT K H p ys) ∧ Q (.int ys.length) H) := h ▸ call_len_seq
theorem isiKK (h : X.K = K) : CallR X (.builtin "isinstance") (rIsi K) := h ▸ call_isi
theorem eqDK (h : X.K = K) (hu : X.A.units + 64 < cLine) : OpR X (compareOp .Eq) (rEqD K) := h ▸ op_eqD hu
theorem neDK (h : X.K = K) (hu : X.A.units + 64 < cLine) : OpR X (compareOp .NotEq) (rNeD K) := h ▸ op_neD hu
theorem inK (h : X.K = K) : OpR X (compareOp .In) (rIn K false) := h ▸ op_in_seq
theorem notInK (h : X.K = K) : OpR X (compareOp .NotIn) (rIn K true) := h ▸ op_notIn_seq
end
theorem dpA_ints_eq {K : Fr0} {H : Hp} : ∀ {l : List Int} {acc : List V}, DpAll K H acc (l.map .int) → acc = l.map V.int
  | [], _, h => by cases h; rfl
  | i :: l, _, h => by
    rw [List.map_cons] at h
    cases h with
    | cons h1 h2 =>
      cases h1
      rw [dpA_ints_eq h2]
      rfl
theorem Grown.ints {K : Fr0} {H0 : Hp} {D : Addr} {G H : Hp} {acc : List V} {n : Nat} {f : Nat → Int} (g : Grown K H0 D ((List.range n).map fun m => PyData.int (f m)) G H acc) : H D = some (.lst ((List.range n).map fun m => V.int (f m))) := by
  have z := g.dat
  rw [show ((List.range n).map fun m => PyData.int (f m)) = ((List.range n).map f).map .int by rw [List.map_map]; rfl] at z
  have e := dpA_ints_eq z
  rw [g.at_, e, List.map_map]
  rfl
theorem ints_at {n m : Nat} (f : Nat → Int) (h : m < n) : atI ((List.range n).map fun m => V.int (f m)) (m : Int) = some (.int (f m)) := atI_nat (by simp [h])
theorem dpA_append {K : Fr0} {H : Hp} : ∀ {ds es : List PyData} {vs ws : List V}, DpAll K H vs ds → DpAll K H ws es → DpAll K H (vs ++ ws) (ds ++ es)
  | [], _, _, _, h, h2 => by cases h; exact h2
  | _ :: ds, _, _, _, h, h2 => by
    cases h with
    | cons a b => exact .cons a (dpA_append b h2)
theorem dpA_rev {K : Fr0} {H : Hp} : ∀ {ds : List PyData} {vs : List V}, DpAll K H vs ds → DpAll K H vs.reverse ds.reverse
  | [], _, h => by cases h; exact .nil
  | _ :: ds, _, h => by
    cases h with
    | cons a b =>
      rw [List.reverse_cons, List.reverse_cons]
      exact dpA_append (dpA_rev b) (.cons a .nil)
theorem r_revL {K : Fr0} {σ : L2.St} {H : Hp} {Q : VK} {te : TE} (h : te σ H fun x H1 => ∃ a xs, x = .ref a ∧ SqL K H1 a xs ∧ ∀ p, H1 p = none → Q (.ref p) (upd H1 p (.lst xs.reverse))) : tRevL K te σ H Q := h
end Ab
/-! PART classes: own classes, their making, methods, properties. -/
namespace Ab
open PySem PySem.Spec PyProof.Rows L2
/-- the getter of a property -/
def gA (K : Fr0) (C f : Str) : Addr := match PySem.W.recIn K (mA K C f) "property" with
  | some (.ref g :: _) => g
  | _ => 0
def propB (C f : Str) (K : Fr0) : Bool := He.eqO (PySem.W.findIn K (.ref (fA K C)) f) (some (some (.ref (mA K C f)))) && (He.eqO (PySem.W.specialIn K (.ref (mA K C f)) "__get__") (some (some (.builtin "property.__get__"))) &&
  (decide (PySem.W.takesIn K (.ref (mA K C f)) = some true) && (match PySem.W.recIn K (mA K C f) "property" with
    | some (.ref _ :: _) => true
    | _ => false)))
theorem propB_ok {K : Fr0} {C f : Str} (h : propB C f K = true) : PropOf K (fA K C) f (mA K C f) (gA K C f) := by
  unfold propB at h
  obtain ⟨h1, h⟩ := He.ba h
  obtain ⟨h2, h⟩ := He.ba h
  obtain ⟨h3, h4⟩ := He.ba h
  refine ⟨He.eqO_ok h1, He.eqO_ok h2, of_decide_eq_true h3, ?_⟩
  unfold gA
  split at h4
  · rename_i g rest e
    rw [e]
    exact ⟨rest, rfl⟩
  · cases h4
/-- a property's getter, as it stands behind the top -/
structure TopP (K : Fr0) (C m q : Str) (st : Stmt) : Prop where
  fn : ∃ fd, FunD K m q (defArgs st) (defBody st) (defScope st) [] [] (gA K C m) fd
structure OkP (P : Program) (w : World) (K : Fr0) (mg : Str → Option Value) (base : Heap) (CX : CXT) (k : Nat) (C m : Str) (ps : List Str) (sp : Sp) : Prop where
  fn : ∃ fd, FnOk P w K mg base CX k (gA K C m) fd ps sp ∧ Binds K fd ps []
section
variable {P : Program} {w : World} {K : Fr0} {mg : Str → Option Value} {base : Heap} {CX : CXT} {C m q : Str} {st : Stmt} {N ps : List Str} {k : Nat} {sp : Sp}
theorem TopP.ok (D : TopP K C m q st) (S : FnScope N ps (defScope st)) (b : BindsAs st m q ps) (len : ∀ vs H Q E, sp vs H Q E → vs.length = ps.length)
    (body : ∀ (cdv : Value) (A : Around) (outer : List Env) (s : Shared) (H : Hp) (vs : List V) (Q : VK) (E : XK), Room k (A.deeper (envOfC q (defScope st) s.heap.objs.size (gA K C m) cdv)) → sp vs H Q E →
      ∃ t, PSs (cxOf CX P w K mg base N q (defScope st) (gA K C m) cdv A outer s H E) (defBody st) t ∧ t { nx := fun _ H' => Q .non H', rt := Q } (start N vs) H) :
    OkP P w K mg base CX (k + 1) C m ps sp := by
  obtain ⟨fd, F⟩ := D.fn
  exact ⟨fd, F.ok S len body, F.bindsN b⟩
end
/-- what an isinstance asks of the class of an instance -/
structure InsF (K : Fr0) (C : Addr) : Prop where
  ca : PySem.W.findIn K (.ref C) "__class__" = some (some (.builtin "object.__class__"))
  cn : PySem.W.specialIn K (.builtin "object.__class__") "__get__" = some (some (.builtin "getset_descriptor.__get__"))
  ct : PySem.W.takesIn K (.builtin "object.__class__") = some true
  cm : PySem.W.mroIn K C (.type "object") = some true
def insB (x : Str) (K : Fr0) : Bool := He.eqO (PySem.W.findIn K (.ref (fA K x)) "__class__") (some (some (.builtin "object.__class__"))) && (He.eqO (PySem.W.specialIn K (.builtin "object.__class__") "__get__") (some (some (.builtin "getset_descriptor.__get__"))) &&
  (decide (PySem.W.takesIn K (.builtin "object.__class__") = some true) && decide (PySem.W.mroIn K (fA K x) (.type "object") = some true)))
theorem insB_ok {K : Fr0} {x : Str} (h : insB x K = true) : InsF K (fA K x) := by
  unfold insB at h
  obtain ⟨h1, h⟩ := He.ba h
  obtain ⟨h2, h⟩ := He.ba h
  obtain ⟨h3, h4⟩ := He.ba h
  exact ⟨He.eqO_ok h1, He.eqO_ok h2, of_decide_eq_true h3, of_decide_eq_true h4⟩
section
variable {X : Cx} {k : Nat} {CX : CXT} {x m : Str} {ps : List Str} {sp : Sp} {p apos pos : Pos} {o e : Expr} {es : List Expr} {te : TE} {ta : TA} {E : XK}
/-- x(e, ..), an instance of an own class -/
theorem pe_mk (M : Mk X.K (fA X.K x) (mA X.K x "__init__")) (G : OkM X.prog X.w X.K X.mg X.base CX k x "__init__" ps sp) (hr : Room (k + 1) X.A) (hx : Passes CX X E) (hm : X.mg x = some (.ref (fA X.K x))) (ha : PA X (e :: es) ta) (hg : Gl X x := by rfl)
    (hdb : (x == ("__debug__" : Str)) = false := by decide) (he : starEach (e :: es) X.env = (false, eval e X.env) :: starEach es X.env := by rfl) (hpl : (backTo pos (starEach es X.env)).any (·.1) = false := by rfl) :
    PE X (.Call (.Name x p) (e :: es) [] pos) (tMake (fA X.K x) sp [] E ta) := by
  obtain ⟨fd, F, b⟩ := G.fn
  exact pe_make M F hr hg hm b .nil hx ha hdb he hpl
/-- o.m(e, ..) -/
theorem pe_m {pl : Sem Bool} {C : Str} (ho : PE X o te) (c : Cls X.K (fA X.K C)) (hm : Meth X.K (fA X.K C) m (mA X.K C m)) (G : OkM X.prog X.w X.K X.mg X.base CX k C m ps sp) (hr : Room k X.A) (hx : Passes CX X E) (ha : PA X (e :: es) ta)
    (hst : starEach (e :: es) X.env = (false, eval e X.env) :: starEach es X.env := by rfl) (hpl : (backTo pos (starEach es X.env)).any (·.1) = false := by rfl)
    (ht : eval (.Call (.Attribute o m apos) (e :: es) [] pos) X.env = (do
      let ov ← eval o X.env
      standAt apos.atName
      let (f, first) ← holding [ov] (getMethod ov m pl)
      callWith pos f first (backTo pos (starEach (e :: es) X.env)) (backToKw pos (keywordEach [] X.env))) := by rfl) :
    PE X (.Call (.Attribute o m apos) (e :: es) [] pos) (tMeth (fA X.K C) m sp [] E te ta) := by
  obtain ⟨fd, F, b⟩ := G.fn
  exact pe_meth ho c hm F hr b .nil hx ha hst hpl ht
/-- o.m() -/
theorem pe_m0 {pl : Sem Bool} {C : Str} (ho : PE X o te) (c : Cls X.K (fA X.K C)) (hm : Meth X.K (fA X.K C) m (mA X.K C m)) (G : OkM X.prog X.w X.K X.mg X.base CX k C m ps sp) (hr : Room k X.A) (hx : Passes CX X E)
    (ht : eval (.Call (.Attribute o m apos) [] [] pos) X.env = (do
      let ov ← eval o X.env
      standAt apos.atName
      let (f, first) ← holding [ov] (getMethod ov m pl)
      callWith pos f first [] (backToKw pos (keywordEach [] X.env))) := by rfl) :
    PE X (.Call (.Attribute o m apos) [] [] pos) (tMeth (fA X.K C) m sp [] E te tNil) := by
  obtain ⟨fd, F, b⟩ := G.fn
  exact pe_meth0 ho c hm F hr b .nil hx ht
/-- o.f, a property -/
theorem pe_prp {C : Str} (ho : PE X o te) (c : Cls X.K (fA X.K C)) (hp : PropOf X.K (fA X.K C) m (mA X.K C m) (gA X.K C m)) (G : OkP X.prog X.w X.K X.mg X.base CX k C m ps sp) (hr : Room (k + 1) X.A) (hx : Passes CX X.nox E)
    (hab : attributeBase o m X.env (eval o X.env) = eval o X.env) : PE X (.Attribute o m pos) (tProp (fA X.K C) sp [] E te) := by
  obtain ⟨fd, F, b⟩ := G.fn
  exact pe_prop ho c hp F hr b .nil hx hab
end
section
variable {K : Fr0} {σ : L2.St} {H : Hp} {Q : VK} {te : TE} {f : Str}
theorem r_fld (h : te σ H fun x H1 => ∃ a C dx fs v, x = .ref a ∧ H1 a = some (.ins C dx fs) ∧ Cls K C ∧ NoAttr K C f ∧ fs.lookup f = some v ∧ Q v H1) : tFld K te f σ H Q := h
theorem r_make {C : Addr} {sp : Sp} {E : XK} {t : TA} (h : t σ H fun vs H1 => ∀ x dx, H1 x = none → H1 dx = none → dx ≠ x →
  sp (.ref x :: (vs ++ [])) (upd (upd H1 dx (.own x)) x (.ins C dx [])) (fun v H2 => v = .non ∧ Q (.ref x) H2) E) : tMake C sp [] E t σ H Q := h
theorem r_sfld {D : Ends} {ta tv : TE} (h : tv σ H fun y H1 => ta σ H1 fun x H2 => ∃ a C dx fs, x = .ref a ∧ H2 a = some (.ins C dx fs) ∧ Cls K C ∧ NoAttr K C f ∧ fs.length < 1000 ∧
  D.nx σ (upd H2 a (.ins C dx (putF f y fs)))) : sFld K ta tv f D σ H := h
theorem r_disp {trs : List (TE × TE)} (h : ∀ p, H p = none → tPairs trs σ (upd H p (.dK [])) fun ps H2 => H2 p = some (.dK []) ∧ ∃ kvs : List (Key × V), ps = kvs.map (fun kv => (kV kv.1, kv.2)) ∧ kvs.length ≤ 15 ∧ Q (.ref p) (upd H2 p (.dK (mergeK [] kvs)))) : tDisp trs σ H Q := h
end
theorem upd_upd {H : Hp} {a : Addr} {x y : HO} : upd (upd H a x) a y = upd H a y := by
  funext b
  by_cases h : b = a
  · subst h
    rw [upd_same, upd_same]
  · rw [upd_ne h, upd_ne h, upd_ne h]
/-- all but what stands at a is kept -/
def But (a : Addr) (H H' : Hp) : Prop := ∀ b o, b ≠ a → H b = some o → H' b = some o
theorem But.refl' {a : Addr} {H : Hp} : But a H H := fun _ _ _ e => e
theorem But.set {a : Addr} {H H' : Hp} {o : HO} (h : But a H H') : But a H (upd H' a o) := fun b u n e => by rw [upd_ne n]; exact h b u n e
theorem But.same {a : Addr} {H H' H2 : Hp} (h : But a H H') (s : Same H' H2) : But a H H2 := fun b u n e => s _ _ (h b u n e)
end Ab
/-! PART calls of an item, own ==, dicts compared. -/
namespace Ab
open PySem PySem.Spec PyProof.Rows L2
/-- (an expression that gives a def)(e, ..) -/
def tCallE (P : Program) (w : World) (K : Fr0) (mg : Str → Option Value) (base : Heap) (k : Nat) (W : WX) (te : TE) (t : TA) : TE := fun σ H Q => te σ H fun x H1 => ∃ (y : Str) (ps : List Str) (sp : Sp), x = .ref (fA K y) ∧ Ok P w K mg base (L2.CX P w) k y ps sp ∧ t σ H1 fun vs H2 => sp vs H2 Q (WE W σ)
section
variable {X : Cx} {k : Nat} {W : WX} {te : TE} {t : TA} {fe e : Expr} {es : List Expr} {pos : Pos}
theorem pe_callE {P : Program} {w : World} {K : Fr0} {mg : Str → Option Value} {base : Heap} (eP : X.prog = P) (ew : X.w = w) (eK : X.K = K) (em : X.mg = mg) (eb : X.base = base) (hf : PE X fe te) (hr : Room k X.A) (tk : Takes X W) (ha : PA X (e :: es) t)
    (hc : eval (.Call fe (e :: es) [] pos) X.env = (do callWith pos (← eval fe X.env) [] (backTo pos (starEach (e :: es) X.env)) (backToKw pos (keywordEach [] X.env))) := by rfl)
    (he : starEach (e :: es) X.env = (false, eval e X.env) :: starEach es X.env := by rfl) (hpl : (backTo pos (starEach es X.env)).any (·.1) = false := by rfl) :
    PE X (.Call fe (e :: es) [] pos) (tCallE P w K mg base k W te t) := by
  subst eP ew eK em eb
  refine ⟨fun pins s σ H Q I h => ?_⟩
  rw [hc]
  refine wpAny_bind (thn (hf.run pins s σ H _ I h) fun u s1 ⟨x, H1, I1, rx, y, ps, sp, ex, G, q⟩ => ?_)
  subst ex
  cases (show u = Value.ref _ from rx)
  obtain ⟨fd, F, b, _⟩ := G.fn
  refine PySem.W.callWith_K (h₀ := X.base) I1.ok.mod.kin G.kp (thn (ha.run pos pins s1 σ H1 _ I1 q) fun us s2 ⟨vs, H2, I2, r, q2⟩ => ⟨I2.kIn, ?_⟩) he hpl
  exact run_fnS F hr b (passAt tk σ) I2 r q2
end
section
variable {K : Fr0} {σ : L2.St} {H : Hp} {Q : VK} {te : TE} {t : TA}
theorem r_callE {P : Program} {w : World} {mg : Str → Option Value} {base : Heap} {k : Nat} {W : WX} (h : te σ H fun x H1 => ∃ (y : Str) (ps : List Str) (sp : Sp), x = .ref (fA K y) ∧ Ok P w K mg base (L2.CX P w) k y ps sp ∧ t σ H1 fun vs H2 => sp vs H2 Q (WE W σ)) : tCallE P w K mg base k W te t σ H Q := h
end
/-! ### == by an own def -/
def rOwnI (K : Fr0) (C : Addr) (sp : Sp) (E : XK) : R2 := fun x y H Q => ∃ a dx fs tb, x = .ref a ∧ H a = some (.ins C dx fs) ∧ TyX K H y tb ∧ PySem.W.notFirst K C tb = true ∧ sp [x, y] H Q E
section
variable {X : Cx} {CX : CXT} {k : Nat} {x m : Str} {ps : List Str} {sp : Sp} {E : XK} {te : TE} {ta : TA}
theorem op_ownI {op : CmpOp} (hm : Meth X.K (fA X.K x) m (mA X.K x m)) (hop : ∀ a b, compareOp op a b = richCompare op a b) (hs : (cmpInfo op).2.1 = m) (G : OkM X.prog X.w X.K X.mg X.base CX k x m ps sp) (hr : Room k X.A) (hx : Passes CX X E) :
    OpR X (compareOp op) (rOwnI X.K (fA X.K x) sp E) := by
  intro pins s σ H x1 y v u Q I rx ry h
  obtain ⟨a, dx, fs, tb, rfl, ha, ty, hn, q⟩ := h
  cases (show v = Value.ref a from rx)
  obtain ⟨mA, O, _⟩ := ins_get I.hok ha
  obtain ⟨od, J, _⟩ := O.look
  obtain ⟨P, Z, p, _⟩ := kit_of I ry ty
  obtain ⟨fd, F, b⟩ := G.fn
  obtain ⟨mm, hF⟩ := I.fr
  rw [hop]
  refine PySem.W.cmp_K (op := op) (tb := tb) hr.units0 hF I.ok.mod.kin J (Z.ty _ _ I.kIn p) hn (by rw [hs]; exact hm.at_) hm.fn ?_
  have e0 : sp ([V.ref a, y] ++ []) H Q E := q
  refine wpAny_mono (run_fn (us := [.ref a, u]) F hr b .nil hx I (.cons (show RelV (V.ref a) (Value.ref a) from rfl) (.cons ry .nil)) e0) (fun w s' z => ?_) fun _ _ x => x
  obtain ⟨z', H', I', rz, qz⟩ := z
  exact SlX.cmpback rz ⟨z', H', I', rz, qz⟩
end
/-! ### dicts of whole numbers compared -/
theorem eqAt_int {A : Around} {s : Shared} {i j : Int} {u u' : Value} (r : RelV (.int i) u) (r' : RelV (.int j) u') : SeqAt.EqAt A s u u' (i == j) := by
  obtain ⟨t, rfl⟩ := (show ∃ t, u = Value.int i t from r)
  obtain ⟨t', rfl⟩ := (show ∃ t, u' = Value.int j t from r')
  exact SeqAt.EqAt.int_int i t j t'
theorem hits_int {κ : Type} [DecidableEq κ] {A : Around} {s : Shared} {kvs : List (κ × V)} {vb : List (κ × Value)} (rb : KV kvs vb) : ∀ {ts : List (κ × Int × Int)} {va : List (κ × Value)}, KV (ts.map fun t => (t.1, V.int t.2.1)) va →
    (∀ t ∈ ts, valV kvs t.1 = some (.int t.2.2)) → PySem.W.KeqHits A s vb va (ts.all fun t => t.2.1 == t.2.2)
  | [], va, ra, _ => by
    unfold KV at ra
    cases ra
    exact .nil
  | t :: ts, va, ra, hp => by
    unfold KV at ra
    rw [List.map_cons] at ra
    cases ra with
    | @cons _ q _ qs h r =>
      obtain ⟨h1, h2⟩ := h
      have rr : RelO (some (V.int t.2.2)) (valueAt vb t.1) := by rw [← hp t List.mem_cons_self]; exact rb.val t.1
      obtain ⟨y, hy, ry⟩ := rr.some_of
      obtain ⟨k, v⟩ := q
      have h1' : t.1 = k := h1
      rw [h1'] at hy
      rw [List.all_cons]
      exact .hit hy (eqAt_int h2 ry) (hits_int rb r fun p' hm => hp p' (List.mem_cons_of_mem _ hm))
def rEqDI : R2 := fun x y H Q => ∃ (a b : Addr) (ts : List (Key × Int × Int)) (ls : List (Key × V)), x = .ref a ∧ y = .ref b ∧ H a = some (.dK (ts.map fun t => (t.1, V.int t.2.1))) ∧ H b = some (.dK ls) ∧ ls.length = ts.length ∧ (∀ t ∈ ts, valV ls t.1 = some (.int t.2.2)) ∧ Q (.bl (ts.all fun t => t.2.1 == t.2.2)) H
theorem op_eqDI {X : Cx} (hu : X.A.units < cLine) : OpR X (compareOp .Eq) rEqDI := by
  intro pins s σ H x y v u Q I rx ry h
  obtain ⟨a, b, ts, ls, rfl, rfl, ea, eb, hlen, hp, q⟩ := h
  obtain rfl : v = Value.ref a := rx
  obtain rfl : u = Value.ref b := ry
  obtain ⟨_, ya, va, ra, da⟩ := (show ObjOk X.prog X.w H s.heap a (.dK (ts.map fun t => (t.1, V.int t.2.1))) from I.hok a _ ea)
  obtain ⟨_, yb, vb, rb, db⟩ := (show ObjOk X.prog X.w H s.heap b (.dK ls) from I.hok b _ eb)
  have hl : va.length = vb.length := by rw [← ra.length, ← rb.length, List.length_map, hlen]
  exact PySem.W.keq_eq (knd := mixKind X.prog X.w) (r := ts.all fun t => t.2.1 == t.2.2) ya yb da db hu (fun _ => hits_int rb ra hp) (fin_bl I q (by simp [hl]))
/-! ### list(range(..)) -/
section
variable {σ : L2.St} {H : Hp} {Q : VK} {ta tb : TE}
theorem r_lstRg2 (h : ta σ H fun x H1 => tb σ H1 fun y H2 => ∃ i j, x = .int i ∧ y = .int j ∧ RgOk i j ∧ ∀ q, H2 q = none → Q (.ref q) (upd H2 q (.lst (rgV i j)))) : tLstRg (tRg2 ta tb) σ H Q := h
theorem r_lstRg1 (h : ta σ H fun x H1 => ∃ n, x = .int n ∧ RgOk 0 n ∧ ∀ q, H1 q = none → Q (.ref q) (upd H1 q (.lst (rgV 0 n)))) : tLstRg (tRg1 ta) σ H Q := h
theorem r_tupRg2 (h : ta σ H fun x H1 => tb σ H1 fun y H2 => ∃ i j, x = .int i ∧ y = .int j ∧ RgOk i j ∧ ∀ q, H2 q = none → Q (.ref q) (upd H2 q (.tup (rgV i j)))) : tTupRg (tRg2 ta tb) σ H Q := h
end
theorem nat_four {d : Nat} (h : d < 4) : d = 0 ∨ d = 1 ∨ d = 2 ∨ d = 3 := by omega
theorem r_niff {A B : Prop} (h : B) : if (!true) = true then A else B := h
theorem r_nift {A B : Prop} (h : A) : if (!false) = true then A else B := h
/-- a call's wish by a plain one -/
theorem sp_via {sp : Sp} {vs : List V} {H : Hp} {Q : VK} {E : XK} (P : V → Hp → Prop) (h : ∀ Q' : VK, (∀ v H', P v H' → Q' v H') → sp vs H Q' E) (J : ∀ v H', P v H' → Q v H') : sp vs H Q E := h Q J
end Ab
/-! PART makings that may raise. -/
namespace Ab
open PySem PySem.Spec PyProof.Rows L2
/-- what a making asks; what its __init__ lets out is wished for at the slots -/
def tMakeS (C : Addr) (sp : Sp) (E : L2.St → XK) (t : TA) : TE := fun σ H Q => t σ H fun vs H1 => ∀ x dx, H1 x = none → H1 dx = none → dx ≠ x →
  sp (.ref x :: vs) (upd (upd H1 dx (.own x)) x (.ins C dx [])) (fun v H2 => v = .non ∧ Q (.ref x) H2) (E σ)
section
variable {X : Cx} {CX : CXT} {k : Nat} {C fi : Addr} {fd : FuncData} {ps : List Str} {sp : Sp} {E : L2.St → XK} {x m : Str} {p pos apos : Pos} {e o : Expr} {es : List Expr} {te : TE} {ta : TA} {W : WX}
theorem makeS_run {pins : List (Addr × Obj)} {σ : L2.St} {H : Hp} {s : Shared} {Q : VK} {ws : List Value} {vs : List V} (M : Mk X.K C fi) (F : FnOk X.prog X.w X.K X.mg X.base CX k fi fd ps sp) (hr : Room (k + 1) X.A)
    (hb : Binds X.K fd ps []) (hx : PassesAt CX X σ (E σ)) (I : Inv X pins σ H s) (r : Vals vs ws)
    (h : ∀ x dx, H x = none → H dx = none → dx ≠ x → sp (.ref x :: vs) (upd (upd H dx (.own x)) x (.ins C dx [])) (fun v H2 => v = .non ∧ Q (.ref x) H2) (E σ)) :
    wpAny (model X.prog X.w) X.A (call (.ref C) ws) (EP X pins σ Q) X.xe s := by
  obtain ⟨n, en⟩ : ∃ n, n = s.heap.objs.size := ⟨_, rfl⟩
  have q0 := h (n + 1) n (I.hok.fresh (by rw [en]; exact Nat.le_add_right _ 1)) (I.hok.fresh (by rw [en]; exact Nat.le_refl _)) (fun z => Nat.succ_ne_self n z.symm)
  have J := Inv.made (C := C) I
  rw [← en] at J
  have rv : Vals (V.ref (n + 1) :: vs) (Value.ref (n + 1) :: ws) := .cons (show RelV (V.ref (n + 1)) (Value.ref (n + 1)) from rfl) r
  have len : (Value.ref (n + 1) :: ws).length = ps.length := rv.length.symm.trans (F.len _ _ _ _ q0)
  have bd := hb _ (Value.ref (n + 1) :: ws) J.kIn (by rw [List.append_nil]; exact len)
  rw [List.append_nil] at bd
  subst en
  refine wpAny_call (make_map (f := fi) I.kIn M.makes M.init (beq_iff_eq.mp M.fn) ?_)
  refine codeAny_mono (F.run _ X.stack _ _ ⟨_, []⟩ _ _ _ (E σ) (hr.make C ws []) (J.env0.make C ws []) bd rv q0) fun out s' done => ?_
  cases out with
  | error er => exact hx pins _ _ er s' J done
  | ok fl =>
    cases fl with
    | next => exact done.elim
    | brk => exact done.elim
    | cont => exact done.elim
    | ret u =>
      obtain ⟨v, H', J2, rel, rfl, fin⟩ := J.after done
      exact ⟨rel, _, H', J2, (show RelV (V.ref _) (Value.ref _) from rfl), fin⟩
/-- x(e, ..), an instance; what is let out goes on, or is caught -/
theorem pe_mkS (M : Mk X.K (fA X.K x) (mA X.K x "__init__")) (G : OkM X.prog X.w X.K X.mg X.base (L2.CX X.prog X.w) k x "__init__" ps sp) (hr : Room (k + 1) X.A) (tk : Takes X W) (hm : X.mg x = some (.ref (fA X.K x))) (ha : PA X (e :: es) ta) (hg : Gl X x := by rfl)
    (hdb : (x == ("__debug__" : Str)) = false := by decide) (he : starEach (e :: es) X.env = (false, eval e X.env) :: starEach es X.env := by rfl) (hpl : (backTo pos (starEach es X.env)).any (·.1) = false := by rfl) :
    PE X (.Call (.Name x p) (e :: es) [] pos) (tMakeS (fA X.K x) sp (WE W) ta) := by
  obtain ⟨fd, F, b⟩ := G.fn
  constructor
  intro pins s σ H Q I h
  refine wpAny_Call_Name_kw (ld_glob I hg hm ?_ hdb)
  refine PySem.W.callWith_K (h₀ := X.base) I.ok.mod.kin M.kp (thn (ha.run pos pins s σ H _ I h) fun ws s1 got => ?_) he hpl
  obtain ⟨vs, H1, I1, r, q⟩ := got
  exact ⟨I1.kIn, makeS_run M F hr b (passAt tk σ) I1 r q⟩
end
section
variable {σ : L2.St} {H : Hp} {Q : VK} {t : TA}
theorem r_makeS {C : Addr} {sp : Sp} {E : L2.St → XK} (h : t σ H fun vs H1 => ∀ x dx, H1 x = none → H1 dx = none → dx ≠ x →
  sp (.ref x :: vs) (upd (upd H1 dx (.own x)) x (.ins C dx [])) (fun v H2 => v = .non ∧ Q (.ref x) H2) (E σ)) : tMakeS C sp E t σ H Q := h
end
/-- e.f, a property -/
theorem r_prop {C : Addr} {sp : Sp} {dvs : List V} {E : XK} {te : TE} {σ : L2.St} {H : Hp} {Q : VK} (h : te σ H fun x H1 => ∃ a dx fs, x = .ref a ∧ H1 a = some (.ins C dx fs) ∧ sp (.ref a :: dvs) H1 Q E) : tProp C sp dvs E te σ H Q := h
end Ab
/-! PART texts: errors with two fields, a text so often, tables of the written part, lists of lists. -/
namespace Ab
open PySem PySem.Spec PyProof.Rows L2
/-! ### an error with two fields -/
def spI2 (K : Fr0) (x f g : Str) : Sp := fun vs H Q _ => ∃ (a : Addr) (y z : V), vs = [.ref a, y, z] ∧ H a = some (exo a (fA K x) none) ∧
  ∀ dx, H dx = none → dx ≠ a → Q .non (upd (upd (upd H dx (exd dx [(f, y)])) a (exo a (fA K x) (some dx))) dx (exd dx [(g, z), (f, y)]))
def Raised2 (K : Fr0) (x f g : Str) (y z : V) (H : Hp) (E : XK) : Prop := ∀ d H', H d = none → Same H H' → H' d = some (.xd [(g, z), (f, y)]) → E (.ref (fA K x)) (some d) H'
theorem Raised2.same {K : Fr0} {x f g : Str} {y z : V} {H H1 : Hp} {E : XK} (s : Same H H1) (h : Raised2 K x f g y z H E) : Raised2 K x f g y z H1 E := fun d H' n s' e => h d H' (s.free n) (s.trans s') e
theorem mk2_heap {f g : Str} {H H2 : Hp} {a d C : Addr} {y z : V} (na : H a = none) (nd : H d = none) (ne : d ≠ a) (e : H2 = upd (upd (upd (upd H a (exo a C none)) d (exd d [(f, y)])) a (exo a C (some d))) d (exd d [(g, z), (f, y)])) :
    Same H (upd (del H2 a) d (.xd [(g, z), (f, y)])) ∧ (upd (del H2 a) d (.xd [(g, z), (f, y)])) d = some (.xd [(g, z), (f, y)]) := by
  subst e
  refine ⟨fun b o hb => ?_, upd_same⟩
  have hba := ne_of_none hb na
  have hbd := ne_of_none hb nd
  rw [upd_ne hbd, del_ne hba, upd_ne hbd, upd_ne hba, upd_ne hbd, upd_ne hba]
  exact hb
theorem r_mk2 {K : Fr0} {x f g : Str} {H : Hp} {y z : V} {C : Addr} (hC : C = fA K x) {Q : XK} {vs : List V} (h1 : vs = [y, z]) (h : ∀ d H', H d = none → Same H H' → H' d = some (.xd [(g, z), (f, y)]) → Q (.ref C) (some d) H') :
    vs.length ≤ 1000 ∧ ∀ a, H a = none → spI2 K x f g (.ref a :: (vs ++ [])) (upd H a (exo a C none))
      (fun v H2 => v = .non ∧ ∃ (d : Addr) (fs : List (Str × V)), H2 a = some (exo a C (some d)) ∧ H2 d = some (exd d fs) ∧ H d = none ∧ Q (.ref C) (some d) (upd (del H2 a) d (.xd fs))) (fun _ _ _ => False) := by
  subst h1 hC
  refine ⟨by show 2 ≤ 1000; decide, fun a na => ⟨a, y, z, rfl, upd_same, fun dx nd ne => ⟨rfl, dx, [(g, z), (f, y)], ?_, upd_same, ?_, ?_⟩⟩⟩
  · rw [upd_ne ne.symm, upd_same]
  · rw [upd_ne ne] at nd
    exact nd
  · rw [upd_ne ne] at nd
    obtain ⟨s, e⟩ := mk2_heap (C := fA K x) (f := f) (g := g) (y := y) (z := z) na nd ne rfl
    exact h dx _ nd s e
theorem look2 {f g : Str} {v w : V} {r : List (Str × V)} (n : (f == g) = false) : ((g, w) :: (f, v) :: r).lookup f = some v := by
  rw [List.lookup_cons, n]
  simp [List.lookup]
/-! ### a text so often -/
def repS (y : Str) (n : Nat) : Str := ⟨(List.replicate n y.cps).foldl (· ++ ·) #[]⟩
theorem rep_fold (c : Array Nat) : ∀ (n : Nat) (acc : Array Nat), ((List.replicate n c).foldl (· ++ ·) acc).toList = acc.toList ++ (List.replicate n c.toList).flatten
  | 0, acc => by simp
  | n + 1, acc => by
    rw [List.replicate_succ, List.foldl_cons, rep_fold c n, List.replicate_succ, List.flatten_cons, Array.toList_append, List.append_assoc]
theorem tl_rep (z : Str) (n : Nat) : TL.tl (repS z n) = (List.replicate n (TL.tl z)).flatten := by
  have := rep_fold z.cps n #[]
  rw [show (#[] : Array Nat).toList = [] from rfl, List.nil_append] at this
  exact this
theorem rep_len (z : Str) (n : Nat) : (repS z n).length = z.length * n := by
  rw [TL.len_tl, tl_rep, TL.len_tl z]
  induction n with
  | zero => simp
  | succ n ih => rw [List.replicate_succ, List.flatten_cons, List.length_append, ih, Nat.mul_succ, Nat.add_comm]
def rRepS : R2 := fun x y H Q => ∃ (z : Str) (n : Nat), x = .str z ∧ y = .int n ∧ 0 < z.length ∧ z.length * n ≤ 1000 ∧ Q (.str (repS z n)) H
theorem op_repS {X : Cx} : OpR X (binaryOp .Mult) rRepS := by
  intro pins s σ H x y v u Q I rx ry h
  obtain ⟨z, n, rfl, rfl, h0, h1, q⟩ := h
  obtain ⟨t, rfl⟩ := rx
  obtain ⟨t', rfl⟩ := ry
  have n1 : n ≤ 1000 := Nat.le_trans (Nat.le_mul_of_pos_left n h0) h1
  have fit : (decide ((n : Int) < -(2 ^ 63 : Int)) || decide ((n : Int) ≥ 2 ^ 63)) = false := by
    rw [decide_eq_false (by omega), decide_eq_false (by omega)]
    rfl
  refine P.mul_str fit (fun a b => ?_) (fun a b => ?_) ?_
  · have zl : z.length ≤ 1000 := Nat.le_trans (Nat.le_mul_of_pos_right _ (by omega)) h1
    have : ((2 : Int) ^ 63 - 1) / (n : Int) ≥ (2 ^ 63 - 1) / 1000 := by
      have hn : (0 : Int) < n := by omega
      refine (Int.le_ediv_iff_mul_le hn).mpr ?_
      have e : (n : Int) ≤ 1000 := by omega
      calc ((2 : Int) ^ 63 - 1) / 1000 * (n : Int) ≤ (2 ^ 63 - 1) / 1000 * 1000 := Int.mul_le_mul_of_nonneg_left e (by decide)
        _ ≤ 2 ^ 63 - 1 := by decide
    have k : ((2 : Int) ^ 63 - 1) / 1000 = 9223372036854775 := by decide
    omega
  · have : z.length * (n : Int).toNat ≤ 1000 := by rw [Int.toNat_natCast]; exact h1
    unfold Builtin.Str.tooLong
    exact decide_eq_false (Nat.not_lt.mpr (Nat.le_trans this (by decide)))
  · have one : ∀ y : Str, repS y 1 = y := fun y => by
      unfold repS
      show Str.mk (#[] ++ y.cps) = y
      rw [Array.empty_append]
    split
    · have e0 : n = 0 := by omega
      subst e0
      exact ⟨by decide, ⟨.str (repS z 0), H, I.tok _, ⟨_, rfl⟩, q⟩⟩
    · split
      · rename_i c1 c2
        have e1 : n = 1 := by
          rw [Bool.or_eq_true, beq_iff_eq, beq_iff_eq] at c2
          omega
        subst e1
        rw [one] at q
        exact ⟨.str z, H, I, ⟨_, rfl⟩, q⟩
      · have e2 : (⟨(List.replicate (n : Int).toNat z.cps).foldl (· ++ ·) #[]⟩ : Str) = repS z n := by
          rw [Int.toNat_natCast]
          rfl
        rw [e2]
        exact ⟨by rw [rep_len]; exact Nat.le_trans h1 (by decide), ⟨.str (repS z n), H, I.tok _, ⟨_, rfl⟩, q⟩⟩
/-! ### tables of the written part -/
def tupAtB (K : Fr0) (a : Addr) (vs : List V) : Bool := match K.lookup a with
  | some ⟨.type c, _, .seq its _, _⟩ => decide (c = "tuple") && (decide (its.size ≤ sizeLine) && He.relAll vs its.toList)
  | _ => false
theorem tupAtB_ok {K : Fr0} {a : Addr} {vs : List V} (h : tupAtB K a vs = true) (H : Hp) : SqT K H a vs := by
  unfold tupAtB at h
  split at h
  · rename_i c dd its n sl lk
    obtain ⟨h1, h2⟩ := He.ba h
    obtain ⟨h3, h4⟩ := He.ba h2
    exact .inr ⟨_, its, n, lk, congrArg Value.type (of_decide_eq_true h1), rfl, of_decide_eq_true h3, He.relAll_ok h4⟩
  · cases h
def hdA (K : Fr0) (i : Nat) : Addr := match K.lookup (fA K "HEADS") with
  | some ⟨_, _, .seq its _, _⟩ => (match its[i]? with
    | some (.ref a) => a
    | _ => 0)
  | _ => 0
def headsB (K : Fr0) : Bool := tupAtB K (fA K "HEADS") [.ref (hdA K 0), .ref (hdA K 1), .ref (hdA K 2), .ref (hdA K 3)] && (tupAtB K (hdA K 0) [.str "have", .int 0, .int 5] && (tupAtB K (hdA K 1) [.str "buy", .int 0, .int 4] &&
  (tupAtB K (hdA K 2) [.str "price", .int 0, .int 50] && tupAtB K (hdA K 3) [.str "pack", .int 1, .int 3])))
structure HeadsF (K : Fr0) : Prop where
  t : ∀ H, SqT K H (fA K "HEADS") [.ref (hdA K 0), .ref (hdA K 1), .ref (hdA K 2), .ref (hdA K 3)]
  h0 : ∀ H, SqT K H (hdA K 0) [.str "have", .int 0, .int 5]
  h1 : ∀ H, SqT K H (hdA K 1) [.str "buy", .int 0, .int 4]
  h2 : ∀ H, SqT K H (hdA K 2) [.str "price", .int 0, .int 50]
  h3 : ∀ H, SqT K H (hdA K 3) [.str "pack", .int 1, .int 3]
theorem headsB_ok {K : Fr0} (h : headsB K = true) : HeadsF K := by
  unfold headsB at h
  obtain ⟨a, h⟩ := He.ba h
  obtain ⟨b, h⟩ := He.ba h
  obtain ⟨c, h⟩ := He.ba h
  obtain ⟨d, e⟩ := He.ba h
  exact ⟨tupAtB_ok a, tupAtB_ok b, tupAtB_ok c, tupAtB_ok d, tupAtB_ok e⟩
/-! ### the scope of a comprehension -/
def lcSc : Expr → Scope
  | .ListComp _ _ sc _ => sc
  | _ => defScope (.Pass ⟨0, 0, 0, 0⟩)
def asgV : Stmt → Expr
  | .Assign _ v _ => v
  | .Expr v _ => v
  | .Return (some v) _ => v
  | _ => .Name "x" ⟨0, 0, 0, 0⟩
/-! ### lists of lists made by a comprehension -/
theorem Grown.stepL {K : Fr0} {H0 : Hp} {D : Addr} {ds : List PyData} {G H H' : Hp} {acc : List V} {y : V} {d : PyData} (g : Grown K H0 D ds G H acc) (s : Same H H') (hy : Dp K (cut H' D) y d) :
    Grown K H0 D (ds ++ [d]) (cut H' D) (upd H' D (.lst (acc ++ [y]))) (acc ++ [y]) :=
  ⟨upd_same, g.was.trans (cut_of (g.now.trans s) g.off), same_put cut_same cut_at, cut_at, dpA_app hy (dpA_same (cut_of (g.now.trans s) g.off) g.dat)⟩
theorem lc_valsL {K : Fr0} {a : Addr} {xs : List V} {g : TG} {te : TE} {vs : List Nat} {σ : L2.St} {H1 : Hp} {D : Addr} {Qd : Hp → Prop} (f : Nat → PyData) (hn : xs.length < 100000) (nD : H1 D = none) (hx : SqL K H1 a xs)
    (hs : ∀ (i : Nat) (x : V) (H : Hp) (Q' : VK), xs[i]? = some x → Same H1 H → (∃ l, H D = some (.lst l)) → (∀ y H4, Same H H4 → Dp K (cut H4 D) y (f i) → Q' y H4) → g x (wipe σ vs) H fun σ2 H2 => wipe σ2 vs = wipe σ vs ∧ te σ2 H2 Q')
    (hd : ∀ G H acc, Grown K H1 D ((List.range xs.length).map f) G H acc → Qd H) :
    ∃ W : Nat → Nat → Hp → Prop, (∃ m, W 0 m (upd H1 D (.lst []))) ∧ ∀ i m H, W i m H →
      ((Itl K a).stop i H ∧ Qd H) ∨ ((Itl K a).go i H ∧ ∃ Nx : Hp → Prop, (∀ H', Nx H' → ∃ m', m' < m ∧ W (i + 1) m' H') ∧ ∀ x H', (Itl K a).yld i H x H' → g x (wipe σ vs) H' fun σ2 H2 => wipe σ2 vs = wipe σ vs ∧ tYes σ2 H2 fun b H3 =>
        if b = true then te σ2 H3 fun y H4 => ∃ acc, H4 D = some (.lst acc) ∧ acc.length < sizeLine ∧ Nx (upd H4 D (.lst (acc ++ [y]))) else Nx H3) := by
  refine lc_list (xs := xs) (fun i H => ∃ G acc, Grown K H1 D ((List.range i).map f) G H acc) ⟨_, _, Grown.new nD⟩ (fun _ _ _ ⟨G, acc, q⟩ => sql_same q.same hx) ?_ (fun H ⟨G, acc, q⟩ => hd G H acc q)
  rintro i x H hi ⟨G, acc, q⟩
  have lt := (List.getElem?_eq_some_iff.mp hi).1
  refine hs i x _ _ hi q.same ⟨_, q.at_⟩ fun y H4 s4 d4 => ?_
  have len : acc.length = i := by rw [q.len]; simp
  refine ⟨acc, s4 _ _ q.at_, Nat.lt_of_lt_of_le (show acc.length < 100000 by omega) (by decide), cut H4 D, acc ++ [y], ?_⟩
  have z := q.stepL s4 d4
  rwa [show (List.range i).map f ++ [f i] = (List.range (i + 1)).map f by rw [List.range_succ, List.map_append]; rfl] at z
/-! ### readings of texts -/
section
variable {σ : L2.St} {H : Hp} {Q : VK} {te ta : TE}
theorem r_fmt (h : te σ H fun x H1 => (∃ y : Str, x = .str y ∧ y.length ≤ sizeLine ∧ Q (.str y) H1) ∨ ∃ i : Int, x = .int i ∧ i.natAbs.log2 < 1920 ∧ Q (.str (toString i)) H1) : tFmt te σ H Q := h
theorem r_js {t : TE} {ts : List TE} {acc : Str} {QS : Str → Hp → Prop} (h : t σ H fun x H1 => ∃ y : Str, x = .str y ∧ (acc ++ y).length ≤ sizeLine ∧ tJs ts (acc ++ y) σ H1 QS) : tJs (t :: ts) acc σ H QS := h
theorem r_js0 {acc : Str} {QS : Str → Hp → Prop} (h : QS acc H) : tJs [] acc σ H QS := h
theorem r_m1 {r : V → List V → Hp → VK → Prop} (h : te σ H fun x H1 => (∃ a, x = .str a) ∧ ta σ H1 fun y H2 => r x [y] H2 Q) : tM1 r te ta σ H Q := h
theorem r_neS {x y : Str} (q : Q (.bl (!decide (x = y))) H) : rNe (.str x) (.str y) H Q := ⟨rfl, by rw [show decide (V.str x = V.str y) = decide (x = y) from decide_eq_decide.mpr ⟨V.str.inj, congrArg _⟩]; exact q⟩
theorem r_eqS {x y : Str} (q : Q (.bl (decide (x = y))) H) : rEq (.str x) (.str y) H Q := ⟨rfl, by rw [show decide (V.str x = V.str y) = decide (x = y) from decide_eq_decide.mpr ⟨V.str.inj, congrArg _⟩]; exact q⟩
end
theorem dpA_strs_eq {K : Fr0} {H : Hp} : ∀ {l : List Str} {acc : List V}, DpAll K H acc (l.map .str) → acc = l.map V.str
  | [], _, h => by cases h; rfl
  | i :: l, _, h => by
    rw [List.map_cons] at h
    cases h with
    | cons h1 h2 =>
      cases h1
      rw [dpA_strs_eq h2]
      rfl
theorem dpA_strs {K : Fr0} {H : Hp} : ∀ l : List Str, DpAll K H (l.map V.str) (l.map .str)
  | [] => .nil
  | x :: l => .cons (.str x) (dpA_strs l)
theorem inV_strs (w : Str) : ∀ l : List Str, inV (.str w) (l.map V.str) = decide (w ∈ l)
  | [] => rfl
  | x :: l => by
    have ih := inV_strs w l
    unfold inV at ih ⊢
    rw [List.map_cons, List.any_cons, ih]
    have e : eqV (.str x) (.str w) = decide (x = w) := rfl
    rw [e]
    by_cases h1 : x = w
    · rw [decide_eq_true h1, Bool.true_or, decide_eq_true (by rw [h1]; exact List.mem_cons_self)]
    · rw [decide_eq_false h1, Bool.false_or]
      exact decide_eq_decide.mpr ⟨fun m => List.mem_cons_of_mem _ m, fun m => (List.mem_cons.mp m).resolve_left fun z => h1 z.symm⟩
theorem eqv_strs : ∀ xs ys : List Str, PyData.eqvAll (xs.map .str) (ys.map .str) = decide (xs = ys)
  | [], [] => by simp [PyData.eqvAll]
  | [], y :: ys => by simp [PyData.eqvAll]
  | x :: xs, [] => by simp [PyData.eqvAll]
  | x :: xs, y :: ys => by
    rw [List.map_cons, List.map_cons, PyData.eqvAll, PyData.eqv, eqv_strs xs ys]
    by_cases h1 : x = y
    · subst h1
      simp
    · rw [show (x == y) = false from beq_eq_false_iff_ne.mpr h1, Bool.false_and, decide_eq_false (fun z => h1 (List.cons.inj z).1)]
theorem r_mkO {C : Addr} {sp : Sp} {dvs : List V} {ta : TA} {σ : L2.St} {H : Hp} {Q : XK} (h : ta σ H fun vs H1 => vs.length ≤ 1000 ∧ ∀ a, H1 a = none → sp (.ref a :: (vs ++ dvs)) (upd H1 a (exo a C none))
  (fun v H2 => v = .non ∧ ∃ (d : Addr) (fs : List (Str × V)), H2 a = some (exo a C (some d)) ∧ H2 d = some (exd d fs) ∧ H1 d = none ∧ Q (.ref C) (some d) (upd (del H2 a) d (.xd fs))) (fun _ _ _ => False)) : tMkO C sp dvs ta σ H Q := h
theorem pi_listK {X : Cx} {K : Fr0} {tg e : Expr} {te : TE} (h : X.K = K) (he : PE X e te) : PI X tg e (iList K te) := h ▸ pi_list he
theorem r_enum {K : Fr0} {ta : TA} {σ : L2.St} {H : Hp} {R : It → Hp → Prop} (h : ta σ H fun vs H1 => ∃ a xs, vs = [.ref a] ∧ SqL K H1 a xs ∧ R (Ite K a) H1) : iEnum K ta σ H R := h
end Ab
/-! PART unlike: != of two instances whose class has an own == and no own !=. -/
namespace Ab
open PySem PySem.Spec PyProof.Rows L2
section
variable {M : Model} {prog : Program} {w : World} {A : Around} {E : Value → Shared → Prop} {s : Shared} {K : Fr0} {x C g : Addr} {ox : Obj} {od : Option Obj} {b : Value}
theorem bound_ne {ws : List Value} {Q : Option Value → Shared → Prop} (hin : K.In s.heap) (ia : PySem.W.InstAt s.heap x ox C od) (fd : PySem.W.findIn K (.ref C) "__ne__" = some (some (.builtin "object.__ne__")))
    (k : wpAny M A (call (.builtin "object.__ne__") (.ref x :: ws)) (fun v => Q (some v)) E s) : wpAny M A (callSpecialIfBound? (.ref x) "__ne__" ws) Q E s := by
  have last : wpAny M A (call (.builtin "object.__ne__") ([.ref x] ++ ws) >>= fun v => pure (some v)) Q E s := by
    refine wpAny_bind (wpAny_mono k ?_ ?_)
    · exact fun v s' z => wpAny_pure z
    · exact fun _ _ z => z
  unfold callSpecialIfBound? bindSpecialIfBound?
  refine wpAny_holding ?_
  refine wpAny_bind (wpAny_bind (wpAny_bind (ia.type.here ((PySem.W.looks_findIn hin fd).here ?_))))
  refine wpAny_bind ?_
  refine wpAny_askSetting (wpAny_ite ?_)
  split
  · refine wpAny_bind (wpAny_of_eq (F.cmp_object.ne.bind _) ?_)
    exact wpAny_pure (by exact last)
  · refine wpAny_tryCatch (wpAny_bind (wpAny_of_eq (F.cmp_object.ne.bind _) ?_))
    exact wpAny_pure (by exact last)
theorem body_ne {Q : Fin → Shared → Prop} (hu : A.units < cLine) (hin : K.In s.heap) (ia : PySem.W.InstAt s.heap x ox C od) (fd : PySem.W.findIn K (.ref C) "__eq__" = some (some (.ref g))) (hf : PySem.W.isFn K (.ref g) = true)
    (k : wpAny M A (call (.ref g) [.ref x, b]) (fun v s' => ∃ c, v = .bool c ∧ Q (.done (.ret (.bool (!c)))) s') E s) : wpAny M A (Builtin.«object.__ne__» ⟨[.ref x, b], []⟩) Q E s := by
  unfold Builtin.«object.__ne__»
  repeat (first
    | with_reducible refine wpAny_cRoomFor hu ?_
    | (refine wpAny_bind (m := callSpecialIfBound? (.ref x) (Str.ofString "__eq__") [b]) (PySem.W.ifBound_K hin ia fd hf (wpAny_mono k (fun v s' got => ?_) fun _ _ z => z))
       obtain ⟨c, rfl, fin⟩ := got
       repeat (first | exact fin | exact wpAny_pure fin | exact wpAny_truthy_bool fin | (refine wpAny_bind (m := truthy (.bool _)) (wpAny_truthy_bool ?_)) | wp_step))
    | wp_step)
theorem cmp_ne {Q : Value → Shared → Prop} (hu : A.units < cLine) (hu1 : A.in1.units < cLine) (hin : K.In s.heap) (ia : PySem.W.InstAt s.heap x ox C od) (hb : PySem.W.Looks (model prog w) s.heap (typeOf b) (.ref C)) (hm : PySem.W.mroIn K C (.type "object") = some true)
    (fn : PySem.W.findIn K (.ref C) "__ne__" = some (some (.builtin "object.__ne__"))) (fd : PySem.W.findIn K (.ref C) "__eq__" = some (some (.ref g))) (hf : PySem.W.isFn K (.ref g) = true)
    (k : wpAny (model prog w) A.in1 (call (.ref g) [.ref x, b]) (fun v s' => ∃ c, v = .bool c ∧ Q (.bool (!c)) s') E s) : wpAny (model prog w) A (richCompare .NotEq (.ref x) b) Q E s := by
  have one : wpAny (model prog w) A (tryCompare (.ref x) (cmpInfo .NotEq).2.1 b) (fun r s' => ∃ c, r = some (.bool c) ∧ Q (.bool c) s') E s := by
    unfold tryCompare
    refine wpAny_bind (bound_ne hin ia fn ?_)
    refine wpAny_call (codeAny_call_builtin F.cmp_object.ne.plain F.cmpEntry_ne (PySem.W.check_slot F.cmpKind_ne F.cmpSplit_ne (ia.type.andThen (PySem.W.looks_mroIn hin hm)) (F.cmpArgs_ne _ _) ?_))
    refine body_ne hu1 hin ia fd hf (wpAny_mono k (fun v s' got => ?_) fun _ _ z => z)
    obtain ⟨c, rfl, fin⟩ := got
    first
      | exact ⟨c, rfl, wpAny_pure ⟨_, rfl, fin⟩⟩
      | exact ⟨c, rfl, wpAny_pure (wpAny_pure ⟨_, rfl, fin⟩)⟩
      | exact ⟨c, rfl, ⟨_, rfl, fin⟩⟩
  unfold richCompare
  simp only [oneThing_ref]
  refine wpAny_holding (wpAny_bind (wpAny_cRoomFor hu ?_))
  refine wpAny_bind (ia.type.here ?_)
  refine wpAny_bind (hb.here ?_)
  split
  · rename_i z
    exfalso
    revert z
    simp
  · refine wpAny_bind (wpAny_pure ?_)
    simp only [Bool.false_eq_true, if_false]
    refine wpAny_bind (wpAny_mono one (fun r s' got => ?_) fun _ _ z => z)
    obtain ⟨c, rfl, fin⟩ := got
    first
      | exact wpAny_pure fin
      | exact wpAny_pure (wpAny_pure fin)
end
/-- x != y, two instances of the class; its own == answers True or False -/
def rNeI (K : Fr0) (C : Addr) (sp : Sp) (E : XK) : R2 := fun x y H Q => ∃ a dx fs a' dx' fs', x = .ref a ∧ y = .ref a' ∧ H a = some (.ins C dx fs) ∧ H a' = some (.ins C dx' fs') ∧ sp [x, y] H (fun v H' => ∃ c, v = .bl c ∧ Q (.bl (!c)) H') E
theorem op_neI {X : Cx} {CX : CXT} {k : Nat} {x : Str} {ps : List Str} {sp : Sp} {E : XK} (hm : Meth X.K (fA X.K x) "__eq__" (mA X.K x "__eq__")) (ob : PySem.W.mroIn X.K (fA X.K x) (.type "object") = some true)
    (fn : PySem.W.findIn X.K (.ref (fA X.K x)) "__ne__" = some (some (.builtin "object.__ne__"))) (G : OkM X.prog X.w X.K X.mg X.base CX k x "__eq__" ps sp) (hr : Room (k + 1) X.A) (hx : Passes CX X E) :
    OpR X (compareOp .NotEq) (rNeI X.K (fA X.K x) sp E) := by
  intro pins s σ H x1 y v u Q I rx ry h
  obtain ⟨a, dx, fs, a', dx', fs', rfl, rfl, ha, ha', q⟩ := h
  cases (show v = Value.ref a from rx)
  cases (show u = Value.ref a' from ry)
  obtain ⟨mA1, O, _⟩ := ins_get I.hok ha
  obtain ⟨od, J, _⟩ := O.look
  obtain ⟨mA2, O2, _⟩ := ins_get I.hok ha'
  obtain ⟨od2, J2, _⟩ := O2.look
  obtain ⟨fd, F, b⟩ := G.fn
  have len : ([Value.ref a, .ref a']).length = ps.length := F.len _ _ _ _ q
  have bd := b s [Value.ref a, .ref a'] I.kIn (by rw [List.append_nil]; exact len)
  rw [List.append_nil] at bd
  show wpAny _ _ (richCompare .NotEq (.ref a) (.ref a')) _ _ _
  refine cmp_ne hr.units0 hr.in1.units0 I.kIn J J2.type ob fn hm.at_ hm.fn (wpAny_call ?_)
  refine codeAny_mono (F.run X.A.in1 X.stack s H ⟨[.ref a, .ref a'], []⟩ _ [V.ref a, V.ref a'] _ E hr.in1 I.env0.in1 bd (.cons (show RelV (V.ref a) (Value.ref a) from rfl) (.cons (show RelV (V.ref a') (Value.ref a') from rfl) .nil)) q) fun out s' done => ?_
  cases out with
  | error er => exact hx pins σ H s er s' I done
  | ok fl =>
    cases fl with
    | next => exact done.elim
    | brk => exact done.elim
    | cont => exact done.elim
    | ret z =>
      obtain ⟨v, H', I2, rel, c, rfl, fin⟩ := I.after done
      cases (show z = Value.bool c from rel)
      exact ⟨c, rfl, .bl (!c), H', I2, (show RelV (V.bl (!c)) (Value.bool (!c)) from rfl), fin⟩
/-! ### the row, its script told -/
def RowS (K : Fr0) (H : Hp) (r s : Addr) (ns : List Int) : Prop := ∃ (p : Nat) (m c : Int), H r = some (.lst [.ref s, .int p, .int m, .int c]) ∧ SqL K H s (ns.map V.int) ∧ Off K s r (ns.map V.int)
theorem RowS.row {K : Fr0} {H : Hp} {r s : Addr} {ns : List Int} (h : RowS K H r s ns) : RowAt K H r := ⟨s, ns, h⟩
theorem RowS.same {K : Fr0} {H H' : Hp} {r s : Addr} {ns : List Int} (k : Same H H') (h : RowS K H r s ns) : RowS K H' r s ns := by
  obtain ⟨p, m, c, h1, h2, h3⟩ := h
  exact ⟨p, m, c, k _ _ h1, sql_same k h2, h3⟩
theorem RowS.mk' {K : Fr0} {H H' : Hp} {r s : Addr} {ns : List Int} {p : Nat} {m c : Int} (h1 : H' r = some (.lst [.ref s, .int p, .int m, .int c])) (g : Chg r H H') (h2 : SqL K H s (ns.map V.int)) (h3 : Off K s r (ns.map V.int)) : RowS K H' r s ns :=
  ⟨p, m, c, h1, sql_off g h3 h2, h3⟩
theorem RowS.lst {K : Fr0} {H : Hp} {r s : Addr} {ns : List Int} (h : RowS K H r s ns) : ∃ l, H r = some (.lst l) := h.row.lst
/-- a list is changed at D -/
theorem RowS.put {K : Fr0} {H H' : Hp} {r s D : Addr} {ns : List Int} (h : RowS K H r s ns) (n : r ≠ D) (off : Off K s D (ns.map V.int)) (c : Chg D H H') : RowS K H' r s ns := by
  obtain ⟨p, m, z, h1, h2, h3⟩ := h
  exact ⟨p, m, z, c.kp _ _ n h1, sql_off c off h2, h3⟩
theorem RowS.off {K : Fr0} {H : Hp} {r s D : Addr} {ns : List Int} (h : RowS K H r s ns) (n : H D = none) : r ≠ D ∧ Off K s D (ns.map V.int) := by
  obtain ⟨p, m, z, h1, h2, h3⟩ := h
  exact ⟨ne_of_none h1 n, .of n h2⟩
def spTakenS (K : Fr0) : Sp := fun vs H Q _ => ∃ (r : Addr) (m : Nat) (s : Addr) (ns : List Int), vs = [.ref r, .int m] ∧ RowS K H r s ns ∧ 0 < m ∧ m < 1073741824 ∧
  ∀ (d : Nat) (H' : Hp), d < m → Chg r H H' → RowS K H' r s ns → Q (.int d) H'
theorem c_takenS {K : Fr0} {H : Hp} {r s : Addr} {ns : List Int} {m : Nat} {Q : VK} {E : XK} (h : RowS K H r s ns) (h0 : 0 < m) (h1 : m < 1073741824) (k : ∀ (d : Nat) (H' : Hp), d < m → Chg r H H' → RowS K H' r s ns → Q (.int d) H') :
    spTakenS K ([.ref r, .int m] ++ []) H Q E := ⟨r, m, s, ns, rfl, h, h0, h1, k⟩
theorem chg_put {r D : Addr} {H H' : Hp} {o : HO} (c : Chg r H H') (n : H D = none) : Chg r H (upd H' D o) := ⟨c.was, fun b u nb e => by
  rw [upd_ne (ne_of_none e n)]
  exact c.kp b u nb e⟩
theorem r_yes {σ : L2.St} {H : Hp} {QT : Bool → Hp → Prop} (h : QT true H) : tYes σ H QT := h
theorem pe_joinK {X : Cx} {K : Fr0} {o e : Expr} {to te : TE} {apos pos : Pos} (h : X.K = K) (ho : PE X o to) (he : PE X e te) (hs : starEach [e] X.env = [(false, eval e X.env)] := by rfl) (hbase : attributeBase o "join" X.env (eval o X.env) = eval o X.env := by rfl) (hline : (apos.endLine == pos.line) = true := by rfl) :
    PE X (.Call (.Attribute o "join" apos) [e] [] pos) (tM1 (fun x xs H Q => ∃ a p, ∃ ys : List Str, x = .str a ∧ xs = [.ref p] ∧ (SqL K H p (ys.map V.str) ∨ SqT K H p (ys.map V.str)) ∧
      (ys.map (·.length)).sum + ys.length * a.length ≤ 16777216 ∧ Q (.str (Txt.join a ys)) H) to te) := by
  subst h
  exact pe_join ho he hs hbase hline
theorem r_orT {K : Fr0} {ta tb : TE} {σ : L2.St} {H : Hp} {Q : VK} (h : ta σ H fun x H1 => ∃ k, TruV K x H1 k ∧ if k = true then Q x H1 else tb σ H1 Q) : tOrT K ta tb σ H Q := h
/-! ### parts of lists -/
def cutL {α : Type} (xs : List α) (n : Nat) (lo hi : Option Int) : List α := (xs.drop (HT.sIx n 0 lo)).take (HT.sIx n n hi - HT.sIx n 0 lo)
theorem cut_dp {K : Fr0} {H : Hp} {vs : List V} {ds : List PyData} (lo hi : Option Int) (h : DpAll K H vs ds) : DpAll K H (cutV vs lo hi) (cutL ds ds.length lo hi) := by
  unfold cutV cutL
  rw [dpA_len h]
  have d : ∀ (n : Nat) {vs : List V} {ds : List PyData}, DpAll K H vs ds → DpAll K H (vs.drop n) (ds.drop n) := by
    intro n
    induction n with
    | zero => intro vs ds h; exact h
    | succ n ih =>
      intro vs ds h
      cases h with
      | nil => exact .nil
      | cons a b => exact ih b
  have t : ∀ (n : Nat) {vs : List V} {ds : List PyData}, DpAll K H vs ds → DpAll K H (vs.take n) (ds.take n) := by
    intro n
    induction n with
    | zero => intro vs ds h; exact .nil
    | succ n ih =>
      intro vs ds h
      cases h with
      | nil => exact .nil
      | cons a b => exact .cons a (ih b)
  exact t _ (d _ h)
theorem cutL_map {α β : Type} (f : α → β) (xs : List α) (n : Nat) (lo hi : Option Int) : cutL (xs.map f) n lo hi = (cutL xs n lo hi).map f := by
  unfold cutL
  rw [← List.map_drop, ← List.map_take]
theorem cutV_map {α : Type} (f : α → V) (xs : List α) (lo hi : Option Int) : cutV (xs.map f) lo hi = (cutL xs xs.length lo hi).map f := by
  rw [← cutL_map]
  unfold cutV cutL
  rw [List.length_map]
theorem cutL_mem {α : Type} {xs : List α} {n : Nat} {lo hi : Option Int} {x : α} (h : x ∈ cutL xs n lo hi) : x ∈ xs := List.mem_of_mem_drop (List.mem_of_mem_take h)
theorem cutL_len {α : Type} (xs : List α) (n : Nat) (lo hi : Option Int) : (cutL xs n lo hi).length ≤ xs.length := by
  unfold cutL
  rw [List.length_take, List.length_drop]
  omega
theorem r_sl {K : Fr0} {a : Addr} {xs : List V} {lo hi : Option Int} {H : Hp} {Q : VK} (h : SqL K H a xs) (q : ∀ p, H p = none → Q (.ref p) (upd H p (.lst (cutV xs lo hi)))) : rSlL K (.ref a) lo hi H Q := ⟨a, xs, rfl, h, q⟩
end Ab
/-! PART errors without fields; methods that may raise; len of an instance. -/
namespace Ab
open PySem PySem.Spec PyProof.Rows L2
section
variable {X : Cx} {x : Str} {C : Addr} {p pos : Pos}
/-- what the making of an error asks whose __init__ stores nothing -/
def tMkN (C : Addr) (sp : Sp) : L2.St → Hp → XK → Prop := fun σ H Q => ∀ a, H a = none → sp [.ref a] (upd H a (exo a C none)) (fun v H2 => v = .non ∧ H2 a = some (exo a C none) ∧ Q (.ref C) none (del H2 a)) (fun _ _ _ => False)
theorem fin_none {pins : List (Addr × Obj)} {σ : L2.St} {J1 J2 : Hp} {ha hb hc : Heap} {ga gb : Array GenState} {da db : Drawn} {ta tb : Nat} {oa ob : OsState} {a : Addr} (I : Inv X pins σ J1 ⟨ha, ga, da, ta, oa⟩)
    (big : ha.objs.size ≤ a) (grow : ∀ b o, ha.get? b = some o → hb.get? b = some o) (un : Un (frs X.stack) [] (upd J1 a (exo a C none)) J2 hb hc) (ok : HOk X.prog X.w J2 hc) (eo : ob = oa) (bare : AllBare gb) (ea : J2 a = some (exo a C none)) :
    ∃ (q0 : Addr) (G : Heap), Inv X pins σ (del J2 a) ⟨G, gb, db, tb, ob⟩ ∧ (∀ b o, G.get? b = some o → hc.get? b = some o) ∧ G.get? a = none ∧
      hc.get? a = some ({ cls := .ref C, dict := none, data := .fields #[.ref q0, .none, .none, .none, .bool false, .none] } : Obj) := by
  obtain ⟨q0, at_⟩ := exo_at ok ea
  have free : J1 a = none := I.hok.fresh big
  obtain ⟨G, same, gone⟩ := restrict hc fun b => decide (b ≠ a)
  have sg : ∀ b, b ≠ a → G.get? b = hc.get? b := fun b n => same b (decide_eq_true n)
  have ga0 : G.get? a = none := gone a (by simp)
  have old : ∀ {b : Addr} {o : Obj}, ha.get? b = some o → b ≠ a := fun {b o} e => Nat.ne_of_lt (Nat.lt_of_lt_of_le (Heap.lt_size e) big)
  have put : ∀ {b : Addr}, b ≠ a → J1 b = none → upd J1 a (exo a C none) b = none := fun {b} n e => by rw [upd_ne n, e]
  have put2 : ∀ {b : Addr} {o : HO}, J1 b = some o → upd J1 a (exo a C none) b = some o := fun {b o} e => by rw [upd_ne (ne_of_none e free), e]
  have U : Un (frs X.stack) [] J1 (del J2 a) ha G := by
    constructor
    case keep =>
      intro b o e n f h
      rw [sg b (old e)]
      exact un.keep b o (grow b o e) (put (old e) n) f h
    case slot =>
      intro b o e n f h
      rw [sg b (old e)]
      exact un.slot b o (grow b o e) (put (old e) n) f h
    case free =>
      intro b o e n h
      rw [del_ne (old e)]
      exact un.free b o (grow b o e) (put (old e) n) h
    case there =>
      intro b o e h
      rw [sg b (old e)]
      exact un.there b o (grow b o e) h
    case tups =>
      intro b xs e
      rw [del_ne (ne_of_none e free)]
      exact un.tups b xs (put2 e)
    case frzs =>
      intro b o v e
      rw [del_ne (ne_of_none e free)]
      exact un.frzs b o v (put2 e)
    case tbls =>
      intro b ps e
      rw [del_ne (ne_of_none e free)]
      exact un.tbls b ps (put2 e)
  have fine : HOk X.prog X.w (del J2 a) G := by
    intro b o e
    have nb : b ≠ a := by
      intro z
      rw [z, del_same] at e
      cases e
    rw [del_ne nb] at e
    have nown : ∀ {c : Addr}, J2 c = some (.own b) → c ≠ a := fun {c} h => at_ne ea h exo_own
    refine (ok b o e).stay (fun c v h y => ?_) (fun c h => ?_) (fun c xs h => ?_)
    · have nc : c ≠ a := h.elim (fun z => by rw [z]; exact nb) fun z => nown z
      rw [sg c nc]
      exact y
    · rw [del_ne (nown h)]
      exact h
    · rw [del_ne (at_ne ea h exo_tup)]
      exact h
  refine ⟨q0, G, I.call' (ch := []) eo U fine bare (fun b z => absurd z (by simp)), fun b o e => ?_, ga0, at_⟩
  by_cases z : b = a
  · rw [z, ga0] at e
    cases e
  · rw [← sg b z]
    exact e
theorem pmk_oexN {CX : CXT} {fi : Addr} {k : Nat} {fd : FuncData} {ps : List Str} {sp : Sp} (T : OexC X.K C) (ini : PySem.W.findIn X.K (.ref C) "__init__" = some (some (.ref fi))) (tin : PySem.W.typeIn X.K (.ref fi) = some (.type "function"))
    (F1 : FnOk X.prog X.w X.K X.mg X.base CX k fi fd ps sp) (hr : Room (k + 1) X.A) (hb : Binds X.K fd ps []) (hx : Passes CX X (fun _ _ _ => False)) (hg : Gl X x) (hm : X.mg x = some (.ref C)) (hdb : (x == ("__debug__" : Str)) = false := by decide) :
    PMk X (.Call (.Name x p) [] [] pos) (tMkN C sp) := by
  intro pins s σ H Q I h
  obtain ⟨nm, qn, N, bs, bm, sn, sub, ab, col, dd, k0, k1, k2, k3, k5, cls, ve⟩ := T.cls
  refine wpAny_Call_Name_kw (ld_glob I hg hm ?_ hdb)
  refine PySem.W.callWith_K0 I.kIn T.kC ?_
  show wpAny _ _ (call (.ref C) []) _ _ _
  obtain ⟨ha, ga, da, ta, oa⟩ := s
  have big : ha.objs.size ≤ ha.objs.size + 1 := Nat.le_succ _
  have q0 := h (ha.objs.size + 1) (I.hok.fresh big)
  have grow : ∀ b o, ha.get? b = some o → ((ha.push (PySem.W.kdv_tup [])).push (PySem.HandSPX.excO C ha.objs.size)).get? b = some o := fun b o e => Heap.get?_push_of_some _ (Heap.get?_push_of_some _ e)
  have got : ((ha.push (PySem.W.kdv_tup [])).push (PySem.HandSPX.excO C ha.objs.size)).get? (ha.objs.size + 1) = some (PySem.HandSPX.excO C ha.objs.size) := by heap_get
  have J : Inv X pins σ (upd H (ha.objs.size + 1) (exo (ha.objs.size + 1) C none)) ⟨(ha.push (PySem.W.kdv_tup [])).push (PySem.HandSPX.excO C ha.objs.size), ga, da, ta, oa⟩ := I.laid (t' := ta) (a := ha.objs.size + 1) grow big (exo_ok got)
  have rv : Vals [V.ref (ha.objs.size + 1)] [Value.ref (ha.objs.size + 1)] := .cons (show RelV (V.ref (ha.objs.size + 1)) (Value.ref (ha.objs.size + 1)) from rfl) .nil
  have len : [Value.ref (ha.objs.size + 1)].length = ps.length := rv.length.symm.trans (F1.len _ _ _ _ q0)
  have bd := hb _ [Value.ref (ha.objs.size + 1)] J.kIn (by rw [List.append_nil]; exact len)
  rw [List.append_nil] at bd
  refine wpAny_call (PySem.HandSPX.call_own F.excBase_ValueError (fun Y => PySem.HandSPX.refsVE_contains Y bm ve) (I.kIn _ _ cls) (PySem.W.looks_findIn I.kIn ini) (fun self => PySem.W.bind_fn I.kIn self tin) (Nat.zero_le _) ?_)
  refine codeAny_mono (F1.run _ X.stack _ _ ⟨[Value.ref (ha.objs.size + 1)], []⟩ _ _ _ (fun _ _ _ => False) (hr.make C [] []) (J.env0.make C [] []) bd rv q0) fun out s' done => ?_
  cases out with
  | error er => exact hx pins σ _ _ er s' J done
  | ok fl =>
    cases fl with
    | next => exact done.elim
    | brk => exact done.elim
    | cont => exact done.elim
    | ret u =>
      obtain ⟨v, H2, eo, bare, un, ok, rel, rfl, ea, fin⟩ := done
      obtain ⟨hc, gb, db, tb, ob⟩ := s'
      obtain ⟨q1, G, IG, kG, ga0, at_⟩ := fin_none (db := db) (tb := tb) I big grow un ok eo bare ea
      exact ⟨rel, ha.objs.size + 1, _, _, ⟨G, gb, db, tb, ob⟩, _, .ref C, none, rfl, IG, kG, ga0, at_, ⟨rfl, rfl⟩, rfl, rfl, del_same, rfl, bare, raises_own T.exC T.tyC, fin⟩
end
section
variable {X : Cx} {CX : CXT} {k : Nat} {x : Str} {ps fs : List Str} {sp : Sp} {p pos : Pos}
/-- x(), an error with an __init__ of its own that stores nothing -/
theorem pmk_x0 (T : ExcF X.K x fs) (hm : X.mg x = some (.ref (fA X.K x))) (G : OkM X.prog X.w X.K X.mg X.base CX k x "__init__" ps sp) (hr : Room (k + 1) X.A) (hx : Passes CX X E0) (hg : Gl X x := by rfl) (hdb : (x == ("__debug__" : Str)) = false := by decide) :
    PMk X (.Call (.Name x p) [] [] pos) (tMkN (fA X.K x) sp) := by
  obtain ⟨fd, F, b⟩ := G.fn
  exact pmk_oexN T.o T.ini T.tin F hr b hx hg hm hdb
end
def spI0 (K : Fr0) (x : Str) : Sp := fun vs H Q _ => ∃ a : Addr, vs = [.ref a] ∧ H a = some (exo a (fA K x) none) ∧ Q .non H
def Raised0 (K : Fr0) (x : Str) (H : Hp) (E : XK) : Prop := ∀ H', Same H H' → E (.ref (fA K x)) none H'
theorem r_mk0 {K : Fr0} {x : Str} {σ : L2.St} {H : Hp} {C : Addr} (hC : C = fA K x) {Q : XK} (h : ∀ H', Same H H' → Q (.ref C) none H') : tMkN C (spI0 K x) σ H Q := by
  subst hC
  intro a na
  refine ⟨a, rfl, upd_same, rfl, upd_same, h _ fun b o e => ?_⟩
  have n := ne_of_none e na
  rw [del_ne n, upd_ne n]
  exact e
end Ab
/-! PART methods that may raise. -/
namespace Ab
open PySem PySem.Spec PyProof.Rows L2
/-- o.m(e, ..); what is let out is wished for at the slots -/
def tMethP (C : Addr) (m : Str) (sp : Sp) (E : L2.St → XK) (te : TE) (t : TA) : TE := fun σ H Q => te σ H fun x H1 => ∃ a dx fs, x = .ref a ∧ H1 a = some (.ins C dx fs) ∧ fs.lookup m = none ∧ t σ H1 fun vs H2 => sp (x :: (vs ++ [])) H2 Q (E σ)
section
variable {X : Cx} {k : Nat} {m : Str} {ps : List Str} {sp : Sp} {p apos pos : Pos} {o e : Expr} {es : List Expr} {te : TE} {ta : TA} {W : WX}
theorem pe_mS {pl : Sem Bool} {C : Str} (ho : PE X o te) (c : Cls X.K (fA X.K C)) (hm : Meth X.K (fA X.K C) m (mA X.K C m)) (G : OkM X.prog X.w X.K X.mg X.base (L2.CX X.prog X.w) k C m ps sp) (hr : Room k X.A) (tk : Takes X W) (ha : PA X (e :: es) ta)
    (hst : starEach (e :: es) X.env = (false, eval e X.env) :: starEach es X.env := by rfl) (hpl : (backTo pos (starEach es X.env)).any (·.1) = false := by rfl)
    (ht : eval (.Call (.Attribute o m apos) (e :: es) [] pos) X.env = (do
      let ov ← eval o X.env
      standAt apos.atName
      let (f, first) ← holding [ov] (getMethod ov m pl)
      callWith pos f first (backTo pos (starEach (e :: es) X.env)) (backToKw pos (keywordEach [] X.env))) := by rfl) :
    PE X (.Call (.Attribute o m apos) (e :: es) [] pos) (tMethP (fA X.K C) m sp (WE W) te ta) := by
  obtain ⟨fd, F1, b⟩ := G.fn
  refine ⟨fun pins s σ H Q I h => ?_⟩
  refine PySem.W.methodCall_KW (pl := pl) (thn (ho.run pins s σ H _ I h) fun u s1 ⟨x, H1, I1, rx, a, dx, fs, ex, ea, l, q⟩ => ?_) ht
  subst ex
  obtain rfl : u = Value.ref a := rx
  refine getmeth_ok I1 ea c hm l ?_
  refine PySem.W.callWith_K (first := [.ref a]) (h₀ := X.base) I.ok.mod.kin hm.kp (thn (ha.run pos pins s1 σ H1 _ I1 q) fun us s2 ⟨vs, H2, I2, r, q2⟩ => ⟨I2.kIn, ?_⟩) hst hpl
  exact run_fnSD (us := .ref a :: us) (vs := .ref a :: vs) (E := WE W) (σ := σ) F1 hr b .nil (passAt tk σ) I2 (.cons rfl r) q2
end
section
variable {C : Addr} {m : Str} {sp : Sp} {dvs : List V} {E1 : XK} {E : L2.St → XK} {te : TE} {t : TA} {σ : L2.St} {H : Hp} {Q : VK}
theorem r_methP (h : te σ H fun x H1 => ∃ a dx fs, x = .ref a ∧ H1 a = some (.ins C dx fs) ∧ fs.lookup m = none ∧ t σ H1 fun vs H2 => sp (x :: (vs ++ [])) H2 Q (E σ)) : tMethP C m sp E te t σ H Q := h
theorem r_meth (h : te σ H fun x H1 => ∃ a dx fs, x = .ref a ∧ H1 a = some (.ins C dx fs) ∧ fs.lookup m = none ∧ t σ H1 fun vs H2 => sp (x :: (vs ++ dvs)) H2 Q E1) : tMeth C m sp dvs E1 te t σ H Q := h
end
end Ab
/-! PART filters, len of an own instance, sets of whole numbers counted. -/
namespace Ab
open PySem PySem.Spec PyProof.Rows L2
/-! ### len(o) by an own __len__ -/
def rLenO (C : Addr) (sp : Sp) (E : XK) : List V → Hp → VK → Prop := fun xs H Q => ∃ a dx fs, xs = [.ref a] ∧ H a = some (.ins C dx fs) ∧ sp [.ref a] H (fun v H' => ∃ n : Nat, v = .int n ∧ n < 100000 ∧ Q (.int n) H') E
theorem call_lenO {X : Cx} {CX : CXT} {k : Nat} {x : Str} {ps : List Str} {sp : Sp} {E : XK} (hm : Meth X.K (fA X.K x) "__len__" (mA X.K x "__len__")) (G : OkM X.prog X.w X.K X.mg X.base CX k x "__len__" ps sp) (hr : Room (k + 1) X.A) (hx : Passes CX X E) :
    CallR X (.builtin "len") (rLenO (fA X.K x) sp E) := by
  intro pins s σ H xs us Q I r h
  obtain ⟨a, dx, fs, rfl, ha, q⟩ := h
  obtain ⟨u, rfl, ru⟩ := vals1 r
  cases (show u = Value.ref a from ru)
  obtain ⟨mA1, O, _⟩ := ins_get I.hok ha
  obtain ⟨od, J, _⟩ := O.look
  obtain ⟨fd, F, b⟩ := G.fn
  obtain ⟨mm, hF⟩ := I.fr
  have len : ([Value.ref a]).length = ps.length := F.len _ _ _ _ q
  have bd := b s [Value.ref a] I.kIn (by rw [List.append_nil]; exact len)
  rw [List.append_nil] at bd
  refine PySem.W.len_K hF I.ok.mod.kin J hm.at_ hm.fn (wpAny_call ?_)
  refine codeAny_mono (F.run X.A.in1 X.stack s H ⟨[.ref a], []⟩ _ [V.ref a] _ E hr.in1 I.env0.in1 bd (.cons (show RelV (V.ref a) (Value.ref a) from rfl) .nil) q) fun out s' done => ?_
  cases out with
  | error er => exact hx pins σ H s er s' I done
  | ok fl =>
    cases fl with
    | next => exact done.elim
    | brk => exact done.elim
    | cont => exact done.elim
    | ret z =>
      obtain ⟨v, H', I2, rel, n, rfl, lt, fin⟩ := I.after done
      obtain ⟨t, rfl⟩ := (show ∃ t, z = Value.int n t from rel)
      exact ⟨⟨by omega, by omega⟩, .int n, H', I2.tok _, ⟨_, rfl⟩, fin⟩
/-! ### len(set(list of whole numbers)) -/
def dedup (ns : List Int) : List Int := ns.foldl step_dedup []
theorem firstMet_all (ns : List Int) : PyProof.Rows.firstMet (fun i => ns.getD i 0) ns.length = dedup ns := by
  unfold PyProof.Rows.firstMet dedup
  congr 1
  apply List.ext_getElem?
  intro i
  by_cases hi : i < ns.length
  · simp [hi]
  · simp [hi]
def tLenSetG (K : Fr0) (ta : TE) : TE := fun σ H Q => ta σ H fun x H1 => ∃ (l : Addr) (ns : List Int), x = .ref l ∧ SqL K H1 l (ns.map V.int) ∧ ns.length ≤ 4000 ∧ Q (.int ((dedup ns).length : Nat)) H1
theorem pe_lenSetG {X : Cx} {a : Expr} {ta : TE} {p p2 q pos : Pos} (hg : Gl X "len") (hm : X.mg "len" = none) (hg2 : Gl X "set") (hm2 : X.mg "set" = none) (ha : PE X a ta) (hc : X.calm = true := by rfl)
    (na : starEach [a] X.env = (false, eval a X.env) :: starEach [] X.env := by rfl) : PE X (.Call (.Name "len" p) [.Call (.Name "set" p2) [a] [] q] [] pos) (tLenSetG X.K ta) := by
  constructor
  intro pins s σ H Q I h
  refine Call_ (ld_blt I hg hm boot_len (PyProof.Rows.callWith_builtin1 (PyProof.Rows.args_cons (Call_ (ld_blt I hg2 hm2 boot_set ?_)) rfl) rfl rfl))
  refine PyProof.Rows.callWith_type1 (PyProof.Rows.args_cons (thn (ha.run pins s σ H _ I h) fun v s1 got => PyProof.Rows.args_nil ?_) na) na rfl
  obtain ⟨x, H1, I1, r1, l, ns, rfl, hq, hl, fin⟩ := got
  cases r1
  obtain ⟨its, r, pl, _⟩ := I1.list hq
  have sz : its.toArray.size = ns.length := by rw [List.size_toArray, ← r.length, List.length_map]
  refine call_set_list (I1.ok.hd hc) pl.isList (by simpa using RZ.intsAre_vals r) (by rw [sz]; unfold scanBound; omega) fun h' tk hS hk => PyProof.Rows.args_nil ?_
  rw [sz, firstMet_all] at hS
  obtain ⟨o, es, ep, t, ho, hex, hd, _, _, _, hf, hn⟩ := hS
  have I2 : Inv X pins σ H1 { s1 with heap := h', toks := tk } := I1.kept fun b o e => hk b o (Heap.lt_size e) e
  have le : (dedup ns).length ≤ ns.length := by
    rw [← firstMet_all]
    exact PyProof.Rows.firstMet_length_le _ _
  exact call_len_set ho hex hd hf (by rw [hn] <;> omega) ⟨.int ((dedup ns).length : Nat), H1, I2.tok _, ⟨_, by rw [hn]⟩, fin⟩
/-! ### a comprehension with a test over whole numbers -/
abbrev natsV (l : List Nat) : List V := l.map fun x : Nat => V.int (x : Int)
theorem lc_filt {J : It} {n : Nat} {G : Hp → Prop} {Y : Nat → Hp → V → Hp → Prop} (w : Walk J n G Y) {g : TG} {tt : TT} {te : TE} {vs : List Nat} {σ : L2.St} {H1 : Hp} {D : Addr} {Qd : Hp → Prop} (es : List Nat) (p : Nat → Bool) (ln : es.length = n) (hn : n < 100000) (nD : H1 D = none)
    (hG : ∀ H, Same H1 H → G H) (hy : ∀ i H x H', Same H1 H → Y i H x H' → H' = H ∧ ∀ e : Nat, es[i]? = some e → x = .int e)
    (hs : ∀ (e : Nat) (H : Hp) (A : Hp → Prop) (B : V → Hp → Prop), e ∈ es → Same H1 H → (p e = false → A H) → (p e = true → B (.int e) H) → g (.int e) (wipe σ vs) H fun σ2 H2 => wipe σ2 vs = wipe σ vs ∧ tt σ2 H2 fun b H3 => if b = true then te σ2 H3 B else A H3)
    (hd : ∀ H, Same H1 H → H D = some (.lst (natsV (es.filter p))) → Qd H) :
    ∃ W : Nat → Nat → Hp → Prop, (∃ m, W 0 m (upd H1 D (.lst []))) ∧ ∀ i m H, W i m H →
      (J.stop i H ∧ Qd H) ∨ (J.go i H ∧ ∃ Nx : Hp → Prop, (∀ H', Nx H' → ∃ m', m' < m ∧ W (i + 1) m' H') ∧ ∀ x H', J.yld i H x H' → g x (wipe σ vs) H' fun σ2 H2 => wipe σ2 vs = wipe σ vs ∧ tt σ2 H2 fun b H3 =>
        if b = true then te σ2 H3 fun y H4 => ∃ acc, H4 D = some (.lst acc) ∧ acc.length < sizeLine ∧ Nx (upd H4 D (.lst (acc ++ [y]))) else Nx H3) := by
  refine lc_it w (fun i H => Same H1 H ∧ H D = some (.lst (natsV ((es.take i).filter p)))) ⟨same_new nD, by rw [List.take_zero]; exact upd_same⟩ (fun _ H _ ⟨s, _⟩ => hG H s) ?_ ?_
  · rintro i x H H' hi ⟨s, e⟩ y
    have hi2 : i < es.length := by omega
    obtain ⟨rfl, hx⟩ := hy i H x H' s y
    have e0 : es[i]? = some es[i] := List.getElem?_eq_getElem hi2
    obtain rfl := hx _ e0
    have tk : es.take (i + 1) = es.take i ++ [es[i]] := List.take_succ_eq_append_getElem hi2
    have mem : es[i] ∈ es := List.getElem_mem hi2
    generalize es[i] = c at tk mem
    refine hs c H' _ _ mem s (fun z => ⟨s, ?_⟩) (fun z => ⟨_, e, ?_, same_put s nD, ?_⟩)
    · rw [tk, List.filter_append, show [c].filter p = [] by rw [List.filter_cons, z]; rfl, List.append_nil]
      exact e
    · rw [List.length_map]
      refine Nat.lt_of_le_of_lt (List.length_filter_le _ _) ?_
      rw [List.length_take]
      exact Nat.lt_of_lt_of_le (show _ < 100000 by omega) (by decide)
    · rw [tk, List.filter_append, show [c].filter p = [c] by rw [List.filter_cons, z]; rfl]
      unfold natsV
      rw [List.map_append]
      exact upd_same
  · rintro H ⟨s, e⟩
    rw [← ln, List.take_length] at e
    exact hd H s e
theorem y_nats {es : List Nat} {H1 : Hp} : ∀ i H x H', Same H1 H → YAt (natsV es) i H x H' → H' = H ∧ ∀ e : Nat, es[i]? = some e → x = .int e := fun i H x H' _ y => ⟨y.1, fun e he => by
  have z := y.2
  unfold natsV at z
  rw [List.getElem?_map, he] at z
  exact (Option.some.inj z).symm⟩
theorem y_range {lo m : Nat} {H1 : Hp} : ∀ i H x H', Same H1 H → YFn (fun i => V.int ((lo : Int) + (i : Nat))) i H x H' → H' = H ∧ ∀ e : Nat, (List.range' lo m)[i]? = some e → x = .int e := fun i H x H' _ y => ⟨y.1, fun e he => by
  obtain ⟨hi, z⟩ := List.getElem?_eq_some_iff.mp he
  rw [List.getElem_range'] at z
  rw [y.2, ← z]
  congr 1
  omega⟩
/-- is a number among numbers -/
theorem inV_nats {e : Nat} {l : List Nat} : inV (.int (e : Int)) (natsV l) = decide (e ∈ l) := by
  induction l with
  | nil => rfl
  | cons a l ih =>
    unfold inV natsV at ih ⊢
    rw [List.map_cons, List.any_cons, ih]
    by_cases h : e = a
    · subst h
      simp [eqV]
    · have h2 : ¬ ((e : Int) = (a : Int)) := by omega
      simp [eqV, h]
      omega
theorem flat_nats (l : List Nat) : (natsV l).all flatV = true := by
  rw [List.all_eq_true]
  intro x hx
  obtain ⟨n, _, rfl⟩ := List.mem_map.mp hx
  rfl
/-- tuple + tuple, the second not empty -/
theorem r_catN {K : Fr0} {H : Hp} {a b : Addr} {xs ys : List V} {Q : VK} (ha : H a = some (.tup xs)) (hb : H b = some (.tup ys)) (ne : ys ≠ []) (hl : xs.length + ys.length < 100000) (q : ∀ p H', Same H H' → H' p = some (.tup (xs ++ ys)) → Q (.ref p) H') :
    rCatA K (.ref a) (.ref b) H Q :=
  ⟨a, b, xs, ys, rfl, rfl, SqT.of ha, SqT.of hb, Nat.le_of_lt (Nat.lt_of_lt_of_le hl (by decide)), fun z => q b H (Same.refl _) (by rw [z]; exact hb), fun _ z => absurd z ne, fun _ _ p np => q p _ (same_new np) upd_same⟩
theorem sqt_len {K : Fr0} {H : Hp} {a : Addr} {xs : List V} (h : H a = some (.tup xs)) : SqT K H a xs := SqT.of h
end Ab
/-! PART truth values subtracted. -/
namespace Ab
open PySem PySem.Spec PyProof.Rows L2
def bI (b : Bool) : Int := if b then 1 else 0
theorem gives_subBB (a b : Bool) : Gives (Builtin.«int.__sub__» ⟨[.bool a, .bool b], []⟩) (.int (bI a - bI b)) := by
  cases a <;> cases b <;> exact .of_eq rfl
def rSubBB : R2 := fun x y H Q => ∃ a b, x = .bl a ∧ y = .bl b ∧ Q (.int (bI a - bI b)) H
theorem op_subBB {X : Cx} : OpR X (binaryOp .Sub) rSubBB := by
  intro pins s σ H x y v u Q I rx ry h
  obtain ⟨a, b, rfl, rfl, q⟩ := h
  cases (show v = Value.bool a from rx)
  cases (show u = Value.bool b from ry)
  exact binaryOp_gives (op := .Sub) (T := "bool") rfl rfl F.fills_bool_sub F.slot_bool_sub F.entry_int_sub (F.args_int_sub_2 _ _) (gives_subBB a b) trivial ⟨.int (bI a - bI b), H, I.tok _, ⟨_, rfl⟩, q⟩
theorem r_subBB {a b : Bool} {H : Hp} {Q : VK} (q : Q (.int (bI a - bI b)) H) : rSubBB (.bl a) (.bl b) H Q := ⟨a, b, rfl, rfl, q⟩
/-- a while, its next turn told inside -/
theorem r_whileN {σ : L2.St} {H : Hp} {D : Ends} {c : TT} {tb : TS} (W : Nat → L2.St → Hp → Prop) (m : Nat) (h0 : W m σ H)
    (hs : ∀ m σ H, W m σ H → c σ H fun b H1 => if b = true then ∃ N : L2.St → Hp → Prop, (∀ σ' H', N σ' H' → ∃ m', m' < m ∧ W m' σ' H') ∧ tb { D with nx := N, ct := N, bk := D.nx } σ H1 else D.nx σ H1) : tWhile c tb D σ H := ⟨W, ⟨m, h0⟩, hs⟩
section
variable {X : Cx} {k : Nat} {CX : CXT} {x : Str} {ps : List Str} {sp : Sp} {p pos : Pos} {E : XK}
/-- x(), an instance of an own class -/
theorem pe_mk0 (M : Mk X.K (fA X.K x) (mA X.K x "__init__")) (G : OkM X.prog X.w X.K X.mg X.base CX k x "__init__" ps sp) (hr : Room (k + 1) X.A) (hx : Passes CX X E) (hm : X.mg x = some (.ref (fA X.K x))) (hg : Gl X x := by rfl)
    (hdb : (x == ("__debug__" : Str)) = false := by decide) : PE X (.Call (.Name x p) [] [] pos) (tMake (fA X.K x) sp [] E tNil) := by
  obtain ⟨fd, F, b⟩ := G.fn
  exact pe_make0 M F hr hg hm b .nil hx hdb
end
theorem listOfK {X : Cx} {K : Fr0} (h : X.K = K) : CallR X (.type "list") (fun xs H Q => ∃ p ys, xs = [.ref p] ∧ (SqL K H p ys ∨ SqT K H p ys) ∧ ∀ l, H l = none → Q (.ref l) (upd H l (.lst ys))) := h ▸ call_list_of
section
variable {X : Cx} {K : Fr0} {k : Nat} {x m : Str} {ps : List Str} {sp : Sp} {p pos apos : Pos} {o e : Expr} {es : List Expr} {te : TE} {ta : TA} {W : WX}
/-- the same where the written part is told: in the body of a try -/
theorem pe_mkSK (eK : X.K = K) (M : Mk K (fA K x) (mA K x "__init__")) (G : OkM X.prog X.w K X.mg X.base (L2.CX X.prog X.w) k x "__init__" ps sp) (hr : Room (k + 1) X.A) (tk : Takes X W) (hm : X.mg x = some (.ref (fA K x))) (ha : PA X (e :: es) ta) (hg : Gl X x := by rfl)
    (hdb : (x == ("__debug__" : Str)) = false := by decide) (he : starEach (e :: es) X.env = (false, eval e X.env) :: starEach es X.env := by rfl) (hpl : (backTo pos (starEach es X.env)).any (·.1) = false := by rfl) :
    PE X (.Call (.Name x p) (e :: es) [] pos) (tMakeS (fA K x) sp (WE W) ta) := by
  subst eK
  exact pe_mkS M G hr tk hm ha hg hdb he hpl
theorem pe_mSK {pl : Sem Bool} {C : Str} (eK : X.K = K) (ho : PE X o te) (c : Cls K (fA K C)) (hm : Meth K (fA K C) m (mA K C m)) (G : OkM X.prog X.w K X.mg X.base (L2.CX X.prog X.w) k C m ps sp) (hr : Room k X.A) (tk : Takes X W) (ha : PA X (e :: es) ta)
    (hst : starEach (e :: es) X.env = (false, eval e X.env) :: starEach es X.env := by rfl) (hpl : (backTo pos (starEach es X.env)).any (·.1) = false := by rfl)
    (ht : eval (.Call (.Attribute o m apos) (e :: es) [] pos) X.env = (do
      let ov ← eval o X.env
      standAt apos.atName
      let (f, first) ← holding [ov] (getMethod ov m pl)
      callWith pos f first (backTo pos (starEach (e :: es) X.env)) (backToKw pos (keywordEach [] X.env))) := by rfl) :
    PE X (.Call (.Attribute o m apos) (e :: es) [] pos) (tMethP (fA K C) m sp (WE W) te ta) := by
  subst eK
  exact pe_mS ho c hm G hr tk ha hst hpl ht
end
end Ab
/-! PART fractions: their mathematics and sizes, no program in sight. -/
namespace Ab
open PySem PySem.Spec PyProof.Rows L2
/-! ### sizes -/
theorem pow_mono2 {a b : Nat} (h : a ≤ b) : 2 ^ a ≤ 2 ^ b := Nat.pow_le_pow_right (by decide) h
theorem sz_mono {i : Int} {a b : Nat} (h : i.natAbs < 2 ^ a) (hab : a ≤ b) : i.natAbs < 2 ^ b := Nat.lt_of_lt_of_le h (pow_mono2 hab)
theorem sz_mul {i j : Int} {a b : Nat} (ha : i.natAbs < 2 ^ a) (hb : j.natAbs < 2 ^ b) : (i * j).natAbs < 2 ^ (a + b) := wide_lt ha hb
theorem sz_add {i j : Int} {a : Nat} (ha : i.natAbs < 2 ^ a) (hb : j.natAbs < 2 ^ a) : (i + j).natAbs < 2 ^ (a + 1) := by
  have h := Int.natAbs_add_le i j
  rw [Nat.pow_succ]
  omega
theorem sz_sub {i j : Int} {a : Nat} (ha : i.natAbs < 2 ^ a) (hb : j.natAbs < 2 ^ a) : (i - j).natAbs < 2 ^ (a + 1) := by
  have h := Int.natAbs_add_le i (-j)
  rw [Int.natAbs_neg] at h
  rw [Nat.pow_succ, Int.sub_eq_add_neg]
  omega
theorem sz_neg {i : Int} {a : Nat} (ha : i.natAbs < 2 ^ a) : (-i).natAbs < 2 ^ a := by rw [Int.natAbs_neg]; exact ha
theorem mulW_of {i j : Int} {a b : Nat} (ha : i.natAbs < 2 ^ a) (hb : j.natAbs < 2 ^ b) (h : a + b ≤ 900000) : CMulW i j :=
  wide_mul (a := a + 1) (b := b + 1) (sz_mono ha (Nat.le_succ _)) (sz_mono hb (Nat.le_succ _)) (Nat.succ_pos _) (Nat.succ_pos _) (by omega)
theorem divW_of {i j : Int} {b : Nat} (h : 0 < j) (hb : j.natAbs < 2 ^ b) (h9 : b ≤ 8999) : CDivW i j := wide_div (b := b + 1) h (sz_mono hb (Nat.le_succ _)) (Nat.succ_pos _) (by omega)
theorem sz_ediv {i j : Int} {a : Nat} (ha : i.natAbs < 2 ^ a) (h0 : 0 ≤ i) (hj : 0 ≤ j) : (i / j).natAbs < 2 ^ a := by
  obtain ⟨m, rfl⟩ := Int.eq_ofNat_of_zero_le h0
  obtain ⟨n, rfl⟩ := Int.eq_ofNat_of_zero_le hj
  rw [← Int.natCast_ediv]
  rw [Int.natAbs_natCast] at ha ⊢
  exact Nat.lt_of_le_of_lt (Nat.div_le_self m n) ha
theorem sz_emod {i j : Int} {a : Nat} (ha : j.natAbs < 2 ^ a) (hj : 0 < j) : (i % j).natAbs < 2 ^ a := by
  have h1 := Int.emod_nonneg i (show j ≠ 0 by omega)
  have h2 := Int.emod_lt_of_pos i hj
  omega

/-! ### the greatest common divisor -/
theorem gcd_turn {a b : Int} : Int.gcd b (a - a / b * b) = Int.gcd a b := by
  rw [Int.gcd_comm b]
  exact Int.gcd_sub_mul_right_left b a (a / b)
theorem gcd_turn' {a b : Int} : Int.gcd b (a % b) = Int.gcd a b := by
  rw [show a % b = a - a / b * b from by rw [Int.emod_def, Int.mul_comm b]]
  exact gcd_turn
theorem gcd_abs (a b : Int) : Int.gcd (a.natAbs : Int) (b.natAbs : Int) = Int.gcd a b := by unfold Int.gcd; rw [Int.natAbs_natCast, Int.natAbs_natCast]
theorem sub_div_eq {a b : Int} : a - a / b * b = a % b := by rw [Int.emod_def, Int.mul_comm b]

/-! ### fractions as rational numbers -/
/-- the tuple of a fraction -/
abbrev fr (q : Rat) : PyData := pr q.num (q.den : Int)
theorem num_of {n d : Int} (h : 0 < d) : (Rat.divInt n d).num = n / (Int.gcd n d : Int) := by
  rw [Rat.num_divInt, Int.sign_eq_one_of_pos h, Int.one_mul, Int.gcd_comm]
theorem den_of {n d : Int} (h : 0 < d) : (((Rat.divInt n d).den : Nat) : Int) = d / (Int.gcd n d : Int) := by
  rw [Rat.den_divInt, if_neg (by omega), Int.gcd_comm]
  obtain ⟨m, rfl⟩ := Int.eq_ofNat_of_zero_le (Int.le_of_lt h)
  rw [Int.natAbs_natCast, Int.natCast_ediv]
theorem divInt_negneg (n d : Int) : Rat.divInt (-n) (-d) = Rat.divInt n d := Rat.neg_divInt_neg n d
theorem q_eq (q : Rat) : Rat.divInt q.num q.den = q := Rat.num_divInt_den q
theorem den_pos (q : Rat) : (0 : Int) < q.den := by have := q.den_pos; omega
theorem den_ne (q : Rat) : ((q.den : Nat) : Int) ≠ 0 := by have := q.den_pos; omega
theorem int_num (i : Int) : ((i : Rat)).num = i := rfl
theorem int_den (i : Int) : ((i : Rat)).den = 1 := rfl
theorem fr_int (i : Int) : fr (i : Rat) = pr i 1 := rfl
theorem fr_inj {p q : Rat} (h : fr p = fr q) : p = q := by
  have h1 : p.num = q.num := by injection h with h; injection h with h _; injection h
  have h2 : (p.den : Int) = q.den := by injection h with h; injection h with _ h; injection h with h _; injection h
  exact Rat.ext h1 (by exact_mod_cast h2)
theorem divInt_sub_divInt (a c : Int) {b d : Int} (hb : b ≠ 0) (hd : d ≠ 0) : Rat.divInt a b - Rat.divInt c d = Rat.divInt (a * d - c * b) (b * d) := by
  rw [Rat.sub_eq_add_neg, Rat.neg_divInt, Rat.divInt_add_divInt _ _ hb hd, Int.neg_mul, ← Int.sub_eq_add_neg]
theorem divInt_div_divInt (a b c d : Int) : Rat.divInt a b / Rat.divInt c d = Rat.divInt (a * d) (b * c) := by
  rw [Rat.div_def, Rat.inv_divInt, Rat.divInt_mul_divInt]
/-- a size of a fraction -/
structure Sz (q : Rat) (k : Nat) : Prop where
  n : q.num.natAbs < 2 ^ k
  d : q.den < 2 ^ k
theorem Sz.d' {q : Rat} {k : Nat} (h : Sz q k) : ((q.den : Nat) : Int).natAbs < 2 ^ k := by rw [Int.natAbs_natCast]; exact h.d
theorem Sz.mono {q : Rat} {a b : Nat} (h : Sz q a) (hab : a ≤ b) : Sz q b := ⟨sz_mono h.n hab, Nat.lt_of_lt_of_le h.d (pow_mono2 hab)⟩
theorem gcd_pos {n d : Int} (h : d ≠ 0) : 0 < Int.gcd n d := Nat.pos_of_ne_zero (fun e => h (Int.gcd_eq_zero_iff.mp e).2)
theorem sz_divInt {n d : Int} {k : Nat} (hd : d ≠ 0) (h1 : n.natAbs < 2 ^ k) (h2 : d.natAbs < 2 ^ k) : Sz (Rat.divInt n d) k := by
  have key : ∀ {n d : Int}, 0 < d → n.natAbs < 2 ^ k → d.natAbs < 2 ^ k → Sz (Rat.divInt n d) k := by
    intro n d hd h1 h2
    have g : (0 : Int) < (Int.gcd n d : Int) := by have := gcd_pos (n := n) (d := d) (by omega); omega
    constructor
    · rw [num_of hd]
      refine Nat.lt_of_le_of_lt ?_ h1
      exact Int.natAbs_ediv_le_natAbs n _
    · have e := den_of (n := n) hd
      have z : ((Rat.divInt n d).den : Int) ≤ d := by
        rw [e]
        exact Int.ediv_le_self _ (Int.le_of_lt hd)
      omega
  rcases Int.lt_or_gt_of_ne hd with h | h
  · rw [← divInt_negneg]
    exact key (by omega) (by rw [Int.natAbs_neg]; exact h1) (by rw [Int.natAbs_neg]; exact h2)
  · exact key h h1 h2
theorem Sz.add {p q : Rat} {a b : Nat} (hp : Sz p a) (hq : Sz q b) : Sz (p + q) (a + b + 1) := by
  rw [← q_eq p, ← q_eq q, Rat.divInt_add_divInt _ _ (den_ne p) (den_ne q)]
  have d1 := sz_mul hp.d' hq.d'
  refine sz_divInt (Int.mul_ne_zero (den_ne p) (den_ne q)) ?_ (sz_mono d1 (Nat.le_succ _))
  exact sz_add (sz_mul hp.n hq.d') (by have z := sz_mul hq.n hp.d'; rw [Nat.add_comm] at z; exact z)
theorem Sz.mul {p q : Rat} {a b : Nat} (hp : Sz p a) (hq : Sz q b) : Sz (p * q) (a + b) := by
  rw [← q_eq p, ← q_eq q, Rat.divInt_mul_divInt]
  exact sz_divInt (Int.mul_ne_zero (den_ne p) (den_ne q)) (sz_mul hp.n hq.n) (sz_mul hp.d' hq.d')
theorem Sz.int {i : Int} {k : Nat} (h : i.natAbs < 2 ^ k) (hk : 0 < k) : Sz (i : Rat) k := ⟨h, by show 1 < 2 ^ k; exact Nat.one_lt_two_pow (by omega)⟩
theorem Sz.neg {p : Rat} {a : Nat} (hp : Sz p a) : Sz (-p) a := ⟨by rw [Rat.neg_num, Int.natAbs_neg]; exact hp.n, by rw [Rat.neg_den]; exact hp.d⟩
/-! ### promises of the fractions' defs -/
/-- a tuple of a fraction -/
def NewFr (K : Fr0) (H : Hp) (Q : VK) (q : Rat) : Prop := ∀ u H', Same H H' → Dp K H' u (fr q) → Q u H'
/-- two fractions, handed in as tuples -/
def TwoFr (K : Fr0) (H : Hp) (vs : List V) (a b c d : Int) (k l : Nat) : Prop := ∃ u v, vs = [u, v] ∧ Dp K H u (pr a b) ∧ Dp K H v (pr c d) ∧
  (b ≠ 0 ∧ d ≠ 0) ∧ a.natAbs < 2 ^ k ∧ b.natAbs < 2 ^ k ∧ c.natAbs < 2 ^ l ∧ d.natAbs < 2 ^ l ∧ k + l + 1 ≤ 8999
/-- two fractions in lowest terms -/
theorem TwoFr.of {K : Fr0} {H : Hp} {u v : V} {p q : Rat} {k l : Nat} (h1 : Dp K H u (fr p)) (h2 : Dp K H v (fr q)) (s1 : Sz p k) (s2 : Sz q l) (h : k + l + 1 ≤ 8999) : TwoFr K H [u, v] p.num p.den q.num q.den k l :=
  ⟨u, v, rfl, h1, h2, ⟨den_ne p, den_ne q⟩, s1.n, s1.d', s2.n, s2.d', h⟩
/-- a list of fractions whose sums stay small -/
structure SumSz (qs : List Rat) (k l : Nat) : Prop where
  part : ∀ i, i ≤ qs.length → Sz (qs.take i).sum k
  each : ∀ q ∈ qs, Sz q l
  fits : k + l + 1 ≤ 8999
theorem sum_app_one (qs : List Rat) (x : Rat) : (qs ++ [x]).sum = qs.sum + x := by
  induction qs with
  | nil => rw [List.nil_append, List.sum_cons, List.sum_nil]; grind
  | cons a l ih => rw [List.cons_append, List.sum_cons, List.sum_cons, ih]; grind
theorem sum_take_succ (qs : List Rat) (i : Nat) (h : i < qs.length) : (qs.take (i + 1)).sum = (qs.take i).sum + qs[i] := by
  rw [List.take_succ_eq_append_getElem h, sum_app_one]
/-- a tuple of a fraction, in lowest terms or not -/
def FrAt (K : Fr0) (H : Hp) (u : V) (q : Rat) (k : Nat) : Prop := ∃ a b : Int, Dp K H u (pr a b) ∧ 0 < b ∧ q = Rat.divInt a b ∧ a.natAbs < 2 ^ k ∧ b.natAbs < 2 ^ k
theorem FrAt.of {K : Fr0} {H : Hp} {u : V} {q : Rat} {k : Nat} (h : Dp K H u (fr q)) (s : Sz q k) : FrAt K H u q k := ⟨q.num, q.den, h, den_pos q, (q_eq q).symm, s.n, s.d'⟩
theorem FrAt.raw {K : Fr0} {H : Hp} {u : V} {a b : Int} {k : Nat} (h : Dp K H u (pr a b)) (b0 : 0 < b) (sa : a.natAbs < 2 ^ k) (sb : b.natAbs < 2 ^ k) : FrAt K H u (Rat.divInt a b) k := ⟨a, b, h, b0, rfl, sa, sb⟩
theorem FrAt.same {K : Fr0} {H H' : Hp} {u : V} {q : Rat} {k : Nat} (s : Same H H') (h : FrAt K H u q k) : FrAt K H' u q k := by
  obtain ⟨a, b, d, r⟩ := h
  exact ⟨a, b, dp_same s d, r⟩
theorem divInt_nat (a b : Nat) : Rat.divInt (a : Int) (b : Int) = (a : Rat) / (b : Rat) := Rat.divInt_eq_div a b
theorem divInt_one : Rat.divInt 1 1 = 1 := rfl
theorem divInt_div {a b : Int} : Rat.divInt a b = (a : Rat) / (b : Rat) := Rat.divInt_eq_div a b
theorem SumSz.of {qs : List Rat} {l m : Nat} (h : ∀ q ∈ qs, Sz q l) (len : qs.length ≤ m) (f : (l + 1) * m + 1 + l + 1 ≤ 8999) : SumSz qs ((l + 1) * m + 1) l := by
  refine ⟨fun i hi => ?_, h, f⟩
  have key : ∀ i, i ≤ qs.length → Sz (qs.take i).sum ((l + 1) * i + 1) := by
    intro i
    induction i with
    | zero => intro _; rw [List.take_zero, List.sum_nil]; exact Sz.int (i := 0) (Nat.two_pow_pos _) (by omega)
    | succ i ih =>
      intro hi
      rw [sum_take_succ qs i hi]
      have z := (ih (by omega)).add (h qs[i] (List.getElem_mem _))
      exact z.mono (by rw [Nat.mul_succ]; omega)
  exact (key i hi).mono (Nat.succ_le_succ (Nat.mul_le_mul_left _ (by omega)))
theorem nol_fr (q : Rat) : nol (fr q) = true := nol_pr _ _
theorem sh_frs (l : List Rat) : SeqAt.shaped (.list (l.map fr)) = true := sh_prs (fun q : Rat => q.num) (fun q => (q.den : Int)) l
theorem natI {x : Nat} {b : Nat} (h : x ≤ 2 ^ b) : ((x : Nat) : Int).natAbs < 2 ^ (b + 1) := by rw [Int.natAbs_natCast, Nat.pow_succ]; have := Nat.two_pow_pos b; omega
theorem divInt_by1 (i : Int) : Rat.divInt i 1 = (i : Rat) := by
  rw [Rat.divInt_eq_div, show ((1 : Int) : Rat) = 1 from rfl]
  grind
end Ab
/-! PART parts: what times M is whole; sizes by it. -/
namespace Ab
open PySem PySem.Spec PyProof.Rows L2
/-- q times M is a whole number -/
def Zd (q : Rat) (M : Nat) : Prop := ∃ z : Int, q * (M : Rat) = (z : Rat)
theorem natq_ne {m : Nat} (h : 0 < m) : (m : Rat) ≠ 0 := by
  intro z
  have : (m : Rat) = ((0 : Nat) : Rat) := z
  have := Rat.natCast_inj.mp this
  omega
theorem natq_pos {m : Nat} (h : 0 < m) : (0 : Rat) < (m : Rat) := by
  have h2 : ((0 : Nat) : Rat) < (m : Rat) := Rat.natCast_lt_natCast.mpr h
  exact h2
theorem Zd.add {p q : Rat} {M : Nat} (hp : Zd p M) (hq : Zd q M) : Zd (p + q) M := by
  obtain ⟨a, ha⟩ := hp
  obtain ⟨b, hb⟩ := hq
  exact ⟨a + b, by rw [Rat.add_mul, ha, hb, Rat.intCast_add]⟩
theorem Zd.int (i : Int) (M : Nat) : Zd (i : Rat) M := ⟨i * M, by rw [Rat.intCast_mul]; rfl⟩
theorem Zd.nat (i : Nat) (M : Nat) : Zd (i : Rat) M := Zd.int i M
theorem Zd.imul {q : Rat} {M : Nat} (i : Int) (h : Zd q M) : Zd ((i : Rat) * q) M := by
  obtain ⟨a, ha⟩ := h
  exact ⟨i * a, by rw [Rat.mul_assoc, ha, Rat.intCast_mul]⟩
theorem Zd.nmul {q : Rat} {M : Nat} (i : Nat) (h : Zd q M) : Zd ((i : Rat) * q) M := Zd.imul (i : Int) h
theorem Zd.mul {p q : Rat} {M N : Nat} (hp : Zd p M) (hq : Zd q N) : Zd (p * q) (M * N) := by
  obtain ⟨a, ha⟩ := hp
  obtain ⟨b, hb⟩ := hq
  refine ⟨a * b, ?_⟩
  rw [Rat.natCast_mul, Rat.intCast_mul, ← ha, ← hb]
  grind
theorem Zd.dvd {q : Rat} {M N : Nat} (h : Zd q M) (d : M ∣ N) : Zd q N := by
  obtain ⟨a, ha⟩ := h
  obtain ⟨c, rfl⟩ := d
  exact ⟨a * c, by rw [Rat.natCast_mul, ← Rat.mul_assoc, ha, Rat.intCast_mul]; rfl⟩
theorem Zd.div {q : Rat} {M m : Nat} (hm : 0 < m) (h : Zd q M) : Zd (q / (m : Rat)) (M * m) := by
  obtain ⟨a, ha⟩ := h
  refine ⟨a, ?_⟩
  have := natq_ne hm
  rw [Rat.natCast_mul, ← ha]
  grind
theorem Zd.sum {M : Nat} : ∀ {l : List Rat}, (∀ q ∈ l, Zd q M) → Zd l.sum M
  | [], _ => by rw [List.sum_nil]; exact Zd.int 0 M
  | q :: l, h => by
    rw [List.sum_cons]
    exact (h q List.mem_cons_self).add (Zd.sum fun p hp => h p (List.mem_cons_of_mem _ hp))
theorem Zd.sz {q : Rat} {M B k : Nat} (h : Zd q M) (hM : 0 < M) (h1 : -(B : Rat) ≤ q) (h2 : q ≤ (B : Rat)) (hk : B * M < 2 ^ k) (hk2 : M < 2 ^ k) : Sz q k := by
  obtain ⟨z, hz⟩ := h
  have m0 := natq_ne hM
  have mp := natq_pos hM
  have e : q = Rat.divInt z M := by
    have e1 : q = (z : Rat) / (M : Rat) := by rw [← hz]; grind
    rw [e1, Rat.divInt_eq_div]
    rfl
  have b1 : z ≤ (B * M : Nat) := by
    have : (z : Rat) ≤ ((B * M : Nat) : Int) := by
      rw [← hz]
      have := Rat.mul_le_mul_of_nonneg_right h2 (Rat.le_of_lt mp)
      rw [show (((B * M : Nat) : Int) : Rat) = (B : Rat) * (M : Rat) from Rat.natCast_mul B M]
      exact this
    exact Rat.intCast_le_intCast.mp this
  have b2 : -((B * M : Nat) : Int) ≤ z := by
    have : ((-((B * M : Nat) : Int) : Int) : Rat) ≤ (z : Rat) := by
      rw [← hz]
      have := Rat.mul_le_mul_of_nonneg_right h1 (Rat.le_of_lt mp)
      rw [Rat.intCast_neg, show (((B * M : Nat) : Int) : Rat) = (B : Rat) * (M : Rat) from Rat.natCast_mul B M, ← Rat.neg_mul]
      exact this
    exact Rat.intCast_le_intCast.mp this
  rw [e]
  exact sz_divInt (by omega) (by omega) (by rw [Int.natAbs_natCast]; exact hk2)
end Ab
/-! PART together: the mean number of packs until none came never or once. -/
namespace Ab
open PySem PySem.Spec PyProof.Rows L2
/-- i never came, j came once -/
def tgF (n : Nat) : Nat → Nat → Rat
  | 0, 0 => 0
  | 0, j + 1 => ((n : Rat) + ((j + 1 : Nat) : Rat) * tgF n 0 j) / ((j + 1 : Nat) : Rat)
  | i + 1, 0 => ((n : Rat) + ((i + 1 : Nat) : Rat) * tgF n i 1) / ((i + 1 : Nat) : Rat)
  | i + 1, j + 1 => ((n : Rat) + ((i + 1 : Nat) : Rat) * tgF n i (j + 2) + ((j + 1 : Nat) : Rat) * tgF n (i + 1) j) / ((i + 1 + (j + 1) : Nat) : Rat)
termination_by i j => (i, j)
theorem rat_div_nonneg {a b : Rat} (ha : 0 ≤ a) (hb : 0 < b) : 0 ≤ a / b := by
  rw [Rat.div_def]
  exact Rat.mul_nonneg ha (Rat.le_of_lt (Rat.inv_pos.mpr hb))
theorem rat_div_le {a b c : Rat} (h : a ≤ c * b) (hb : 0 < b) : a / b ≤ c := by
  have e : a = a / b * b := by have := Rat.ne_of_gt hb; grind
  by_cases q : a / b ≤ c
  · exact q
  · exfalso
    have lt : c < a / b := Rat.not_le.mp q
    have := (Rat.mul_lt_mul_right hb).mpr lt
    rw [← e] at this
    exact absurd h (Rat.not_le.mpr this)
theorem nat_nonneg (n : Nat) : (0 : Rat) ≤ (n : Rat) := by
  have h : ((0 : Nat) : Rat) ≤ (n : Rat) := Rat.natCast_le_natCast.mpr (Nat.zero_le n)
  exact h
theorem nat_cast_add (a b : Nat) : ((a + b : Nat) : Rat) = (a : Rat) + (b : Rat) := Rat.natCast_add a b
theorem nat_cast_mul (a b : Nat) : ((a * b : Nat) : Rat) = (a : Rat) * (b : Rat) := Rat.natCast_mul a b
/-- its bounds -/
theorem tgF_bd (n : Nat) : ∀ i j : Nat, 0 ≤ tgF n i j ∧ tgF n i j ≤ ((n * (2 * i + j) : Nat) : Rat) := by
  intro i j
  induction i, j using tgF.induct with
  | case1 =>
    rw [tgF]
    exact ⟨by decide, nat_nonneg _⟩
  | case2 j ih =>
    rw [tgF]
    have p := natq_pos (m := j + 1) (Nat.succ_pos _)
    have n0 := nat_nonneg n
    have j0 := nat_nonneg j
    refine ⟨rat_div_nonneg (Rat.add_nonneg n0 (Rat.mul_nonneg (Rat.le_of_lt p) ih.1)) p, rat_div_le ?_ p⟩
    have m := Rat.mul_le_mul_of_nonneg_left ih.2 (Rat.le_of_lt p)
    have m0 := Rat.mul_nonneg n0 j0
    simp only [nat_cast_add, nat_cast_mul] at m p ⊢
    have e1 : ((0 : Nat) : Rat) = 0 := rfl
    have e2 : ((1 : Nat) : Rat) = 1 := rfl
    simp only [e1, e2] at m p ⊢
    grind
  | case3 i ih =>
    rw [tgF]
    have p := natq_pos (m := i + 1) (Nat.succ_pos _)
    have n0 := nat_nonneg n
    have j0 := nat_nonneg i
    refine ⟨rat_div_nonneg (Rat.add_nonneg n0 (Rat.mul_nonneg (Rat.le_of_lt p) ih.1)) p, rat_div_le ?_ p⟩
    have m := Rat.mul_le_mul_of_nonneg_left ih.2 (Rat.le_of_lt p)
    have m0 := Rat.mul_nonneg n0 j0
    simp only [nat_cast_add, nat_cast_mul] at m p ⊢
    have e1 : ((0 : Nat) : Rat) = 0 := rfl
    have e2 : ((1 : Nat) : Rat) = 1 := rfl
    have e3 : ((2 : Nat) : Rat) = 2 := rfl
    simp only [e1, e2, e3] at m p ⊢
    grind
  | case4 i j ih1 ih2 =>
    rw [tgF]
    have p := natq_pos (m := i + 1 + (j + 1)) (by omega)
    have p1 := natq_pos (m := i + 1) (by omega)
    have p2 := natq_pos (m := j + 1) (by omega)
    have n0 := nat_nonneg n
    have i0 := nat_nonneg i
    have j0 := nat_nonneg j
    refine ⟨rat_div_nonneg (Rat.add_nonneg (Rat.add_nonneg n0 (Rat.mul_nonneg (Rat.le_of_lt p1) ih1.1)) (Rat.mul_nonneg (Rat.le_of_lt p2) ih2.1)) p, rat_div_le ?_ p⟩
    have a := Rat.mul_le_mul_of_nonneg_left ih1.2 (Rat.le_of_lt p1)
    have b := Rat.mul_le_mul_of_nonneg_left ih2.2 (Rat.le_of_lt p2)
    have m1 := Rat.mul_nonneg n0 i0
    have m2 := Rat.mul_nonneg n0 j0
    simp only [nat_cast_add, nat_cast_mul] at a b p ⊢
    have e2 : ((1 : Nat) : Rat) = 1 := rfl
    have e3 : ((2 : Nat) : Rat) = 2 := rfl
    simp only [e2, e3] at a b p ⊢
    grind
/-- its parts: D a multiple of all numbers up to n -/
theorem tgF_zd {n D : Nat} (hD : ∀ m, 0 < m → m ≤ n → m ∣ D) : ∀ i j : Nat, i + j ≤ n → Zd (tgF n i j) (D ^ (2 * i + j)) := by
  intro i j
  induction i, j using tgF.induct with
  | case1 =>
    intro _
    rw [tgF]
    exact Zd.int 0 _
  | case2 j ih =>
    intro h
    rw [tgF]
    have z := ((Zd.nat n _).add (Zd.nmul (j + 1) (ih (by omega)))).div (m := j + 1) (Nat.succ_pos _)
    refine z.dvd ?_
    rw [show 2 * 0 + (j + 1) = (2 * 0 + j) + 1 by omega, Nat.pow_succ]
    exact Nat.mul_dvd_mul_left _ (hD _ (Nat.succ_pos _) (by omega))
  | case3 i ih =>
    intro h
    rw [tgF]
    have z := ((Zd.nat n _).add (Zd.nmul (i + 1) (ih (by omega)))).div (m := i + 1) (Nat.succ_pos _)
    refine z.dvd ?_
    rw [show 2 * (i + 1) + 0 = (2 * i + 1) + 1 by omega, Nat.pow_succ]
    exact Nat.mul_dvd_mul_left _ (hD _ (Nat.succ_pos _) (by omega))
  | case4 i j ih1 ih2 =>
    intro h
    rw [tgF]
    have z1 := Zd.nmul (i + 1) (ih1 (by omega))
    have z2 := Zd.nmul (j + 1) (ih2 (by omega))
    rw [show 2 * i + (j + 2) = 2 * (i + 1) + j by omega] at z1
    have z := (((Zd.nat n _).add z1).add z2).div (m := i + 1 + (j + 1)) (by omega)
    refine z.dvd ?_
    rw [show 2 * (i + 1) + (j + 1) = (2 * (i + 1) + j) + 1 by omega, Nat.pow_succ]
    exact Nat.mul_dvd_mul_left _ (hD _ (by omega) (by omega))
/-- its size, up to fourteen pictures -/
theorem tgF_sz {n i j : Nat} (hn : n ≤ 14) (h : i + j ≤ n) : Sz (tgF n i j) 1200 := by
  have hD : ∀ m, 0 < m → m ≤ n → m ∣ 360360 := by
    intro m h0 h1
    have : m ≤ 14 := by omega
    have key : ∀ m : Nat, m < 15 → 0 < m → m ∣ 360360 := by decide
    exact key m (by omega) h0
  have b := tgF_bd n i j
  have z := tgF_zd hD i j h
  have w : 2 * i + j ≤ 28 := by omega
  have d1 : 360360 ^ (2 * i + j) ≤ 360360 ^ 28 := Nat.pow_le_pow_right (by decide) w
  have d2 : n * (2 * i + j) ≤ 14 * 28 := Nat.mul_le_mul hn w
  refine z.sz (B := n * (2 * i + j)) (Nat.pow_pos (by decide)) ?_ b.2 ?_ (Nat.lt_of_le_of_lt d1 (by decide +kernel))
  · exact Rat.le_trans (by have := nat_nonneg (n * (2 * i + j)); grind) b.1
  · exact Nat.lt_of_le_of_lt (Nat.mul_le_mul d2 d1) (by decide +kernel)
theorem tgF_eq (n i j : Nat) : tgF n i j = (((if 0 < i + j then n else 0 : Nat) : Rat) + (i : Rat) * tgF n (i - 1) (j + 1) + (j : Rat) * tgF n i (j - 1)) / ((max 1 (i + j) : Nat) : Rat) := by
  have z : ((0 : Nat) : Rat) = 0 := rfl
  cases i with
  | zero =>
    cases j with
    | zero =>
      rw [tgF, if_neg (by decide), z]
      grind
    | succ j =>
      rw [tgF, if_pos (by omega), z, show max 1 (0 + (j + 1)) = j + 1 by omega, show j + 1 - 1 = j by omega]
      grind
  | succ i =>
    cases j with
    | zero =>
      rw [tgF, if_pos (by omega), z, show max 1 (i + 1 + 0) = i + 1 by omega, show i + 1 - 1 = i by omega]
      grind
    | succ j =>
      rw [tgF, if_pos (by omega), show max 1 (i + 1 + (j + 1)) = i + 1 + (j + 1) by omega, show i + 1 - 1 = i by omega, show j + 1 - 1 = j by omega]
/-- a row, the rows -/
def tgRow (n i m : Nat) : List PyData := (List.range m).map fun b => fr (tgF n i b)
def tgRows (n i : Nat) : List PyData := (List.range i).map fun a => .list (tgRow n a (n - a + 1))
theorem range_map_succ {α : Type} (f : Nat → α) (m : Nat) : (List.range (m + 1)).map f = (List.range m).map f ++ [f m] := by rw [List.range_succ, List.map_append]; rfl
theorem range_map_at {α : Type} (f : Nat → α) {m k : Nat} (h : k < m) : ((List.range m).map f)[k]? = some (f k) := by simp [h]
end Ab
/-! PART pairs: packs of two unlike pictures. -/
namespace Ab
open PySem PySem.Spec PyProof.Rows L2
/-- the mean number of packs, l of n are lacking -/
def prF (n : Nat) : Nat → Rat
  | 0 => 0
  | 1 => ((n * (n - 1) : Nat) : Rat) / ((2 * 1 * (n - 1) : Nat) : Rat)
  | l + 2 => (((n * (n - 1) : Nat) : Rat) + ((2 * (l + 2) * (n - (l + 2)) : Nat) : Rat) * prF n (l + 1) + (((l + 2) * (l + 1) : Nat) : Rat) * prF n l) / (((l + 2) * (l + 1) + 2 * (l + 2) * (n - (l + 2)) : Nat) : Rat)
theorem prF_eq {n l : Nat} (h : 0 < l) : prF n l = (((n * (n - 1) : Nat) : Rat) + ((2 * l * (n - l) : Nat) : Rat) * prF n (l - 1) + ((l * (l - 1) : Nat) : Rat) * prF n (l - 2)) / ((l * (l - 1) + 2 * l * (n - l) : Nat) : Rat) := by
  match l, h with
  | 1, _ =>
    rw [prF, show (1 : Nat) - 1 = 0 from rfl, prF, show 1 * 0 + 2 * 1 * (n - 1) = 2 * 1 * (n - 1) by omega]
    grind
  | l + 2, _ =>
    rw [prF, show l + 2 - 1 = l + 1 from rfl, show l + 2 - 2 = l from rfl]
theorem pr_pos {n l : Nat} (h : 0 < l) (hn : l ≤ n) (n2 : 2 ≤ n) : 0 < l * (l - 1) + 2 * l * (n - l) := by
  by_cases e : l = 1
  · subst e
    omega
  · have : 0 < l * (l - 1) := Nat.mul_pos h (by omega)
    omega
/-- the parts of one of the first l -/
def prD (n : Nat) : Nat → Nat
  | 0 => 1
  | l + 1 => prD n l * ((l + 1) * l + 2 * (l + 1) * (n - (l + 1)))
theorem prD_dvd (n l : Nat) : prD n (l - 1) ∣ prD n l := by
  cases l with
  | zero => exact Nat.dvd_refl _
  | succ l => exact Nat.dvd_mul_right _ _
theorem prF_zd {n : Nat} (n2 : 2 ≤ n) : ∀ l, l ≤ n → Zd (prF n l) (prD n l)
  | 0, _ => Zd.int 0 _
  | 1, h => by
    rw [prF, prD, prD]
    have z := (Zd.nat (n * (n - 1)) 1).div (m := 2 * 1 * (n - 1)) (by omega)
    refine z.dvd ?_
    rw [show (0 + 1) * 0 + 2 * (0 + 1) * (n - (0 + 1)) = 2 * 1 * (n - 1) by omega]
    exact Nat.dvd_refl _
  | l + 2, h => by
    rw [prF]
    have z1 := prF_zd n2 (l + 1) (by omega)
    have z2 := (prF_zd n2 l (by omega)).dvd (prD_dvd n (l + 1))
    exact (((Zd.nat _ _).add (Zd.nmul _ z1)).add (Zd.nmul _ z2)).div (pr_pos (l := l + 2) (by omega) h n2)
theorem prF_bd {n : Nat} (n2 : 2 ≤ n) : ∀ l, l ≤ n → 0 ≤ prF n l ∧ prF n l ≤ ((n * (n - 1) * l : Nat) : Rat) := by
  have step : ∀ (E S B : Nat) (x y c : Rat), 0 < B + S → 0 ≤ x → 0 ≤ y → x ≤ c → y ≤ c →
      0 ≤ ((E : Rat) + (S : Rat) * x + (B : Rat) * y) / ((B + S : Nat) : Rat) ∧ ((E : Rat) + (S : Rat) * x + (B : Rat) * y) / ((B + S : Nat) : Rat) ≤ c + (E : Rat) := by
    intro E S B x y c h hx hy h1 h2
    have p := natq_pos h
    have E0 := nat_nonneg E
    have S0 := nat_nonneg S
    have B0 := nat_nonneg B
    refine ⟨rat_div_nonneg (Rat.add_nonneg (Rat.add_nonneg E0 (Rat.mul_nonneg S0 hx)) (Rat.mul_nonneg B0 hy)) p, rat_div_le ?_ p⟩
    have m1 := Rat.mul_le_mul_of_nonneg_left h1 S0
    have m2 := Rat.mul_le_mul_of_nonneg_left h2 B0
    have one : (1 : Rat) ≤ ((B + S : Nat) : Rat) := by
      have : ((1 : Nat) : Rat) ≤ ((B + S : Nat) : Rat) := Rat.natCast_le_natCast.mpr h
      exact this
    have m3 := Rat.mul_le_mul_of_nonneg_left one E0
    rw [nat_cast_add] at m3 ⊢
    grind
  intro l
  induction l using Nat.strongRecOn with
  | ind l ih =>
    intro h
    by_cases h0 : l = 0
    · subst h0
      rw [prF]
      exact ⟨by decide, nat_nonneg _⟩
    · rw [prF_eq (by omega)]
      have b1 := ih (l - 1) (by omega) (by omega)
      have b2 : 0 ≤ prF n (l - 2) ∧ prF n (l - 2) ≤ ((n * (n - 1) * (l - 1) : Nat) : Rat) := by
        have z := ih (l - 2) (by omega) (by omega)
        exact ⟨z.1, Rat.le_trans z.2 (Rat.natCast_le_natCast.mpr (Nat.mul_le_mul_left _ (by omega)))⟩
      have s := step (n * (n - 1)) (2 * l * (n - l)) (l * (l - 1)) _ _ _ (pr_pos (by omega) h n2) b1.1 b2.1 b1.2 b2.2
      refine ⟨s.1, Rat.le_trans s.2 ?_⟩
      rw [← nat_cast_add]
      refine Rat.natCast_le_natCast.mpr ?_
      rw [← Nat.mul_succ]
      exact Nat.mul_le_mul_left _ (by omega)
theorem prD_le {n : Nat} (hn : n ≤ 60) : ∀ l, l ≤ n → prD n l ≤ 2 ^ (14 * l)
  | 0, _ => Nat.le_refl _
  | l + 1, h => by
    rw [prD, show 14 * (l + 1) = 14 * l + 14 by omega, Nat.pow_add]
    refine Nat.mul_le_mul (prD_le hn l (by omega)) ?_
    have a : (l + 1) * l ≤ 60 * 60 := Nat.mul_le_mul (by omega) (by omega)
    have b : 2 * (l + 1) * (n - (l + 1)) ≤ 2 * 60 * 60 := Nat.mul_le_mul (by omega) (by omega)
    omega
theorem prD_pos {n : Nat} (n2 : 2 ≤ n) : ∀ l, l ≤ n → 0 < prD n l
  | 0, _ => Nat.one_pos
  | l + 1, h => Nat.mul_pos (prD_pos n2 l (by omega)) (pr_pos (l := l + 1) (by omega) h n2)
theorem prF_sz {n l : Nat} (n2 : 2 ≤ n) (hn : n ≤ 60) (h : l ≤ n) : Sz (prF n l) 900 := by
  have b := prF_bd n2 l h
  have d := prD_le hn l h
  have d2 : 2 ^ (14 * l) ≤ 2 ^ 840 := pow_mono2 (by omega)
  have c : n * (n - 1) * l ≤ 60 * 60 * 60 := Nat.mul_le_mul (Nat.mul_le_mul hn (by omega)) (by omega)
  refine (prF_zd n2 l h).sz (B := n * (n - 1) * l) (prD_pos n2 l h) ?_ b.2 ?_ ?_
  · exact Rat.le_trans (by have := nat_nonneg (n * (n - 1) * l); grind) b.1
  · exact Nat.lt_of_le_of_lt (Nat.mul_le_mul c (Nat.le_trans d d2)) (by decide +kernel)
  · exact Nat.lt_of_le_of_lt (Nat.le_trans d d2) (by decide +kernel)
/-- as the program turns it -/
theorem prF_turn {n l : Nat} (h : 0 < l) (hn : l ≤ n) (n2 : 2 ≤ n) : (1 + (prF n (l - 1) * (((2 * l * (n - l) : Nat) : Rat) / ((n * (n - 1) : Nat) : Rat)) + prF n (l - 2) * (((l * (l - 1) : Nat) : Rat) / ((n * (n - 1) : Nat) : Rat)))) /
    (((l * (l - 1) + 2 * l * (n - l) : Nat) : Rat) / ((n * (n - 1) : Nat) : Rat)) = prF n l := by
  rw [prF_eq h]
  have e0 := natq_ne (Nat.mul_pos (show 0 < n by omega) (show 0 < n - 1 by omega))
  have p0 := natq_ne (pr_pos h hn n2)
  generalize ((n * (n - 1) : Nat) : Rat) = E at *
  generalize ((l * (l - 1) + 2 * l * (n - l) : Nat) : Rat) = D at *
  grind
/-- one more than behind one pack -/
theorem prF_law {n a : Nat} (ha : a < n) (n2 : 2 ≤ n) : prF n (n - a) * (((a * (a - 1) : Nat) : Rat) / ((n * (n - 1) : Nat) : Rat)) + prF n (n - (a + 1)) * (((2 * a * (n - a) : Nat) : Rat) / ((n * (n - 1) : Nat) : Rat)) +
    prF n (n - min (a + 2) n) * ((((n - a) * (n - a - 1) : Nat) : Rat) / ((n * (n - 1) : Nat) : Rat)) + 1 = prF n (n - a) := by
  have e := prF_eq (n := n) (l := n - a) (by omega)
  have e0 := natq_ne (Nat.mul_pos (show 0 < n by omega) (show 0 < n - 1 by omega))
  have p0 := natq_ne (pr_pos (n := n) (l := n - a) (by omega) (by omega) n2)
  have w : n * (n - 1) = a * (a - 1) + ((n - a) * (n - a - 1) + 2 * (n - a) * (n - (n - a))) := by
    obtain ⟨l, rfl⟩ : ∃ l, n = a + (l + 1) := ⟨n - a - 1, by omega⟩
    rw [show a + (l + 1) - a = l + 1 by omega, show a + (l + 1) - (l + 1) = a by omega, show a + (l + 1) - 1 = a + l by omega, show l + 1 - 1 = l by omega]
    cases a with
    | zero => grind
    | succ a => rw [show a + 1 - 1 = a by omega]; grind
  have c1 : 2 * a * (n - a) = 2 * (n - a) * (n - (n - a)) := by
    rw [show n - (n - a) = a by omega, Nat.mul_assoc, Nat.mul_assoc, Nat.mul_comm a]
  have i1 : n - a - 1 = n - (a + 1) := by omega
  have i2 : n - a - 2 = n - min (a + 2) n := by omega
  rw [i2] at e
  rw [i1] at e p0 w ⊢
  rw [c1]
  have wr : ((n * (n - 1) : Nat) : Rat) = ((a * (a - 1) : Nat) : Rat) + (((n - a) * (n - (a + 1)) + 2 * (n - a) * (n - (n - a)) : Nat) : Rat) := by
    rw [← nat_cast_add, ← w]
  have wd : (((n - a) * (n - (a + 1)) + 2 * (n - a) * (n - (n - a)) : Nat) : Rat) = (((n - a) * (n - (a + 1)) : Nat) : Rat) + ((2 * (n - a) * (n - (n - a)) : Nat) : Rat) := nat_cast_add _ _
  generalize (((n - a) * (n - (a + 1)) + 2 * (n - a) * (n - (n - a)) : Nat) : Rat) = D at *
  generalize ((n * (n - 1) : Nat) : Rat) = E at *
  generalize (((n - a) * (n - (a + 1)) : Nat) : Rat) = B at *
  generalize ((2 * (n - a) * (n - (n - a)) : Nat) : Rat) = S at *
  generalize ((a * (a - 1) : Nat) : Rat) = W at *
  generalize prF n (n - a) = x at *
  generalize prF n (n - (a + 1)) = y at *
  generalize prF n (n - min (a + 2) n) = z at *
  have e1 : x * D = E + S * y + B * z := by rw [e]; grind
  grind
end Ab
/-! PART choices: numbers of choices, rows in order. -/
namespace Ab
open PySem PySem.Spec PyProof.Rows L2
def ch : Nat → Nat → Nat
  | _, 0 => 1
  | 0, _ + 1 => 0
  | n + 1, p + 1 => ch n p + ch n (p + 1)
def fac : Nat → Nat
  | 0 => 1
  | n + 1 => (n + 1) * fac n
/-- n (n - 1) .., p of them -/
def desc (n : Nat) : Nat → Nat
  | 0 => 1
  | p + 1 => desc n p * (n - p)
theorem ch_zero (n : Nat) : ch n 0 = 1 := by cases n <;> rw [ch]
theorem ch_big : ∀ {n p : Nat}, n < p → ch n p = 0
  | 0, 0, h => by omega
  | 0, p + 1, _ => by rw [ch]
  | n + 1, 0, h => by omega
  | n + 1, p + 1, h => by rw [ch, ch_big (by omega), ch_big (by omega)]
theorem ch_self : ∀ n : Nat, ch n n = 1
  | 0 => by rw [ch]
  | n + 1 => by rw [ch, ch_self n, ch_big (by omega)]
theorem ch_next : ∀ n p : Nat, ch n (p + 1) * (p + 1) = ch n p * (n - p)
  | 0, p => by rw [ch, Nat.zero_sub, Nat.mul_zero, Nat.zero_mul]
  | n + 1, 0 => by
    have h := ch_next n 0
    rw [ch_zero] at h ⊢
    rw [ch, ch_zero]
    simp at h ⊢
    omega
  | n + 1, p + 1 => by
    have h1 := ch_next n (p + 1)
    have h2 := ch_next n p
    rw [ch, ch]
    by_cases hp : p < n
    · obtain ⟨d, rfl⟩ : ∃ d, n = p + 1 + d := ⟨n - p - 1, by omega⟩
      rw [show p + 1 + d - (p + 1) = d by omega] at h1
      rw [show p + 1 + d - p = d + 1 by omega] at h2
      rw [show p + 1 + d + 1 - (p + 1) = d + 1 by omega]
      grind
    · have e : ch n (p + 1) = 0 := ch_big (by omega)
      rw [e] at h1 h2 ⊢
      rw [show n + 1 - (p + 1) = n - p by omega, show n - p = 0 by omega]
      rw [ch_big (show n < p + 1 + 1 by omega)]
      simp
theorem ch_fac : ∀ n p : Nat, ch n p * fac p = desc n p
  | n, 0 => by rw [ch_zero, fac, desc]
  | n, p + 1 => by
    rw [fac, desc, ← ch_fac n p, ← Nat.mul_assoc, ch_next]
    rw [Nat.mul_assoc, Nat.mul_comm (n - p), ← Nat.mul_assoc]
theorem fac_pos : ∀ n, 0 < fac n
  | 0 => Nat.one_pos
  | n + 1 => Nat.mul_pos (Nat.succ_pos _) (fac_pos n)
theorem ch_pos : ∀ {n p : Nat}, p ≤ n → 0 < ch n p
  | _, 0, _ => by rw [ch_zero]; exact Nat.one_pos
  | 0, p + 1, h => by omega
  | n + 1, p + 1, h => by
    rw [ch]
    have := ch_pos (n := n) (p := p) (by omega)
    omega
theorem ch_le : ∀ n p : Nat, ch n p ≤ 2 ^ n
  | n, 0 => by rw [ch_zero]; exact Nat.one_le_two_pow
  | 0, p + 1 => by rw [ch]; exact Nat.zero_le _
  | n + 1, p + 1 => by
    rw [ch, Nat.pow_succ]
    have a := ch_le n p
    have b := ch_le n (p + 1)
    omega
theorem fac_le {m : Nat} : ∀ n, n ≤ 2 ^ m → fac n ≤ 2 ^ (m * n)
  | 0, _ => by rw [fac]; exact Nat.one_le_two_pow
  | n + 1, h => by
    rw [fac, Nat.mul_succ, Nat.pow_add, Nat.mul_comm]
    exact Nat.mul_le_mul (fac_le n (by omega)) h
theorem pow_le8 {n k : Nat} (h : n ≤ 256) : n ^ k ≤ 2 ^ (8 * k) := by
  rw [Nat.pow_mul]
  exact Nat.pow_le_pow_left h k
/-- the one step of the program -/
theorem ch_turn (n p : Nat) : ch n p * (n - p) / (p + 1) = ch n (p + 1) := by
  rw [← ch_next, Nat.mul_div_cancel _ (Nat.succ_pos _)]

/-! ### the likeliest -/
structure LkS where
  b0 : Nat
  b1 : Nat
  ns : List Nat
/-- n is looked at: its chance is w of p -/
def lkStep (st : LkS) (n w p : Nat) : LkS :=
  let s1 : LkS := if st.b0 * p < w * st.b1 then ⟨w, p, []⟩ else st
  if w * s1.b1 = s1.b0 * p then ⟨s1.b0, s1.b1, s1.ns ++ [n]⟩ else s1
def lk (r k : Nat) : Nat → LkS
  | 0 => ⟨0, 1, []⟩
  | i + 1 => lkStep (lk r k i) (r + i) (ch (r + i) r) ((r + i) ^ k)
/-- as the law turns it: the numbers from 1 on, choices in order -/
def lq (r k : Nat) : Nat → LkS
  | 0 => ⟨0, 1, []⟩
  | i + 1 => if r ≤ i + 1 then lkStep (lq r k i) (i + 1) (desc (i + 1) r) ((i + 1) ^ k) else lq r k i
def LkS.times (f : Nat) (s : LkS) : LkS := ⟨s.b0 * f, s.b1, s.ns⟩
theorem lkStep_times {f : Nat} (hf : 0 < f) (s : LkS) (n w p : Nat) : lkStep (s.times f) n (w * f) p = (lkStep s n w p).times f := by
  unfold lkStep LkS.times
  have e1 : s.b0 * f * p < w * f * s.b1 ↔ s.b0 * p < w * s.b1 := by
    rw [Nat.mul_right_comm, Nat.mul_right_comm w]
    exact Nat.mul_lt_mul_right hf
  have e2 : ∀ x y : Nat, w * f * y = x * f * p ↔ w * y = x * p := by
    intro x y
    rw [Nat.mul_right_comm, Nat.mul_right_comm x]
    exact Nat.mul_left_inj (Nat.ne_of_gt hf)
  by_cases h : s.b0 * p < w * s.b1
  · simp only [if_pos h, if_pos (e1.mpr h)]
    by_cases h2 : w * p = w * p
    · simp
    · exact absurd rfl h2
  · simp only [if_neg h, if_neg (fun z => h (e1.mp z))]
    by_cases h2 : w * s.b1 = s.b0 * p
    · rw [if_pos h2, if_pos ((e2 _ _).mpr h2)]
    · rw [if_neg h2, if_neg (fun z => h2 ((e2 _ _).mp z))]
theorem lq_low {r k : Nat} : ∀ i, i < r → lq r k i = ⟨0, 1, []⟩
  | 0, _ => by rw [lq]
  | i + 1, h => by rw [lq, if_neg (by omega), lq_low i (by omega)]
theorem lq_lk {r k : Nat} (hr : 1 ≤ r) : ∀ i, lq r k (r - 1 + i) = (lk r k i).times (fac r)
  | 0 => by
    rw [Nat.add_zero, lq_low _ (by omega), lk, LkS.times, Nat.zero_mul]
  | i + 1 => by
    rw [show r - 1 + (i + 1) = (r - 1 + i) + 1 by omega, lq, if_pos (by omega), lq_lk hr i, lk, ← lkStep_times (fac_pos r), ch_fac, show r - 1 + i + 1 = r + i by omega]
theorem lq_ns {r k : Nat} (hr : 1 ≤ r) (m : Nat) : (lq r k m).ns = (lk r k (m + 1 - r)).ns := by
  by_cases h : m < r
  · rw [lq_low m h, show m + 1 - r = 0 by omega, lk]
  · have e := lq_lk (k := k) hr (m + 1 - r)
    rw [show r - 1 + (m + 1 - r) = m by omega] at e
    rw [e, LkS.times]
theorem lkStep_bd {s : LkS} {n w p B C : Nat} (h0 : s.b0 ≤ B) (h1 : s.b1 ≤ C) (hw : w ≤ B) (hp : p ≤ C) : (lkStep s n w p).b0 ≤ B ∧ (lkStep s n w p).b1 ≤ C := by
  unfold lkStep
  by_cases h : s.b0 * p < w * s.b1
  · simp only [if_pos h]
    split
    · exact ⟨hw, hp⟩
    · exact ⟨hw, hp⟩
  · simp only [if_neg h]
    split
    · exact ⟨h0, h1⟩
    · exact ⟨h0, h1⟩
theorem lkStep_len {s : LkS} {n w p m : Nat} (h : s.ns.length ≤ m) : (lkStep s n w p).ns.length ≤ m + 1 := by
  unfold lkStep
  by_cases q : s.b0 * p < w * s.b1
  · simp only [if_pos q]
    split <;> simp
  · simp only [if_neg q]
    split
    · rw [List.length_append]; simp; exact h
    · omega
theorem lk_bd {r k : Nat} (hr : 1 ≤ r) (hk : k ≤ 100) : ∀ i, r + i ≤ 201 → (lk r k i).b0 ≤ 2 ^ 200 ∧ (lk r k i).b1 ≤ 2 ^ 800 ∧ (lk r k i).ns.length ≤ i
  | 0, _ => by rw [lk]; exact ⟨Nat.zero_le _, Nat.one_le_two_pow, Nat.zero_le _⟩
  | i + 1, h => by
    rw [lk]
    have b := lk_bd hr hk i (by omega)
    have c := lkStep_bd (n := r + i) b.1 b.2.1 (w := ch (r + i) r) (p := (r + i) ^ k) (Nat.le_trans (ch_le _ _) (pow_mono2 (by omega))) (Nat.le_trans (pow_le8 (by omega)) (pow_mono2 (by omega)))
    exact ⟨c.1, c.2, lkStep_len b.2.2⟩
theorem desc_le {n r : Nat} (hn : n ≤ 256) : desc n r ≤ 2 ^ (8 * r) := by
  induction r with
  | zero => rw [desc]; exact Nat.one_le_two_pow
  | succ r ih =>
    rw [desc, Nat.mul_succ, Nat.pow_add]
    exact Nat.mul_le_mul ih (by omega)
theorem desc_pos {n r : Nat} (h : r ≤ n) : 0 < desc n r := by
  rw [← ch_fac]
  exact Nat.mul_pos (ch_pos h) (fac_pos r)
theorem lq_bd {r k : Nat} (hr : r ≤ 100) (hk : k ≤ 100) : ∀ i, i ≤ 200 → (lq r k i).b0 ≤ 2 ^ 800 ∧ (lq r k i).b1 ≤ 2 ^ 800 ∧ (lq r k i).ns.length ≤ i
  | 0, _ => by rw [lq]; exact ⟨Nat.zero_le _, Nat.one_le_two_pow, Nat.zero_le _⟩
  | i + 1, h => by
    have b := lq_bd hr hk i (by omega)
    rw [lq]
    split
    · have c := lkStep_bd (n := i + 1) b.1 b.2.1 (w := desc (i + 1) r) (p := (i + 1) ^ k) (Nat.le_trans (desc_le (by omega)) (pow_mono2 (by omega))) (Nat.le_trans (pow_le8 (by omega)) (pow_mono2 (by omega)))
      exact ⟨c.1, c.2, lkStep_len b.2.2⟩
    · exact ⟨b.1, b.2.1, by omega⟩
end Ab
/-! PART rows: rows of packs among which all lacking pictures are. -/
namespace Ab
open PySem PySem.Spec PyProof.Rows L2
def sg : Nat → Int
  | 0 => 1
  | n + 1 => -sg n
/-- the first j parts of the sum -/
def sT (m l k : Nat) : Nat → Int
  | 0 => 0
  | j + 1 => sT m l k j + sg j * ((ch l j : Nat) : Int) * ((m : Int) - (j : Int)) ^ k
def sV (m l k : Nat) : Int := sT m l k (l + 1)
theorem ch_abs : ∀ l j : Nat, ch (l + 1) (j + 1) * (j + 1) = (l + 1) * ch l j := by
  intro l
  induction l with
  | zero =>
    intro j
    cases j with
    | zero => decide
    | succ j =>
      rw [ch_big (show 0 + 1 < j + 1 + 1 by omega), ch_big (show 0 < j + 1 by omega)]
      simp
  | succ l ih =>
    intro j
    have h := ch_next (l + 1) j
    rw [ch]
    by_cases e : j ≤ l + 1
    · rw [Nat.add_mul, h]
      obtain ⟨d, hd⟩ : ∃ d, l + 1 = j + d := ⟨l + 1 - j, by omega⟩
      rw [show l + 1 - j = d by omega, Nat.mul_comm (l + 1 + 1), ← Nat.mul_add]
      congr 1
      omega
    · rw [ch_big (show l + 1 < j by omega), ch_big (show l + 1 < j + 1 by omega)]
      simp
theorem sT_step (m l k : Nat) : ∀ j, sT (m + 1) (l + 1) (k + 1) (j + 1) = ((m + 1 : Nat) : Int) * sT (m + 1) (l + 1) k (j + 1) + ((l + 1 : Nat) : Int) * sT m l k j
  | 0 => by
    simp only [sT, sg, ch_zero]
    grind
  | j + 1 => by
    rw [sT, sT_step m l k j, sT.eq_2 (m + 1) (l + 1) k (j + 1), sT.eq_2 m l k j]
    have a : ((ch (l + 1) (j + 1) : Nat) : Int) * ((j : Int) + 1) = ((l : Int) + 1) * ((ch l j : Nat) : Int) := by exact_mod_cast ch_abs l j
    rw [sg]
    have e1 : ((m + 1 : Nat) : Int) - ((j + 1 : Nat) : Int) = (m : Int) - (j : Int) := by omega
    rw [e1, Int.pow_succ]
    generalize ((m : Int) - (j : Int)) ^ k = p
    generalize ((ch (l + 1) (j + 1) : Nat) : Int) = c at *
    generalize ((ch l j : Nat) : Int) = d at *
    generalize sT (m + 1) (l + 1) k (j + 1) = x
    generalize sT m l k j = y
    generalize sg j = g
    have a1 : ((m + 1 : Nat) : Int) = (m : Int) + 1 := by omega
    have a2 : ((l + 1 : Nat) : Int) = (l : Int) + 1 := by omega
    rw [a1, a2]
    generalize (m : Int) = M
    generalize (j : Int) = J at *
    generalize (l : Int) = L at *
    have e : g * p * (c * (J + 1)) = g * p * ((L + 1) * d) := by rw [a]
    grind
theorem sV_step {m l k : Nat} : sV (m + 1) (l + 1) (k + 1) = ((m + 1 : Nat) : Int) * sV (m + 1) (l + 1) k + ((l + 1 : Nat) : Int) * sV m l k := sT_step m l k (l + 1)
theorem sV_zero {m k : Nat} : sV m 0 k = (m : Int) ^ k := by
  simp only [sV, sT, sg, ch_zero]
  simp
theorem sT_base (m l : Nat) : ∀ j, sT m (l + 1) 0 (j + 1) = sg j * ((ch l j : Nat) : Int)
  | 0 => by simp only [sT, sg, ch_zero]; grind
  | j + 1 => by
    rw [sT, sT_base m l j, ch, sg]
    simp
    grind
theorem sV_base {m l : Nat} : sV m (l + 1) 0 = 0 := by
  rw [sV, sT_base, ch_big (by omega)]
  simp
/-- the rows that lead from h to m -/
def rw' (n h : Nat) : Nat → Nat → Nat
  | 0, m => if m = h then 1 else 0
  | k + 1, m => rw' n h k m * m + (if 0 < m then rw' n h k (m - 1) * (n - m + 1) else 0)
theorem rw_eq {n h : Nat} (hn : h ≤ n) : ∀ k m, m ≤ n → ((rw' n h k m : Nat) : Int) = if h ≤ m then ((ch (n - h) (m - h) : Nat) : Int) * sV m (m - h) k else 0
  | 0, m, hm => by
    rw [rw']
    by_cases e : m = h
    · subst e
      rw [if_pos rfl, if_pos (Nat.le_refl _), Nat.sub_self, ch_zero, sV_zero]
      simp
    · rw [if_neg e]
      by_cases e2 : h ≤ m
      · obtain ⟨d, rfl⟩ : ∃ d, m = h + (d + 1) := ⟨m - h - 1, by omega⟩
        rw [if_pos e2, show h + (d + 1) - h = d + 1 by omega, sV_base]
        simp
      · rw [if_neg e2]
        rfl
  | k + 1, m, hm => by
    rw [rw', Int.natCast_add, Int.natCast_mul, rw_eq hn k m hm]
    by_cases e2 : h ≤ m
    · rw [if_pos e2, if_pos e2]
      by_cases e : m = h
      · subst e
        have z : ((if 0 < m then rw' n m k (m - 1) * (n - m + 1) else 0 : Nat) : Int) = 0 := by
          by_cases p : 0 < m
          · rw [if_pos p, Int.natCast_mul, rw_eq hn k (m - 1) (by omega), if_neg (by omega)]
            simp
          · rw [if_neg p]; rfl
        rw [z, Nat.sub_self, ch_zero, sV_zero, sV_zero, Int.pow_succ]
        simp
      · obtain ⟨d, rfl⟩ : ∃ d, m = h + d + 1 := ⟨m - h - 1, by omega⟩
        rw [if_pos (by omega), Int.natCast_mul, rw_eq hn k (h + d + 1 - 1) (by omega), if_pos (by omega), show h + d + 1 - 1 = h + d by omega, show h + d - h = d by omega, show h + d + 1 - h = d + 1 by omega, sV_step]
        have a : ((ch (n - h) (d + 1) : Nat) : Int) * ((d + 1 : Nat) : Int) = ((ch (n - h) d : Nat) : Int) * ((n - (h + d + 1) + 1 : Nat) : Int) := by
          have b := ch_next (n - h) d
          rw [show n - h - d = n - (h + d + 1) + 1 by omega] at b
          exact_mod_cast b
        generalize ((ch (n - h) (d + 1) : Nat) : Int) = c1 at *
        generalize ((ch (n - h) d : Nat) : Int) = c0 at *
        generalize ((n - (h + d + 1) + 1 : Nat) : Int) = f at *
        generalize sV (h + d + 1) (d + 1) k = s1
        generalize sV (h + d) d k = s0
        generalize ((h + d + 1 : Nat) : Int) = M
        generalize ((d + 1 : Nat) : Int) = D at *
        have e : c1 * D * s0 = c0 * f * s0 := by rw [a]
        grind
    · rw [if_neg e2, if_neg e2]
      by_cases p : 0 < m
      · rw [if_pos p, Int.natCast_mul, rw_eq hn k (m - 1) (by omega), if_neg (by omega)]
        simp
      · rw [if_neg p]
        simp
theorem rw_all {n h k : Nat} (hn : h ≤ n) : ((rw' n h k n : Nat) : Int) = sV n (n - h) k := by
  rw [rw_eq hn k n (Nat.le_refl n), if_pos hn, ch_self]
  simp
theorem rw_some {n k m : Nat} (hm : m ≤ n) : ((rw' n 0 k m : Nat) : Int) = ((ch n m : Nat) : Int) * sV m m k := by
  rw [rw_eq (Nat.zero_le n) k m hm, if_pos (Nat.zero_le _)]
  rfl
/-- its size -/
theorem sg_abs : ∀ j, (sg j).natAbs = 1
  | 0 => rfl
  | j + 1 => by rw [sg, Int.natAbs_neg, sg_abs j]
theorem sT_le {m l k : Nat} (hm : m ≤ 64) : ∀ j, j ≤ l + 1 → l ≤ m → (sT m l k j).natAbs ≤ j * 2 ^ (l + 6 * k)
  | 0, _, _ => by rw [sT]; exact Nat.zero_le _
  | j + 1, h, hl => by
    rw [sT, Nat.succ_mul]
    refine Nat.le_trans (Int.natAbs_add_le _ _) (Nat.add_le_add (sT_le hm j (by omega) hl) ?_)
    rw [Int.natAbs_mul, Int.natAbs_mul, sg_abs, Nat.one_mul, Int.natAbs_natCast, Nat.pow_add]
    refine Nat.mul_le_mul (ch_le l j) ?_
    rw [show (m : Int) - (j : Int) = ((m - j : Nat) : Int) by omega, ← Int.natCast_pow, Int.natAbs_natCast, Nat.pow_mul]
    exact Nat.pow_le_pow_left (by omega) k
theorem sV_le {m l k : Nat} (hm : m ≤ 40) (hl : l ≤ m) (hk : k ≤ 100) : (sV m l k).natAbs < 2 ^ 700 := by
  have a := sT_le (m := m) (l := l) (k := k) (by omega) (l + 1) (Nat.le_refl _) hl
  have b : (l + 1) * 2 ^ (l + 6 * k) ≤ 64 * 2 ^ 640 := Nat.mul_le_mul (by omega) (pow_mono2 (by omega))
  exact Nat.lt_of_le_of_lt (Nat.le_trans a b) (by decide +kernel)
end Ab
/-! PART steps: means from picture to picture. -/
namespace Ab
open PySem PySem.Spec PyProof.Rows L2
/-- n over L, n over L - 1, .. down to b + 1 -/
def smL (n L b : Nat) : List Rat := (List.range (L - b)).map fun i => Rat.divInt (n : Int) ((L - i : Nat) : Int)
theorem smL_len (n L b : Nat) : (smL n L b).length = L - b := by unfold smL; simp
theorem smL_snoc {n L b : Nat} (h : b < L) : smL n L b = smL n L (b + 1) ++ [Rat.divInt (n : Int) ((b + 1 : Nat) : Int)] := by
  unfold smL
  rw [show L - b = L - (b + 1) + 1 by omega, range_map_succ, show L - (L - (b + 1)) = b + 1 by omega]
theorem smL_self (n L : Nat) : smL n L L = [] := by unfold smL; simp
theorem smL_each {n L b : Nat} (hn : n ≤ 512) (hL : L ≤ n) : ∀ q ∈ smL n L b, Sz q 10 := by
  intro q hq
  unfold smL at hq
  obtain ⟨i, hi, rfl⟩ := List.mem_map.mp hq
  have := List.mem_range.mp hi
  exact sz_divInt (by omega) (by rw [Int.natAbs_natCast]; omega) (by rw [Int.natAbs_natCast]; omega)
theorem smL_sum {n L b : Nat} (hn : n ≤ 512) (hL : L ≤ n) (h : L ≤ 300) : SumSz (smL n L b) ((10 + 1) * 300 + 1) 10 :=
  SumSz.of (smL_each hn hL) (by rw [smL_len]; omega) (by decide)
theorem smL_sz {n L b : Nat} (hn : n ≤ 512) (hL : L ≤ n) (h : L ≤ 300) : Sz (smL n L b).sum 3301 := by
  have z := (smL_sum (b := b) hn hL h).part (smL n L b).length (Nat.le_refl _)
  rw [List.take_length] at z
  exact z
theorem smL_down {n L b : Nat} (h : b < L) : (smL n L b).sum = (smL n L (b + 1)).sum + Rat.divInt (n : Int) ((b + 1 : Nat) : Int) := by rw [smL_snoc h, sum_app_one]
theorem smL_nil {n L b : Nat} (h : L ≤ b) : (smL n L b).sum = 0 := by
  unfold smL
  rw [show L - b = 0 by omega]
  rfl
/-- mean packs, costs, doubles of a way -/
def mP (n h b : Nat) : Rat := (smL n (n - h) b).sum
def mC (n h b c k : Nat) : Rat := mP n h b * ((k : Int) : Rat) + (((b * c : Nat) : Int) : Rat)
def mD (n h b : Nat) : Rat := mP n h b - (((n : Int) - (h : Int) - (b : Int) : Int) : Rat)
theorem mP_sz {n h b : Nat} (hn : n ≤ 300) : Sz (mP n h b) 3301 := smL_sz (by omega) (by omega) (by omega)
theorem mC_sz {n h b c k : Nat} (hn : n ≤ 300) (hb : b ≤ 4) (hc : c ≤ 50) (hk : k ≤ 3) : Sz (mC n h b c k) 3320 := by
  have bc : b * c ≤ 4 * 50 := Nat.mul_le_mul hb hc
  exact (((mP_sz hn).mul (Sz.int (i := (k : Int)) (k := 2) (by omega) (by decide))).add (Sz.int (i := ((b * c : Nat) : Int)) (k := 10) (by omega) (by decide))).mono (by decide)
theorem mD_sz {n h b : Nat} (hn : n ≤ 300) (hh : h ≤ 5) (hb : b ≤ 4) : Sz (mD n h b) 3320 := by
  unfold mD
  rw [Rat.sub_eq_add_neg]
  exact ((mP_sz hn).add (Sz.int (i := ((n : Int) - (h : Int) - (b : Int))) (k := 10) (by omega) (by decide)).neg).mono (by decide)
theorem sum_nonneg : ∀ {l : List Rat}, (∀ q ∈ l, 0 ≤ q) → 0 ≤ l.sum
  | [], _ => by rw [List.sum_nil]; exact Rat.le_refl
  | q :: l, h => by
    rw [List.sum_cons]
    exact Rat.add_nonneg (h q List.mem_cons_self) (sum_nonneg fun p hp => h p (List.mem_cons_of_mem _ hp))
theorem mP_nonneg (n h b : Nat) : 0 ≤ mP n h b := by
  refine sum_nonneg fun q hq => ?_
  unfold smL at hq
  obtain ⟨i, hi, rfl⟩ := List.mem_map.mp hq
  have := List.mem_range.mp hi
  rw [divInt_nat]
  exact rat_div_nonneg (nat_nonneg n) (natq_pos (by omega))
theorem mP_more {n h b : Nat} (hb : b < n - h) : mP n h b = mP n h (b + 1) + Rat.divInt (n : Int) ((b + 1 : Nat) : Int) := smL_down hb
/-- the chances of all numbers together -/
def rsum (n k : Nat) : Nat → Nat
  | 0 => 0
  | i + 1 => rsum n k i + rw' n 0 k i
theorem rsum_next (n k : Nat) : ∀ i, i ≤ n + 1 → rsum n (k + 1) i + (if 0 < i then rw' n 0 k (i - 1) * (n + 1 - i) else 0) = n * rsum n k i
  | 0, _ => by simp [rsum]
  | i + 1, h => by
    have ih := rsum_next n k i (by omega)
    rw [rsum, rsum, rw', Nat.mul_add n, ← ih, if_pos (show 0 < i + 1 by omega), show i + 1 - 1 = i by omega]
    by_cases p : 0 < i
    · rw [if_pos p, if_pos p, show n - i + 1 = n + 1 - i by omega]
      have e : rw' n 0 k i * i + rw' n 0 k i * (n + 1 - (i + 1)) = n * rw' n 0 k i := by
        rw [← Nat.mul_add, Nat.mul_comm]
        congr 1
        omega
      omega
    · rw [if_neg p, if_neg p]
      have z : i = 0 := by omega
      subst z
      simp
      rw [Nat.mul_comm]
theorem rsum_all (n : Nat) : ∀ k, rsum n k (n + 1) = n ^ k
  | 0 => by
    have key : ∀ i, rsum n 0 (i + 1) = 1 := by
      intro i
      induction i with
      | zero => rfl
      | succ i ih => rw [rsum, ih, rw', if_neg (by omega)]
    rw [key, Nat.pow_zero]
  | k + 1 => by
    have e := rsum_next n k (n + 1) (Nat.le_refl _)
    rw [rsum_all n k, if_pos (by omega), Nat.sub_self, Nat.mul_zero, Nat.add_zero] at e
    rw [e, Nat.pow_succ, Nat.mul_comm]
theorem rsum_mono (n k : Nat) : ∀ {i j : Nat}, i ≤ j → rsum n k i ≤ rsum n k j := by
  intro i j h
  induction j with
  | zero =>
    have : i = 0 := by omega
    subst this
    exact Nat.le_refl _
  | succ j ih =>
    by_cases e : i = j + 1
    · subst e; exact Nat.le_refl _
    · rw [rsum]
      exact Nat.le_trans (ih (by omega)) (Nat.le_add_right _ _)
abbrev chF (n k m : Nat) : Rat := Rat.divInt (((ch n m : Nat) : Int) * sV m m k) ((n ^ k : Nat) : Int)
theorem chF_sum {n k : Nat} (hn : 0 < n) : ∀ i, i ≤ n + 1 → ((List.range i).map (chF n k)).sum = Rat.divInt ((rsum n k i : Nat) : Int) ((n ^ k : Nat) : Int)
  | 0, _ => by
    rw [rsum, divInt_nat]
    have := natq_ne (Nat.pow_pos (n := k) hn)
    show (0 : Rat) = ((0 : Nat) : Rat) / _
    rw [show ((0 : Nat) : Rat) = 0 from rfl]
    grind
  | i + 1, h => by
    rw [range_map_succ, sum_app_one, chF_sum hn i (by omega), rsum, chF, ← rw_some (by omega), divInt_nat, divInt_nat, divInt_nat, nat_cast_add]
    have := natq_ne (Nat.pow_pos (n := k) hn)
    grind
end Ab
/-! PART buying: the mean costs by all numbers that are bought; the least one. -/
namespace Ab
open PySem PySem.Spec PyProof.Rows L2
/-- the mean cost where j are bought -/
def cF (n L price pack j : Nat) : Rat := (smL n L j).sum * (pack : Rat) + ((j * price : Nat) : Rat)
theorem cF_next {n L price pack j : Nat} (h : j < L) : cF n L price pack j = cF n L price pack (j + 1) + ((pack * n : Nat) : Rat) / ((j + 1 : Nat) : Rat) - (price : Rat) := by
  unfold cF
  rw [smL_down h, divInt_nat, Nat.succ_mul, nat_cast_add, nat_cast_mul pack n]
  have := natq_ne (Nat.succ_pos j)
  grind
theorem cF_lt {n L price pack j : Nat} (h : j < L) : cF n L price pack (j + 1) < cF n L price pack j ↔ price * (j + 1) < pack * n := by
  rw [cF_next h]
  have p := natq_pos (Nat.succ_pos j)
  have e : ((pack * n : Nat) : Rat) = ((pack * n : Nat) : Rat) / ((j + 1 : Nat) : Rat) * ((j + 1 : Nat) : Rat) := by have := Rat.ne_of_gt p; grind
  constructor
  · intro q
    have q2 : (price : Rat) < ((pack * n : Nat) : Rat) / ((j + 1 : Nat) : Rat) := by grind
    have q3 := (Rat.mul_lt_mul_right p).mpr q2
    rw [← e, ← nat_cast_mul] at q3
    exact Rat.natCast_lt_natCast.mp q3
  · intro q
    have q3 : ((price * (j + 1) : Nat) : Rat) < ((pack * n : Nat) : Rat) := Rat.natCast_lt_natCast.mpr q
    rw [nat_cast_mul, e] at q3
    have q2 := (Rat.mul_lt_mul_right p).mp q3
    grind
/-- how many are best bought -/
def jF (n L price pack : Nat) : Nat := if price = 0 then L else min L ((pack * n - 1) / price)
theorem jF_le {n L price pack : Nat} : jF n L price pack ≤ L := by unfold jF; split <;> omega
theorem jF_iff {n L price pack j : Nat} (hn : 0 < n) (hp : 0 < pack) (h : j < L) : price * (j + 1) < pack * n ↔ j + 1 ≤ jF n L price pack := by
  have pn : 0 < pack * n := Nat.mul_pos hp hn
  unfold jF
  by_cases z : price = 0
  · rw [if_pos z, z]
    omega
  · rw [if_neg z]
    have k := Nat.le_div_iff_mul_le (x := j + 1) (y := pack * n - 1) (Nat.pos_of_ne_zero z)
    rw [Nat.mul_comm (j + 1)] at k
    constructor
    · intro q
      have : j + 1 ≤ (pack * n - 1) / price := k.mpr (by omega)
      omega
    · intro q
      have := k.mp (by omega)
      omega
/-- from jF on it does not fall -/
theorem cF_up {n L price pack : Nat} (hn : 0 < n) (hp : 0 < pack) : ∀ d, jF n L price pack + d ≤ L → cF n L price pack (jF n L price pack) ≤ cF n L price pack (jF n L price pack + d)
  | 0, _ => Rat.le_refl
  | d + 1, h => by
    refine Rat.le_trans (cF_up hn hp d (by omega)) ?_
    have a := cF_lt (n := n) (L := L) (price := price) (pack := pack) (j := jF n L price pack + d) (by omega)
    have b := jF_iff (L := L) (price := price) (j := jF n L price pack + d) hn hp (by omega)
    rw [← Rat.not_lt]
    intro z
    have := b.mp (a.mp z)
    omega
/-- the law's turn -/
theorem best_turn {n L price pack i : Nat} (hn : 0 < n) (hp : 0 < pack) (h : i < L) :
    (if cF n L price pack (i + 1) < cF n L price pack (min i (jF n L price pack)) then i + 1 else min i (jF n L price pack)) = min (i + 1) (jF n L price pack) := by
  by_cases c : i + 1 ≤ jF n L price pack
  · rw [show min i (jF n L price pack) = i by omega, if_pos ((cF_lt h).mpr ((jF_iff hn hp h).mpr c))]
    omega
  · rw [show min i (jF n L price pack) = jF n L price pack by omega, if_neg ?_]
    · omega
    · rw [Rat.not_lt]
      have z := cF_up (n := n) (L := L) (price := price) (pack := pack) hn hp (i + 1 - jF n L price pack) (by omega)
      rw [show jF n L price pack + (i + 1 - jF n L price pack) = i + 1 by omega] at z
      exact z
theorem rat_cross {p q : Rat} : p < q ↔ p.num * (q.den : Int) < q.num * (p.den : Int) := Rat.lt_iff p q
/-- its size -/
theorem cF_sz {n L price pack j : Nat} (hn : n ≤ 300) (hL : L ≤ n) (hp : pack ≤ 1000) (hq : price ≤ 1000) (hj : j ≤ 300) : Sz (cF n L price pack j) 3340 := by
  unfold cF
  have a := (smL_sz (n := n) (L := L) (b := j) (by omega) hL (by omega)).mul (Sz.int (i := (pack : Int)) (k := 10) (by omega) (by decide))
  have jp : j * price ≤ 300 * 1000 := Nat.mul_le_mul hj hq
  exact (a.add (Sz.int (i := ((j * price : Nat) : Int)) (k := 20) (by omega) (by decide))).mono (by decide)
/-- the rule -/
theorem rule_div {price pack n L : Nat} (hq : 0 < price) (hp : 0 < pack) : min L ((pack / Nat.gcd price pack * n - 1) / (price / Nat.gcd price pack)) = min L ((pack * n - 1) / price) := by
  have g0 : 0 < Nat.gcd price pack := Nat.gcd_pos_of_pos_left _ hq
  obtain ⟨b, hb⟩ := Nat.gcd_dvd_left price pack
  obtain ⟨a, ha⟩ := Nat.gcd_dvd_right price pack
  have eb : price / Nat.gcd price pack = b := Nat.div_eq_of_eq_mul_right g0 hb
  have ea : pack / Nat.gcd price pack = a := Nat.div_eq_of_eq_mul_right g0 ha
  rw [ea, eb]
  have b0 : 0 < b := Nat.pos_of_ne_zero (fun z => by rw [z] at hb; omega)
  have key : ∀ j, j ≤ (a * n - 1) / b ↔ j ≤ (pack * n - 1) / price := by
    intro j
    rw [Nat.le_div_iff_mul_le b0, Nat.le_div_iff_mul_le hq]
    have e1 : j * price = Nat.gcd price pack * (j * b) := by
      rw [← Nat.mul_assoc, Nat.mul_comm _ j, Nat.mul_assoc, ← hb]
    have e2 : pack * n = Nat.gcd price pack * (a * n) := by
      rw [← Nat.mul_assoc, ← ha]
    rw [e1, e2]
    generalize j * b = x
    generalize a * n = y
    generalize Nat.gcd price pack = g at *
    constructor
    · intro z
      by_cases y0 : y = 0
      · subst y0
        have : x = 0 := by omega
        subst this
        omega
      · have : g * (x + 1) ≤ g * y := Nat.mul_le_mul_left _ (by omega)
        rw [Nat.mul_add] at this
        omega
    · intro z
      by_cases y0 : y = 0
      · subst y0
        simp at z
        have : g * x = 0 := by omega
        rcases Nat.mul_eq_zero.mp this with q | q <;> omega
      · have gy : 0 < g * y := Nat.mul_pos g0 (by omega)
        have : g * x < g * y := by omega
        have := Nat.lt_of_mul_lt_mul_left this
        omega
  have : (a * n - 1) / b = (pack * n - 1) / price := by
    have k1 := (key ((a * n - 1) / b)).mp (Nat.le_refl _)
    have k2 := (key ((pack * n - 1) / price)).mpr (Nat.le_refl _)
    omega
  rw [this]
theorem rule_same {c k : Nat} (hc : 0 < c) : k / Nat.gcd c k * c = c / Nat.gcd c k * k := by
  have g0 : 0 < Nat.gcd c k := Nat.gcd_pos_of_pos_left _ hc
  obtain ⟨b, hb⟩ := Nat.gcd_dvd_left c k
  obtain ⟨a, ha⟩ := Nat.gcd_dvd_right c k
  rw [Nat.div_eq_of_eq_mul_right g0 hb, Nat.div_eq_of_eq_mul_right g0 ha]
  generalize Nat.gcd c k = g at *
  rw [hb, ha]
  rw [← Nat.mul_assoc, ← Nat.mul_assoc, Nat.mul_comm a g, Nat.mul_comm b g, Nat.mul_assoc, Nat.mul_assoc, Nat.mul_comm a b]
theorem rule_low {c k : Nat} (hc : 0 < c) : fr (Rat.divInt ((k / Nat.gcd c k : Nat) : Int) ((c / Nat.gcd c k : Nat) : Int)) = pr ((k / Nat.gcd c k : Nat) : Int) ((c / Nat.gcd c k : Nat) : Int) := by
  have g0 : 0 < Nat.gcd c k := Nat.gcd_pos_of_pos_left _ hc
  have co : Nat.gcd (k / Nat.gcd c k) (c / Nat.gcd c k) = 1 := by
    rw [Nat.gcd_comm c k] at g0 ⊢
    have := Nat.coprime_div_gcd_div_gcd g0
    exact this
  have b0 : 0 < c / Nat.gcd c k := Nat.div_pos (Nat.gcd_le_left _ hc) g0
  rw [fr, num_of (by omega), den_of (by omega), show Int.gcd ((k / Nat.gcd c k : Nat) : Int) ((c / Nat.gcd c k : Nat) : Int) = 1 from co]
  simp
end Ab
/-! PART ways: a way as an instance, a draw as a table. -/
namespace Ab
open PySem PySem.Spec PyProof.Rows L2
abbrev wayF (h b c k : Nat) : List (Str × V) := [("begun", .int (h : Int)), ("last", .int (b : Int)), ("each", .int (c : Int)), ("charge", .int (k : Int)), ("low", .int ((max 1 (h + b) : Nat) : Int))]
/-- at a stands the way of these parts -/
def WayAt (K : Fr0) (H : Hp) (a : Addr) (h b c k : Nat) : Prop := ∃ dx, H a = some (.ins (fA K "Way") dx (wayF h b c k))
theorem WayAt.same {K : Fr0} {H H' : Hp} {a : Addr} {h b c k : Nat} (s : Same H H') (w : WayAt K H a h b c k) : WayAt K H' a h b c k := by
  obtain ⟨dx, e⟩ := w
  exact ⟨dx, s _ _ e⟩
theorem WayAt.chg {K : Fr0} {H H' : Hp} {r a : Addr} {h b c k : Nat} (s : Chg r H H') (w : WayAt K H a h b c k) : WayAt K H' a h b c k := by
  obtain ⟨dx, e⟩ := w
  exact ⟨dx, s.at e fun _ z => nomatch z⟩
/-- the parts that may be drawn -/
structure WayOk (h b c k : Nat) : Prop where
  h : h ≤ 5
  b : b ≤ 4
  c : c ≤ 50
  k1 : 1 ≤ k
  k3 : k ≤ 3
structure DrawOk (h b c k : Nat) : Prop where
  h : h ∈ [0, 1, 2, 5]
  b : b ≤ 4
  c : c ∈ [0, 1, 2, 5, 10, 20, 49, 50]
  k1 : 1 ≤ k
  k3 : k ≤ 3
theorem DrawOk.way {h b c k : Nat} (d : DrawOk h b c k) : WayOk h b c k := by
  refine ⟨?_, d.b, ?_, d.k1, d.k3⟩
  · have := d.h
    simp at this
    omega
  · have := d.c
    simp at this
    omega
abbrev drawF (h b c k : Nat) : List (Key × V) := [(.inr "have", .int (h : Int)), (.inr "buy", .int (b : Int)), (.inr "price", .int (c : Int)), (.inr "pack", .int (k : Int))]
/-- at p stands the draw of these parts -/
def DrawAt (H : Hp) (p : Addr) (h b c k : Nat) : Prop := H p = some (.dK (drawF h b c k))
theorem DrawAt.same {H H' : Hp} {p : Addr} {h b c k : Nat} (s : Same H H') (w : DrawAt H p h b c k) : DrawAt H' p h b c k := s _ _ w
theorem DrawAt.chg {H H' : Hp} {r p : Addr} {h b c k : Nat} (s : Chg r H H') (w : DrawAt H p h b c k) : DrawAt H' p h b c k := s.at w fun _ z => nomatch z
theorem drawG {H : Hp} {p : Addr} {h b c k : Nat} (w : DrawAt H p h b c k) : DGet H p (.str "have") (some (.int h)) ∧ DGet H p (.str "buy") (some (.int b)) ∧ DGet H p (.str "price") (some (.int c)) ∧ DGet H p (.str "pack") (some (.int k)) :=
  ⟨DGet.k (k := .inr "have") w, DGet.k (k := .inr "buy") w, DGet.k (k := .inr "price") w, DGet.k (k := .inr "pack") w⟩
/-- what the making of a way promises -/
def spWayInit (K : Fr0) : Sp := fun vs H Q E => ∃ (a dx : Addr) (u v x y : V) (tu tv tx ty : String), vs = [.ref a, u, v, x, y] ∧ H a = some (.ins (fA K "Way") dx []) ∧ AnyV K H u tu ∧ AnyV K H v tv ∧ AnyV K H x tx ∧ AnyV K H y ty ∧
  ((isIn 0 5 u = false ∧ Raised K "InvalidPart" "name" (.str "have") H E) ∨ ∃ h : Nat, u = .int h ∧ h ≤ 5 ∧
    ((isIn 0 4 v = false ∧ Raised K "InvalidPart" "name" (.str "buy") H E) ∨ ∃ b : Nat, v = .int b ∧ b ≤ 4 ∧
      ((isIn 0 50 x = false ∧ Raised K "InvalidPart" "name" (.str "price") H E) ∨ ∃ c : Nat, x = .int c ∧ c ≤ 50 ∧
        ((isIn 1 3 y = false ∧ Raised K "InvalidPart" "name" (.str "pack") H E) ∨ ∃ k : Nat, y = .int k ∧ 1 ≤ k ∧ k ≤ 3 ∧
          ∀ H', But a H H' → H' a = some (.ins (fA K "Way") dx (wayF h b c k)) → Q .non H'))))
/-- a way is made of right parts -/
theorem c_way {K : Fr0} {H : Hp} {R : Addr → Hp → Prop} {E : XK} {h b c k : Nat} (ok : WayOk h b c k) (q : ∀ a H', H a = none → Same H H' → WayAt K H' a h b c k → R a H') :
    ∀ x dx, H x = none → H dx = none → dx ≠ x → spWayInit K (.ref x :: ([.int (h : Int), .int (b : Int), .int (c : Int), .int (k : Int)] ++ [])) (upd (upd H dx (.own x)) x (.ins (fA K "Way") dx [])) (fun v H2 => v = .non ∧ R x H2) E := by
  intro x dx nx nd ne
  refine ⟨x, dx, _, _, _, _, "int", "int", "int", "int", rfl, upd_same, .int _, .int _, .int _, .int _, .inr ⟨h, rfl, ok.h, .inr ⟨b, rfl, ok.b, .inr ⟨c, rfl, ok.c, .inr ⟨k, rfl, ok.k1, ok.k3, fun H' s e => ⟨rfl, q x H' nx (fun a o ea => ?_) ⟨dx, e⟩⟩⟩⟩⟩⟩⟩
  have h1 := ne_of_none ea nx
  have h2 := ne_of_none ea nd
  exact s a o h1 (by rw [upd_ne h1, upd_ne h2]; exact ea)
/-- the row stands where a table is changed -/
theorem RowAt.off {K : Fr0} {H H' : Hp} {r p : Addr} {l : List (Key × V)} (h : RowAt K H r) (hp : H p = some (.dK l)) (k : ∀ (x : Addr) (o : HO), x ≠ p → H x = some o → H' x = some o) : RowAt K H' r := by
  obtain ⟨s, ns, i, m, c, h1, h2, h3⟩ := h
  refine ⟨s, ns, i, m, c, k _ _ (fun z => ?_) h1, ?_, h3⟩
  · rw [z, hp] at h1
    cases h1
  · rcases h2 with (h2 | ⟨o, h2⟩) | h2
    · exact .inl (.inl (k _ _ (fun z => by rw [z, hp] at h2; cases h2) h2))
    · exact .inl (.inr ⟨o, k _ _ (fun z => by rw [z, hp] at h2; cases h2) h2⟩)
    · exact .inr h2
/-- a mean that a way and a number tell -/
def spMean (K : Fr0) (f : Nat → Nat → Nat → Nat → Nat → Rat) : Sp := fun vs H Q E => ∃ (a : Addr) (h b c k : Nat) (u : V) (t : String), vs = [.ref a, u] ∧ WayAt K H a h b c k ∧ WayOk h b c k ∧ AnyV K H u t ∧
  ((isIn ((max 1 (h + b) : Nat) : Int) 300 u = false ∧ Raised K "BadNumber" "n" u H E) ∨ ∃ n : Nat, u = .int n ∧ 1 ≤ n ∧ h + b ≤ n ∧ n ≤ 300 ∧ NewFr K H Q (f h b c k n))
theorem c_mean {K : Fr0} {H : Hp} {f : Nat → Nat → Nat → Nat → Nat → Rat} {a : Addr} {h b c k n : Nat} {Q : VK} {E : XK} (w : WayAt K H a h b c k) (o : WayOk h b c k) (n1 : 1 ≤ n) (hn : h + b ≤ n) (n3 : n ≤ 300) (q : NewFr K H Q (f h b c k n)) :
    spMean K f ([.ref a, .int (n : Int)] ++ []) H Q E := ⟨a, h, b, c, k, _, "int", rfl, w, o, .int _, .inr ⟨n, rfl, n1, hn, n3, q⟩⟩
end Ab
/-! PART sums: 1 over all numbers. -/
namespace Ab
open PySem PySem.Spec PyProof.Rows L2
def hN : Nat → Rat
  | 0 => 0
  | m + 1 => hN m + 1 / ((m + 1 : Nat) : Rat)
theorem hN_zd : ∀ m, Zd (hN m) (fac m)
  | 0 => Zd.int 0 _
  | m + 1 => by
    rw [hN, fac]
    have a := (hN_zd m).dvd (Nat.dvd_mul_left (fac m) (m + 1))
    have b := (Zd.int 1 1).div (m := m + 1) (Nat.succ_pos m)
    rw [show ((1 : Int) : Rat) = 1 from rfl, Nat.one_mul] at b
    exact a.add (b.dvd (Nat.dvd_mul_right _ _))
theorem hN_bd : ∀ m, 0 ≤ hN m ∧ hN m ≤ (m : Rat)
  | 0 => ⟨by rw [hN]; exact Rat.le_refl, by rw [hN]; exact Rat.le_refl⟩
  | m + 1 => by
    have h := hN_bd m
    have p := natq_pos (Nat.succ_pos m)
    rw [hN]
    have q0 : 0 ≤ 1 / ((m + 1 : Nat) : Rat) := rat_div_nonneg (by decide) p
    have q1 : 1 / ((m + 1 : Nat) : Rat) ≤ 1 := by
      refine rat_div_le ?_ p
      have : ((1 : Nat) : Rat) ≤ ((m + 1 : Nat) : Rat) := Rat.natCast_le_natCast.mpr (by omega)
      rw [Rat.one_mul]
      exact this
    refine ⟨Rat.add_nonneg h.1 q0, ?_⟩
    rw [nat_cast_add]
    have e : ((1 : Nat) : Rat) = 1 := rfl
    rw [e]
    grind
theorem hN_sz {m : Nat} (hm : m ≤ 300) : Sz (hN m) 2800 := by
  have f := fac_le (m := 9) m (by omega)
  have g : 2 ^ (9 * m) ≤ 2 ^ 2700 := pow_mono2 (by omega)
  have b := hN_bd m
  refine (hN_zd m).sz (B := m) (fac_pos m) (Rat.le_trans (by have := nat_nonneg m; grind) b.1) b.2 ?_ ?_
  · exact Nat.lt_of_le_of_lt (Nat.mul_le_mul hm (Nat.le_trans f g)) (by decide +kernel)
  · exact Nat.lt_of_le_of_lt (Nat.le_trans f g) (by decide +kernel)
theorem smL_hN (n : Nat) : ∀ d b, (smL n (b + d) b).sum = (n : Rat) * (hN (b + d) - hN b)
  | 0, b => by
    rw [Nat.add_zero, smL_self]
    show (0 : Rat) = _
    grind
  | d + 1, b => by
    have e := smL_down (n := n) (L := b + (d + 1)) (b := b) (by omega)
    have ih := smL_hN n d (b + 1)
    rw [show b + 1 + d = b + (d + 1) by omega] at ih
    rw [e, ih, hN, divInt_nat]
    grind
theorem mP_hN {n h b : Nat} (hb : b ≤ n - h) : mP n h b = (n : Rat) * (hN (n - h) - hN b) := by
  have e := smL_hN n (n - h - b) b
  rw [show b + (n - h - b) = n - h by omega] at e
  exact e
/-- the tuple of a form -/
def FormAt (K : Fr0) (H : Hp) (v : V) (h : Nat) (c b a : Rat) : Prop := Dp K H v (.tuple [.int h, fr c, fr b, fr a])
def fB (b k : Nat) : Rat := hN b * ((-(k : Int) : Int) : Rat)
def vF (h : Nat) (c b a : Rat) (n : Nat) : Rat := c * (n : Rat) * hN (n - h) + b * (n : Rat) + a
/-- the least common multiple of the first numbers -/
def lcU : Nat → Nat
  | 0 => 1
  | m + 1 => Nat.lcm (lcU m) (m + 1)
theorem lcU_pos : ∀ m, 0 < lcU m
  | 0 => Nat.one_pos
  | m + 1 => Nat.lcm_pos (lcU_pos m) (Nat.succ_pos m)
theorem lcU_dvd {m n : Nat} (h : m ≤ n) : lcU m ∣ lcU n := by
  induction n with
  | zero => rw [Nat.le_zero.mp h]; exact Nat.dvd_refl _
  | succ n ih =>
    by_cases e : m = n + 1
    · rw [e]; exact Nat.dvd_refl _
    · exact Nat.dvd_trans (ih (by omega)) (Nat.dvd_lcm_left _ _)
theorem hN_zdU : ∀ m, Zd (hN m) (lcU m)
  | 0 => Zd.int 0 _
  | m + 1 => by
    rw [hN, lcU]
    have b := (Zd.int 1 1).div (m := m + 1) (Nat.succ_pos m)
    rw [show ((1 : Int) : Rat) = 1 from rfl, Nat.one_mul] at b
    exact ((hN_zdU m).dvd (Nat.dvd_lcm_left _ _)).add (b.dvd (Nat.dvd_lcm_right _ _))
theorem lcU_big : 1000 * lcU 1000 < 2 ^ 1475 := by decide +kernel
theorem hN_szU {m : Nat} (hm : m ≤ 1000) : Sz (hN m) 1475 := by
  have d := Nat.le_of_dvd (lcU_pos 1000) (lcU_dvd hm)
  have b := hN_bd m
  refine (hN_zdU m).sz (B := m) (lcU_pos m) (Rat.le_trans (by have := nat_nonneg m; grind) b.1) b.2 ?_ ?_
  · exact Nat.lt_of_le_of_lt (Nat.mul_le_mul hm d) lcU_big
  · exact Nat.lt_of_le_of_lt d (Nat.lt_of_le_of_lt (Nat.le_mul_of_pos_left _ (by decide)) lcU_big)
end Ab
/-! PART data: what data is a fraction, when lists differ. -/
namespace Ab
open PySem PySem.Spec PyProof.Rows L2
theorem eqvAll_at : ∀ {xs ys : List PyData} {i : Nat} {x y : PyData}, PyData.eqvAll xs ys = true → xs[i]? = some x → ys[i]? = some y → PyData.eqv x y = true
  | [], _, _, _, _, _, h, _ => by simp at h
  | _ :: _, [], _, _, _, _, _, h => by simp at h
  | x :: xs, y :: ys, 0, _, _, h, h1, h2 => by
    simp at h1 h2
    subst h1 h2
    rw [PyData.eqvAll, Bool.and_eq_true] at h
    exact h.1
  | x :: xs, y :: ys, i + 1, _, _, h, h1, h2 => by
    rw [PyData.eqvAll, Bool.and_eq_true] at h
    exact eqvAll_at h.2 (by simpa using h1) (by simpa using h2)
theorem eqvAll_len : ∀ {xs ys : List PyData}, PyData.eqvAll xs ys = true → xs.length = ys.length
  | [], [], _ => rfl
  | [], _ :: _, h => by rw [PyData.eqvAll] at h; cases h
  | _ :: _, [], h => by rw [PyData.eqvAll] at h; cases h
  | _ :: xs, _ :: ys, h => by
    rw [PyData.eqvAll, Bool.and_eq_true] at h
    rw [List.length_cons, List.length_cons, eqvAll_len h.2]
theorem eqv_pr {a b c d : Int} (h : PyData.eqv (pr a b) (pr c d) = true) : a = c ∧ b = d := by
  unfold pr at h
  rw [PyData.eqv, PyData.eqvAll, PyData.eqvAll, PyData.eqvAll, PyData.eqv, PyData.eqv] at h
  simpa using h
theorem eqv_fr {p q : Rat} (h : PyData.eqv (fr p) (fr q) = true) : p = q := by
  obtain ⟨h1, h2⟩ := eqv_pr h
  exact Rat.ext h1 (by exact_mod_cast h2)
/-- a fraction in lowest terms -/
def isFrD : PyData → Bool
  | .tuple [.int a, .int b] => decide (0 < b) && decide ((Int.gcd a b : Int) = 1)
  | _ => false
theorem isFrD_pr (a b : Int) : isFrD (pr a b) = (decide (0 < b) && decide ((Int.gcd a b : Int) = 1)) := rfl
theorem isFrD_fr (q : Rat) : isFrD (fr q) = true := by
  rw [isFrD_pr, Bool.and_eq_true]
  refine ⟨decide_eq_true (den_pos q), decide_eq_true ?_⟩
  have h : Nat.gcd q.num.natAbs q.den = 1 := q.reduced
  unfold Int.gcd
  rw [Int.natAbs_natCast, h]
  rfl
theorem isFrD_dbl (a b : Int) : isFrD (pr (2 * a) (2 * b)) = false := by
  rw [isFrD_pr, Int.gcd_mul_left]
  have : ¬ (((((2 : Int).natAbs * Int.gcd a b : Nat)) : Int) = 1) := by
    have e : (2 : Int).natAbs = 2 := rfl
    rw [e]
    omega
  rw [decide_eq_false this, Bool.and_false]
/-- the numbers in it are small -/
def frSmall (d : PyData) : Prop := ∀ a b, d = .tuple [.int a, .int b] → a.natAbs < 2 ^ 4000 ∧ b.natAbs < 2 ^ 4000
theorem frSmall_fr {q : Rat} {k : Nat} (h : Sz q k) (hk : k ≤ 4000) : frSmall (fr q) := by
  intro a b e
  unfold fr pr at e
  injection e with e
  injection e with e1 e
  injection e with e2 _
  injection e1 with e1
  injection e2 with e2
  subst e1 e2
  exact ⟨sz_mono h.n hk, sz_mono h.d' hk⟩
/-- what the answer is -/
def showB (ds : List PyData) (L : List Rat) : Bool := ds.all isFrD && PyData.eqv (.list ds) (.list (L.map fr))
theorem showB_yes (L : List Rat) : showB (L.map fr) L = true := by
  unfold showB
  rw [Bool.and_eq_true]
  refine ⟨List.all_eq_true.mpr fun d hd => ?_, SeqAt.eqv_refl _ (SeqAt.canLay_of_shaped (sh_frs L))⟩
  obtain ⟨q, _, rfl⟩ := List.mem_map.mp hd
  exact isFrD_fr q
theorem showB_bad {ds : List PyData} {L : List Rat} {d : PyData} (h : d ∈ ds) (n : isFrD d = false) : showB ds L = false := by
  unfold showB
  have : ds.all isFrD = false := by
    refine Bool.eq_false_iff.mpr fun z => ?_
    rw [List.all_eq_true.mp z d h] at n
    cases n
  rw [this, Bool.false_and]
theorem showB_len {ds : List PyData} {L : List Rat} (h : ds.length ≠ L.length) : showB ds L = false := by
  unfold showB
  have : PyData.eqv (.list ds) (.list (L.map fr)) = false := by
    refine Bool.eq_false_iff.mpr fun z => h ?_
    rw [PyData.eqv] at z
    have := eqvAll_len z
    rwa [List.length_map] at this
  rw [this, Bool.and_false]
theorem showB_at {ds : List PyData} {L : List Rat} {i : Nat} {d : PyData} {q : Rat} (h1 : ds[i]? = some d) (h2 : L[i]? = some q) (n : PyData.eqv d (fr q) = false) : showB ds L = false := by
  unfold showB
  have : PyData.eqv (.list ds) (.list (L.map fr)) = false := by
    refine Bool.eq_false_iff.mpr fun z => ?_
    rw [PyData.eqv] at z
    have := eqvAll_at z h1 (show (L.map fr)[i]? = some (fr q) by rw [List.getElem?_map, h2]; rfl)
    rw [this] at n
    cases n
  rw [this, Bool.and_false]
/-- slices -/
theorem sIx_of {n : Nat} {d : Nat} {i : Nat} (h : i ≤ n) : HT.sIx n d (some (i : Int)) = i := by
  unfold HT.sIx
  simp
  rw [if_neg (by omega)]
  omega
theorem cut_to {xs : List V} {i : Nat} (h : i ≤ xs.length) : cutV xs none (some (i : Int)) = xs.take i := by
  unfold cutV
  rw [sIx_of h, show HT.sIx xs.length 0 none = 0 from rfl, List.drop_zero, Nat.sub_zero]
theorem cut_from {xs : List V} {i : Nat} (h : i ≤ xs.length) : cutV xs (some (i : Int)) none = xs.drop i := by
  unfold cutV
  rw [sIx_of h, show HT.sIx xs.length xs.length none = xs.length from rfl, List.take_of_length_le (by rw [List.length_drop]; omega)]
theorem dpA_take {K : Fr0} {H : Hp} : ∀ {ds : List PyData} {vs : List V} (n : Nat), DpAll K H vs ds → DpAll K H (vs.take n) (ds.take n)
  | _, _, 0, _ => .nil
  | [], _, _ + 1, h => by cases h; exact .nil
  | _ :: _, _, n + 1, h => by
    cases h with
    | cons a b => exact .cons a (dpA_take n b)
theorem dpA_drop {K : Fr0} {H : Hp} : ∀ {ds : List PyData} {vs : List V} (n : Nat), DpAll K H vs ds → DpAll K H (vs.drop n) (ds.drop n)
  | _, _, 0, h => h
  | [], _, _ + 1, h => by cases h; exact .nil
  | _ :: _, _, n + 1, h => by
    cases h with
    | cons a b => exact dpA_drop n b
theorem dpA_bools_eq {K : Fr0} {H : Hp} : ∀ {l : List Bool} {acc : List V}, DpAll K H acc (l.map .bool) → acc = l.map V.bl
  | [], _, h => by cases h; rfl
  | i :: l, _, h => by
    rw [List.map_cons] at h
    cases h with
    | cons h1 h2 =>
      cases h1
      rw [dpA_bools_eq h2]
      rfl
/-- data's type -/
theorem sqt_ty {K : Fr0} {H : Hp} {a : Addr} {xs : List V} (h : SqT K H a xs) : TyX K H (.ref a) (.type "tuple") := by
  rcases h with (h | ⟨o, h⟩) | ⟨o, its, n, h, c, _⟩
  · exact .base (.tup h)
  · exact .fTuple h
  · exact .kTuple h c
theorem sql_ty {K : Fr0} {H : Hp} {a : Addr} {xs : List V} (h : SqL K H a xs) : TyX K H (.ref a) (.type "list") := by
  rcases h with (h | ⟨o, h⟩) | ⟨o, its, n, h, c, _⟩
  · exact .base (.lst h)
  · exact .base (.frz h)
  · exact .kList h c
def tyD : PyData → String
  | .none => "NoneType"
  | .bool _ => "bool"
  | .int _ => "int"
  | .str _ => "str"
  | .list _ => "list"
  | .tuple _ => "tuple"
  | .dict _ => "dict"
theorem dp_any {K : Fr0} {H : Hp} {v : V} {d : PyData} (h : Dp K H v d) : AnyV K H v (tyD d) := by
  cases h with
  | non => exact .non
  | bl b => exact .bl b
  | int i => exact .int i
  | str x => exact .str x
  | lst h1 h2 => exact .lst (sql_ty h1)
  | tup h1 h2 => exact .tup (sqt_ty h1)
def isID : PyData → Bool
  | .int _ => true
  | _ => false
theorem isI_dp {K : Fr0} {H : Hp} {v : V} {d : PyData} (h : Dp K H v d) : isI v = isID d := by cases h <;> rfl
/-! ### a list of data with one item changed -/
theorem sh_mem {ds : List PyData} (h : ∀ d ∈ ds, d.canLay0 = true ∧ d.depth ≤ 9) : SeqAt.shaped (.list ds) = true := by
  have a : PyData.canLayAll0 ds = true := by
    induction ds with
    | nil => rfl
    | cons d r ih =>
      rw [PyData.canLayAll0, (h d List.mem_cons_self).1, ih fun e he => h e (List.mem_cons_of_mem _ he)]
      rfl
  have b : PyData.depthAll ds ≤ 9 := by
    induction ds with
    | nil => rw [PyData.depthAll]; exact Nat.zero_le _
    | cons d r ih =>
      rw [PyData.depthAll]
      refine Nat.max_le.mpr ⟨(h d List.mem_cons_self).2, ih (fun e he => h e (List.mem_cons_of_mem _ he)) ?_⟩
      rw [PyData.canLayAll0, Bool.and_eq_true] at a
      exact a.2
  unfold SeqAt.shaped
  rw [Bool.and_eq_true, PyData.canLay0, PyData.depth]
  exact ⟨a, decide_eq_true (by omega)⟩
def bentD (L : List Rat) (k : Nat) (m : PyData) : List PyData := ((L.map fr).take k ++ [m]) ++ (L.map fr).drop (k + 1)
theorem bent_mem {L : List Rat} {k : Nat} {m d : PyData} (h : d ∈ bentD L k m) : d = m ∨ ∃ q ∈ L, d = fr q := by
  unfold bentD at h
  rcases List.mem_append.mp h with h | h
  · rcases List.mem_append.mp h with h | h
    · obtain ⟨q, hq, e⟩ := List.mem_map.mp (List.mem_of_mem_take h)
      exact .inr ⟨q, hq, e.symm⟩
    · exact .inl (List.mem_singleton.mp h)
  · obtain ⟨q, hq, e⟩ := List.mem_map.mp (List.mem_of_mem_drop h)
    exact .inr ⟨q, hq, e.symm⟩
theorem bent_in (L : List Rat) (k : Nat) (m : PyData) : m ∈ bentD L k m := by
  unfold bentD
  exact List.mem_append_left _ (List.mem_append_right _ (List.mem_singleton.mpr rfl))
theorem bent_at {L : List Rat} {k : Nat} {m : PyData} (h : k < L.length) : (bentD L k m)[k]? = some m := by
  unfold bentD
  have l1 : ((L.map fr).take k).length = k := by rw [List.length_take, List.length_map]; omega
  rw [List.getElem?_append_left (by rw [List.length_append, l1]; simp), List.getElem?_append_right (by omega), l1, Nat.sub_self]
  rfl
theorem bent_len {L : List Rat} {k : Nat} {m : PyData} : (bentD L k m).length ≤ L.length + 1 := by
  unfold bentD
  rw [List.length_append, List.length_append, List.length_take, List.length_drop, List.length_map]
  simp
  omega
/-- what a list handed to the asking has to be -/
structure ListOk (ds : List PyData) : Prop where
  small : ∀ d ∈ ds, frSmall d
  shp : SeqAt.shaped (.list ds) = true
  len : ds.length < 100000
theorem bent_ok {L : List Rat} {k : Nat} {m : PyData} (hL : ∀ q ∈ L, Sz q 10) (len : L.length ≤ 1000) (m1 : m.canLay0 = true) (m2 : m.depth ≤ 9) (m3 : frSmall m) : ListOk (bentD L k m) := by
  refine ⟨fun d hd => ?_, sh_mem fun d hd => ?_, by have := bent_len (L := L) (k := k) (m := m); omega⟩
  · rcases bent_mem hd with rfl | ⟨q, hq, rfl⟩
    · exact m3
    · exact frSmall_fr (hL q hq) (by decide)
  · rcases bent_mem hd with rfl | ⟨q, hq, rfl⟩
    · exact ⟨m1, m2⟩
    · exact ⟨rfl, dep_pr _ _⟩
theorem frs_ok {ds : List PyData} (h : ∀ d ∈ ds, ∃ q, d = fr q ∧ Sz q 10) (len : ds.length ≤ 10000) : ListOk ds := by
  refine ⟨fun d hd => ?_, sh_mem fun d hd => ?_, by omega⟩
  · obtain ⟨q, rfl, z⟩ := h d hd
    exact frSmall_fr z (by decide)
  · obtain ⟨q, rfl, _⟩ := h d hd
    exact ⟨rfl, dep_pr _ _⟩
theorem eqv_fr_ne {p q : Rat} (h : p ≠ q) : PyData.eqv (fr p) (fr q) = false := Bool.eq_false_iff.mpr fun z => h (eqv_fr z)
theorem smL_at {n L b k : Nat} (h : k < L - b) : (smL n L b)[k]? = some (Rat.divInt (n : Int) ((L - k : Nat) : Int)) := by
  unfold smL
  simp [h]
theorem cut_to2 {xs : List V} (i : Nat) : cutV xs none (some (i : Int)) = xs.take i := by
  by_cases h : i ≤ xs.length
  · exact cut_to h
  · have e : HT.sIx xs.length xs.length (some (i : Int)) = xs.length := by
      unfold HT.sIx
      simp
      rw [if_neg (by omega)]
      omega
    unfold cutV
    rw [e, show HT.sIx xs.length 0 none = 0 from rfl, List.drop_zero, Nat.sub_zero, List.take_of_length_le (Nat.le_refl _), List.take_of_length_le (by omega)]
end Ab
/-! PART parts: tables of any values, the first part that is wrong. -/
namespace Ab
open PySem PySem.Spec PyProof.Rows L2
abbrev partsF (u v x y : V) : List (Key × V) := [(.inr "have", u), (.inr "buy", v), (.inr "price", x), (.inr "pack", y)]
/-- at p stands the table of these parts -/
def PartsAt (H : Hp) (p : Addr) (u v x y : V) : Prop := H p = some (.dK (partsF u v x y))
theorem PartsAt.same {H H' : Hp} {p : Addr} {u v x y : V} (s : Same H H') (w : PartsAt H p u v x y) : PartsAt H' p u v x y := s _ _ w
theorem PartsAt.chg {H H' : Hp} {r p : Addr} {u v x y : V} (s : Chg r H H') (w : PartsAt H p u v x y) : PartsAt H' p u v x y := s.at w fun _ z => nomatch z
theorem partsG {H : Hp} {p : Addr} {u v x y : V} (w : PartsAt H p u v x y) : DGet H p (.str "have") (some u) ∧ DGet H p (.str "buy") (some v) ∧ DGet H p (.str "price") (some x) ∧ DGet H p (.str "pack") (some y) :=
  ⟨DGet.k (k := .inr "have") w, DGet.k (k := .inr "buy") w, DGet.k (k := .inr "price") w, DGet.k (k := .inr "pack") w⟩
theorem DrawAt.parts {H : Hp} {p : Addr} {h b c k : Nat} (w : DrawAt H p h b c k) : PartsAt H p (.int h) (.int b) (.int c) (.int k) := w
/-- the first part that is wrong, None if there is none -/
def partOf (u v x y : V) : V := if isIn 0 5 u = false then .str "have" else if isIn 0 4 v = false then .str "buy" else if isIn 0 50 x = false then .str "price" else if isIn 1 3 y = false then .str "pack" else .non
theorem isIn_some {lo hi : Nat} {v : V} (h : isIn (lo : Int) (hi : Int) v = true) : ∃ n : Nat, v = .int n ∧ lo ≤ n ∧ n ≤ hi := by
  cases v <;> first | (unfold isIn at h; cases h; done) | skip
  rename_i i
  unfold isIn at h
  rw [Bool.and_eq_true, decide_eq_true_eq, decide_eq_true_eq] at h
  exact ⟨i.toNat, by congr 1; omega, by omega, by omega⟩
theorem isIn_or (lo hi : Int) (v : V) : isIn lo hi v = false ∨ isIn lo hi v = true := by cases isIn lo hi v <;> simp
/-- the promise of a making out of a table of any values -/
def spMadeX (K : Fr0) : Sp := fun vs H Q E => ∃ (p : Addr) (u v x y : V) (tu tv tx ty : String), vs = [.ref p] ∧ PartsAt H p u v x y ∧ AnyV K H u tu ∧ AnyV K H v tv ∧ AnyV K H x tx ∧ AnyV K H y ty ∧
  ((∃ z, partOf u v x y = .str z ∧ Raised K "InvalidPart" "name" (.str z) H E) ∨ ∃ h b c k : Nat, u = .int h ∧ v = .int b ∧ x = .int c ∧ y = .int k ∧ WayOk h b c k ∧ ∀ a H', H a = none → Same H H' → WayAt K H' a h b c k → Q (.ref a) H')
theorem c_madeX {K : Fr0} {H : Hp} {p : Addr} {h b c k : Nat} {Q : VK} {E : XK} (d : DrawAt H p h b c k) (ok : WayOk h b c k) (q : ∀ a H', H a = none → Same H H' → WayAt K H' a h b c k → Q (.ref a) H') : spMadeX K ([.ref p] ++ []) H Q E :=
  ⟨p, _, _, _, _, _, _, _, _, rfl, d.parts, .int _, .int _, .int _, .int _, .inr ⟨h, b, c, k, rfl, rfl, rfl, rfl, ok, q⟩⟩
theorem part_ok {u v x y : V} (h : partOf u v x y = .non) : ∃ h b c k : Nat, u = .int h ∧ v = .int b ∧ x = .int c ∧ y = .int k ∧ WayOk h b c k := by
  unfold partOf at h
  rcases isIn_or 0 5 u with e1 | e1
  · rw [if_pos e1] at h; cases h
  rw [if_neg (by rw [e1]; decide)] at h
  rcases isIn_or 0 4 v with e2 | e2
  · rw [if_pos e2] at h; cases h
  rw [if_neg (by rw [e2]; decide)] at h
  rcases isIn_or 0 50 x with e3 | e3
  · rw [if_pos e3] at h; cases h
  rw [if_neg (by rw [e3]; decide)] at h
  rcases isIn_or 1 3 y with e4 | e4
  · rw [if_pos e4] at h; cases h
  obtain ⟨a, rfl, _, a1⟩ := isIn_some (lo := 0) (hi := 5) e1
  obtain ⟨b, rfl, _, b1⟩ := isIn_some (lo := 0) (hi := 4) e2
  obtain ⟨c, rfl, _, c1⟩ := isIn_some (lo := 0) (hi := 50) e3
  obtain ⟨k, rfl, k0, k1⟩ := isIn_some (lo := 1) (hi := 3) e4
  exact ⟨a, b, c, k, rfl, rfl, rfl, rfl, ⟨a1, b1, c1, k0, k1⟩⟩
theorem part_or (u v x y : V) : partOf u v x y = .non ∨ ∃ z, partOf u v x y = .str z ∧ PyData.strOk z = true := by
  unfold partOf
  split
  · exact .inr ⟨_, rfl, by decide +kernel⟩
  · split
    · exact .inr ⟨_, rfl, by decide +kernel⟩
    · split
      · exact .inr ⟨_, rfl, by decide +kernel⟩
      · split
        · exact .inr ⟨_, rfl, by decide +kernel⟩
        · exact .inl rfl
/-- the wish at a making by its parts is the wish of Way's own making -/
theorem way_wish {K : Fr0} {H : Hp} {R : Addr → Hp → Prop} {E : XK} {u v x y : V} {tu tv tx ty : String} (hu : AnyV K H u tu) (hv : AnyV K H v tv) (hx : AnyV K H x tx) (hy : AnyV K H y ty)
    (h : (∃ z, partOf u v x y = .str z ∧ Raised K "InvalidPart" "name" (.str z) H E) ∨ ∃ h b c k : Nat, u = .int h ∧ v = .int b ∧ x = .int c ∧ y = .int k ∧ WayOk h b c k ∧ ∀ a H', H a = none → Same H H' → WayAt K H' a h b c k → R a H') :
    ∀ a dx, H a = none → H dx = none → dx ≠ a → spWayInit K (.ref a :: [u, v, x, y]) (upd (upd H dx (.own a)) a (.ins (fA K "Way") dx [])) (fun v H2 => v = .non ∧ R a H2) E := by
  intro a dx na nd ne
  rcases h with ⟨z, ez, rs⟩ | ⟨h, b, c, k, rfl, rfl, rfl, rfl, ok, q⟩
  · have s1 : Same H (upd (upd H dx (.own a)) a (.ins (fA K "Way") dx [])) := (same_new nd).trans (same_new (by rw [upd_ne ne.symm]; exact na))
    have rs' : ∀ zz, zz = z → Raised K "InvalidPart" "name" (.str zz) _ E := fun zz e => by rw [e]; exact rs.same s1
    refine ⟨a, dx, u, v, x, y, tu, tv, tx, ty, rfl, upd_same, hu.same s1, hv.same s1, hx.same s1, hy.same s1, ?_⟩
    unfold partOf at ez
    rcases isIn_or 0 5 u with e1 | e1
    · rw [if_pos e1] at ez
      injection ez with ez
      exact .inl ⟨e1, rs' _ ez⟩
    rw [if_neg (by rw [e1]; decide)] at ez
    obtain ⟨h, rfl, _, h5⟩ := isIn_some (lo := 0) (hi := 5) e1
    refine .inr ⟨h, rfl, h5, ?_⟩
    rcases isIn_or 0 4 v with e2 | e2
    · rw [if_pos e2] at ez
      injection ez with ez
      exact .inl ⟨e2, rs' _ ez⟩
    rw [if_neg (by rw [e2]; decide)] at ez
    obtain ⟨b, rfl, _, b4⟩ := isIn_some (lo := 0) (hi := 4) e2
    refine .inr ⟨b, rfl, b4, ?_⟩
    rcases isIn_or 0 50 x with e3 | e3
    · rw [if_pos e3] at ez
      injection ez with ez
      exact .inl ⟨e3, rs' _ ez⟩
    rw [if_neg (by rw [e3]; decide)] at ez
    obtain ⟨c, rfl, _, c50⟩ := isIn_some (lo := 0) (hi := 50) e3
    refine .inr ⟨c, rfl, c50, ?_⟩
    rcases isIn_or 1 3 y with e4 | e4
    · rw [if_pos e4] at ez
      injection ez with ez
      exact .inl ⟨e4, rs' _ ez⟩
    rw [if_neg (by rw [e4]; decide)] at ez
    cases ez
  · exact c_way ok q a dx na nd ne
/-- the odd values of a law's list: their objects -/
structure OddAt (H : Hp) (O p1 p2 p3 : Addr) : Prop where
  o : H O = some (.lst [.int 0, .int 1, .int 3, .int 4, .int 5, .int 6, .int 50, .int 51, .int (-1), .non, .bl true, .str "1", .ref p1, .ref p2, .ref p3])
  t : H p1 = some (.tup [.int 1])
  l : H p2 = some (.lst [])
  d : H p3 = some (.dK [])
inductive OddV (p1 p2 p3 : Addr) : V → Prop
  | int (i : Int) : OddV p1 p2 p3 (.int i)
  | non : OddV p1 p2 p3 .non
  | bl (b : Bool) : OddV p1 p2 p3 (.bl b)
  | str (z : Str) : OddV p1 p2 p3 (.str z)
  | t : OddV p1 p2 p3 (.ref p1)
  | l : OddV p1 p2 p3 (.ref p2)
  | d : OddV p1 p2 p3 (.ref p3)
theorem OddV.any {K : Fr0} {H : Hp} {O p1 p2 p3 : Addr} {v : V} (o : OddAt H O p1 p2 p3) (h : OddV p1 p2 p3 v) : ∃ t, AnyV K H v t := by
  cases h with
  | int i => exact ⟨_, .int i⟩
  | non => exact ⟨_, .non⟩
  | bl b => exact ⟨_, .bl b⟩
  | str z => exact ⟨_, .str z⟩
  | t => exact ⟨_, .tup (.base (.tup o.t))⟩
  | l => exact ⟨_, .lst (.base (.lst o.l))⟩
  | d => exact ⟨_, .dct (.base (.dK o.d))⟩
theorem OddAt.same {H H' : Hp} {O p1 p2 p3 : Addr} (s : Same H H') (o : OddAt H O p1 p2 p3) : OddAt H' O p1 p2 p3 := ⟨s _ _ o.o, s _ _ o.t, s _ _ o.l, s _ _ o.d⟩
theorem OddAt.but {H H' : Hp} {O p1 p2 p3 a : Addr} (s : But a H H') (o : OddAt H O p1 p2 p3) (n : O ≠ a ∧ p1 ≠ a ∧ p2 ≠ a ∧ p3 ≠ a) : OddAt H' O p1 p2 p3 := ⟨s _ _ n.1 o.o, s _ _ n.2.1 o.t, s _ _ n.2.2.1 o.l, s _ _ n.2.2.2 o.d⟩
theorem OddAt.ne {H : Hp} {O p1 p2 p3 a : Addr} (o : OddAt H O p1 p2 p3) (n : H a = none) : O ≠ a ∧ p1 ≠ a ∧ p2 ≠ a ∧ p3 ≠ a := ⟨ne_of_none o.o n, ne_of_none o.t n, ne_of_none o.l n, ne_of_none o.d n⟩
theorem Chg.but {r : Addr} {H H' : Hp} (c : Chg r H H') : But r H H' := c.kp
theorem But.set1 {H : Hp} {a : Addr} {o : HO} : But a H (upd H a o) := But.refl'.set
theorem RowAt.but {K : Fr0} {H H' : Hp} {r p : Addr} {l : List (Key × V)} (h : RowAt K H r) (hp : H p = some (.dK l)) (s : But p H H') : RowAt K H' r := h.off hp s
theorem WayAt.but {K : Fr0} {H H' : Hp} {a p : Addr} {h b c k : Nat} {l : List (Key × V)} (w : WayAt K H a h b c k) (hp : H p = some (.dK l)) (s : But p H H') : WayAt K H' a h b c k := by
  obtain ⟨dx, e⟩ := w
  refine ⟨dx, s _ _ (fun z => ?_) e⟩
  rw [z, hp] at e
  cases e
theorem r_neB {i j : Bool} {H : Hp} {Q : VK} (q : Q (.bl (!decide (i = j))) H) : rNe (.bl i) (.bl j) H Q := ⟨rfl, by rw [show decide (V.bl i = V.bl j) = decide (i = j) from decide_eq_decide.mpr ⟨V.bl.inj, congrArg _⟩]; exact q⟩
theorem kit_same {K : Fr0} {C : Addr} : PySem.W.kitOne K (.ref C) (.ref C) = some true := by unfold PySem.W.kitOne; simp
theorem nf_same {K : Fr0} {C : Addr} : PySem.W.notFirst K C (.ref C) = true := by unfold PySem.W.notFirst; simp
/-- == of ways -/
def sameWay (h b c k h' b' c' k' : Nat) : Bool := decide (h = h') && (decide (b = b') && (decide (c = c') && decide (k = k')))
def spWayEq (K : Fr0) : Sp := fun vs H Q _ => ∃ (a : Addr) (h b c k : Nat) (y : V), vs = [.ref a, y] ∧ WayAt K H a h b c k ∧
  ((∃ t, TyX K H y (.type t) ∧ PySem.W.kitOne K (.type t) (.ref (fA K "Way")) = some false ∧ Q (.bl false) H) ∨ ∃ (a' : Addr) (h' b' c' k' : Nat), y = .ref a' ∧ WayAt K H a' h' b' c' k' ∧ Q (.bl (sameWay h b c k h' b' c' k')) H)
/-- a property of a way -/
def spWayGet (K : Fr0) (g : Nat → Nat → Nat → Nat → Nat) : Sp := fun vs H Q _ => ∃ (a : Addr) (h b c k : Nat), vs = [.ref a] ∧ WayAt K H a h b c k ∧ Q (.int (g h b c k)) H
end Ab
/-! PART words: texts of lines and words, what is wrong in them. -/
namespace Ab
open PySem PySem.Spec PyProof.Rows L2 TL
def numS (n : Nat) : Str := Str.ofString (toString ((n : Nat) : Int))
theorem tl_numS (n : Nat) : tl (numS n) = numL n := tl_num n
theorem numS_inj {m n : Nat} (h : numS m = numS n) : m = n := numL_inj (by rw [← tl_numS, ← tl_numS, h])
def headN : Nat → Str
  | 0 => "have"
  | 1 => "buy"
  | 2 => "price"
  | _ => "pack"
def headLo : Nat → Nat
  | 0 => 0
  | 1 => 0
  | 2 => 0
  | _ => 1
def headHi : Nat → Nat
  | 0 => 5
  | 1 => 4
  | 2 => 50
  | _ => 3
theorem headHi_le (k : Nat) : headHi k ≤ 50 := by unfold headHi; split <;> decide
def nums (lo hi : Nat) : List Str := (List.range (hi + 1 - lo)).map fun i => numS (lo + i)
theorem mem_nums {lo hi : Nat} {w : Str} (h : w ∈ nums lo hi) : ∃ n, w = numS n ∧ lo ≤ n ∧ n ≤ hi := by
  obtain ⟨i, hi', rfl⟩ := List.mem_map.mp h
  have := List.mem_range.mp hi'
  exact ⟨lo + i, rfl, by omega, by omega⟩
theorem nums_mem {lo hi n : Nat} (h1 : lo ≤ n) (h2 : n ≤ hi) : numS n ∈ nums lo hi := List.mem_map.mpr ⟨n - lo, List.mem_range.mpr (by omega), by rw [show lo + (n - lo) = n by omega]⟩
/-- the first word of the k-th line that cannot stand -/
def lineErr (k : Nat) (ws : List Str) : Option Nat :=
  if ws.take 1 ≠ [headN k] then some 1 else if ws.length < 2 ∨ ws.getD 1 Str.empty ∉ nums (headLo k) (headHi k) then some 2 else if 2 < ws.length then some 3 else none
theorem lineErr_none {k : Nat} {ws : List Str} (h : lineErr k ws = none) : ∃ n, ws = [headN k, numS n] ∧ headLo k ≤ n ∧ n ≤ headHi k := by
  unfold lineErr at h
  split at h
  · cases h
  · rename_i h1
    have h1 : ws.take 1 = [headN k] := Decidable.byContradiction fun z => h1 z
    split at h
    · cases h
    · rename_i h2
      split at h
      · cases h
      · rename_i h3
        have l2 : ws.length = 2 := by
          have : ¬ ws.length < 2 := fun z => h2 (.inl z)
          omega
        have hm : ws.getD 1 Str.empty ∈ nums (headLo k) (headHi k) := Decidable.byContradiction fun z => h2 (.inr z)
        obtain ⟨n, e, a, b⟩ := mem_nums hm
        refine ⟨n, ?_, a, b⟩
        rcases ws with _ | ⟨x, _ | ⟨y, _ | ⟨z, r⟩⟩⟩
        · cases l2
        · cases l2
        · have e1 : x = headN k := by simpa using h1
          have e2 : y = numS n := by simpa using e
          rw [e1, e2]
        · simp at l2
/-- the first line and the first word that cannot stand, from the k-th line on -/
def rdErr : Nat → List (List Str) → Option (Nat × Nat)
  | k, [] => if k < 4 then some (k + 1, 1) else none
  | k, ws :: r => if k = 4 then some (5, 1) else match lineErr k ws with
    | some w => some (k + 1, w)
    | none => rdErr (k + 1) r
theorem rdErr_none : ∀ {rows : List (List Str)} {k : Nat}, k ≤ 4 → rdErr k rows = none → k + rows.length = 4 ∧ ∀ i, i < rows.length → ∃ n, rows[i]? = some [headN (k + i), numS n] ∧ headLo (k + i) ≤ n ∧ n ≤ headHi (k + i)
  | [], k, hk, h => by
    rw [rdErr] at h
    split at h
    · cases h
    · exact ⟨by simp; omega, fun i hi => by simp at hi⟩
  | ws :: r, k, hk, h => by
    rw [rdErr] at h
    split at h
    · cases h
    · split at h
      · cases h
      · rename_i e
        obtain ⟨n, rfl, a, b⟩ := lineErr_none e
        obtain ⟨l, q⟩ := rdErr_none (k := k + 1) (by omega) h
        refine ⟨by rw [List.length_cons]; omega, fun i hi => ?_⟩
        cases i with
        | zero => exact ⟨n, rfl, a, b⟩
        | succ i =>
          obtain ⟨m, e1, e2, e3⟩ := q i (by rw [List.length_cons] at hi; omega)
          rw [show k + 1 + i = k + (i + 1) by omega] at e1 e2 e3
          exact ⟨m, by rw [List.getElem?_cons_succ]; exact e1, e2, e3⟩
/-- the lines' words -/
def rowsOf (t : Str) : List (List Str) := (Txt.split t "\n").map fun l => (Txt.split l " ").filter fun w => decide (w ≠ Str.empty)
/-- a word without spaces and line feeds -/
def plainB (w : Str) : Bool := decide (tl w ≠ []) && (tl w).all fun c => decide (c ≠ 32) && decide (c ≠ 10) && decide (c < 128)
structure Plain (w : Str) : Prop where
  ne : tl w ≠ []
  sp : 32 ∉ tl w
  lf : 10 ∉ tl w
  ok : PyData.strOk w = true
theorem plain_ok {w : Str} (h : plainB w = true) : Plain w := by
  unfold plainB at h
  rw [Bool.and_eq_true, decide_eq_true_eq, List.all_eq_true] at h
  obtain ⟨h1, h2⟩ := h
  have h3 : ∀ c ∈ tl w, c ≠ 32 ∧ c ≠ 10 ∧ c < 128 := fun c hc => by
    have := h2 c hc
    simp only [Bool.and_eq_true, decide_eq_true_eq] at this
    exact ⟨this.1.1, this.1.2, this.2⟩
  refine ⟨h1, fun m => (h3 _ m).1 rfl, fun m => (h3 _ m).2.1 rfl, ?_⟩
  unfold PyData.strOk
  rw [Array.all_eq_true_iff_forall_mem]
  intro c hc
  have := (h3 c (by simpa [tl] using hc)).2.2
  simp
  omega
theorem plain_num (n : Nat) : Plain (numS n) := by
  have d := numL_digits n
  refine plain_ok ?_
  unfold plainB
  rw [Bool.and_eq_true, decide_eq_true_eq, List.all_eq_true, tl_numS]
  refine ⟨numL_ne n, fun c hc => ?_⟩
  have := d c hc
  simp only [Bool.and_eq_true, decide_eq_true_eq]
  omega
theorem plain_head (k : Nat) : Plain (headN k) := by
  unfold headN
  split <;> exact plain_ok (by decide +kernel)
theorem mem_joinL {S : List Nat} {c : Nat} : ∀ {parts : List (List Nat)}, c ∈ joinL S parts → c ∈ S ∨ ∃ p ∈ parts, c ∈ p
  | [], h => by cases h
  | [p], h => .inr ⟨p, List.mem_singleton.mpr rfl, h⟩
  | p :: q :: r, h => by
    rw [joinL] at h
    rcases List.mem_append.mp h with h | h
    · exact .inr ⟨p, List.mem_cons_self, h⟩
    · rcases List.mem_append.mp h with h | h
      · exact .inl h
      · rcases mem_joinL h with h | ⟨z, hz, h⟩
        · exact .inl h
        · exact .inr ⟨z, List.mem_cons_of_mem _ hz, h⟩
theorem split_lines {lines : List Str} (h : lines ≠ []) (hp : ∀ l ∈ lines, 10 ∉ tl l) : Txt.split (Txt.join "\n" lines) "\n" = lines :=
  split_join (s := 10) (S := []) (by decide +kernel) (by decide +kernel) h hp
theorem split_words {ws : List Str} (h : ws ≠ []) (hp : ∀ w ∈ ws, 32 ∉ tl w) : Txt.split (Txt.join " " ws) " " = ws :=
  split_join (s := 32) (S := []) (by decide +kernel) (by decide +kernel) h hp
theorem keep_plain {ws : List Str} (hp : ∀ w ∈ ws, Plain w) : ws.filter (fun w => decide (w ≠ Str.empty)) = ws := by
  refine List.filter_eq_self.mpr fun w hw => decide_eq_true fun z => (hp w hw).ne ?_
  rw [z]
  rfl
theorem line_words {ws : List Str} (hp : ∀ w ∈ ws, Plain w) : (Txt.split (Txt.join " " ws) " ").filter (fun w => decide (w ≠ Str.empty)) = ws := by
  by_cases h : ws = []
  · subst h
    decide +kernel
  · rw [split_words h fun w hw => (hp w hw).sp, keep_plain hp]
theorem line_lf {ws : List Str} (hp : ∀ w ∈ ws, Plain w) : 10 ∉ tl (Txt.join " " ws) := by
  rw [join_eq, tl_join]
  intro m
  rcases mem_joinL m with m | ⟨p, hm, m⟩
  · revert m
    decide +kernel
  · obtain ⟨w, hw, rfl⟩ := List.mem_map.mp hm
    exact (hp w hw).lf m
theorem rowsOf_lines {lines : List Str} (h : lines ≠ []) (hp : ∀ l ∈ lines, 10 ∉ tl l) : rowsOf (Txt.join "\n" lines) = lines.map fun l => (Txt.split l " ").filter fun w => decide (w ≠ Str.empty) := by
  unfold rowsOf
  rw [split_lines h hp]
theorem rowsOf_rows {rows : List (List Str)} (h : rows ≠ []) (hp : ∀ r ∈ rows, ∀ w ∈ r, Plain w) : rowsOf (Txt.join "\n" (rows.map (Txt.join " "))) = rows := by
  rw [rowsOf_lines (fun z => h (List.map_eq_nil_iff.mp z)) fun l hl => by
    obtain ⟨r, hr, rfl⟩ := List.mem_map.mp hl
    exact line_lf (hp r hr), List.map_map]
  exact (List.map_congr_left (g := id) fun r hr => line_words (hp r hr)).trans (List.map_id rows)
/-! ### further spaces -/
theorem jl_lead (p : List Nat) (r : List (List Nat)) : ∀ a, joinL [32] (List.replicate a [] ++ (p :: r)) = List.replicate a 32 ++ joinL [32] (p :: r)
  | 0 => rfl
  | a + 1 => by
    have e : ∀ q : List (List Nat), q ≠ [] → joinL [32] ([] :: q) = 32 :: joinL [32] q := fun q hq => by
      cases q with
      | nil => exact absurd rfl hq
      | cons x y => rfl
    rw [List.replicate_succ, List.cons_append, e _ (by simp), jl_lead p r a]
    rfl
theorem jl_two (p m : List Nat) (b c : Nat) : joinL [32] (p :: (List.replicate b [] ++ (m :: List.replicate c []))) = p ++ List.replicate b 32 ++ [32] ++ (m ++ List.replicate c 32) := by
  have e : ∀ (x : List Nat) (q : List (List Nat)), q ≠ [] → joinL [32] (x :: q) = x ++ ([32] ++ joinL [32] q) := fun x q hq => by
    cases q with
    | nil => exact absurd rfl hq
    | cons y z => rfl
  have tail : ∀ (c : Nat) (x : List Nat), joinL [32] (x :: List.replicate c []) = x ++ List.replicate c 32 := by
    intro c
    induction c with
    | zero => intro x; simp [joinL]
    | succ c ih =>
      intro x
      rw [List.replicate_succ, e x _ (by simp), ih, List.replicate_succ]
      rfl
  rw [e p _ (by simp), jl_lead, tail]
  have : [32] ++ List.replicate b 32 = List.replicate b 32 ++ [32] := by
    rw [← List.replicate_succ', List.replicate_succ]
    rfl
  rw [← List.append_assoc [32], this]
  simp [List.append_assoc]
/-- a line of two words with more spaces -/
def wideS (x y : Str) (a b c : Nat) : Str := repS " " a ++ Txt.join " " [x ++ repS " " b, y ++ repS " " c]
theorem tl_sp (n : Nat) : tl (repS " " n) = List.replicate n 32 := by
  rw [tl_rep, show tl (" " : Str) = [32] by decide +kernel]
  induction n with
  | zero => rfl
  | succ n ih => rw [List.replicate_succ, List.flatten_cons, ih, List.replicate_succ]; rfl
theorem wide_eq (x y : Str) (a b c : Nat) : wideS x y a b c = Txt.join " " (List.replicate a Str.empty ++ (x :: (List.replicate b Str.empty ++ (y :: List.replicate c Str.empty)))) := by
  refine ext_tl ?_
  unfold wideS
  rw [tl_append, tl_sp, join_eq, join_eq, tl_join, tl_join, show tl (" " : Str) = [32] by decide +kernel]
  have r0 : ∀ n, (List.replicate n Str.empty).map tl = List.replicate n [] := fun n => by rw [List.map_replicate]; rfl
  simp only [List.map_append, List.map_cons, List.map_nil, r0]
  rw [jl_lead, jl_two]
  show _ ++ (tl (x ++ repS " " b) ++ ([32] ++ tl (y ++ repS " " c))) = _
  rw [tl_append, tl_append, tl_sp, tl_sp]
  simp [List.append_assoc]
theorem wide_words {x y : Str} (hx : Plain x) (hy : Plain y) (a b c : Nat) : (Txt.split (wideS x y a b c) " ").filter (fun w => decide (w ≠ Str.empty)) = [x, y] := by
  have ne : ∀ {w : Str}, Plain w → w ≠ Str.empty := fun {w} h z => h.ne (by rw [z]; rfl)
  rw [wide_eq, split_words (by simp) fun w hw => ?_]
  · have f0 : ∀ n, (List.replicate n Str.empty).filter (fun w => decide (w ≠ Str.empty)) = [] := fun n => List.filter_eq_nil_iff.mpr fun w hw => by
      rw [List.eq_of_mem_replicate hw]
      simp
    rw [List.filter_append, f0, List.nil_append, List.filter_cons, if_pos (decide_eq_true (ne hx)), List.filter_append, f0, List.nil_append, List.filter_cons, if_pos (decide_eq_true (ne hy)), f0]
  · have z : 32 ∉ tl Str.empty := by decide +kernel
    simp only [List.mem_append, List.mem_cons, List.mem_replicate] at hw
    rcases hw with ⟨_, rfl⟩ | rfl | ⟨_, rfl⟩ | rfl | ⟨_, rfl⟩
    · exact z
    · exact hx.sp
    · exact z
    · exact hy.sp
    · exact z
theorem wide_lf {x y : Str} (hx : Plain x) (hy : Plain y) (a b c : Nat) : 10 ∉ tl (wideS x y a b c) := by
  rw [wide_eq, join_eq, tl_join]
  intro m
  rcases mem_joinL m with m2 | ⟨p, hm, m2⟩
  · revert m2
    decide +kernel
  · obtain ⟨w, hw, rfl⟩ := List.mem_map.mp hm
    have z : 10 ∉ tl Str.empty := by decide +kernel
    simp only [List.mem_append, List.mem_cons, List.mem_replicate] at hw
    rcases hw with ⟨_, rfl⟩ | rfl | ⟨_, rfl⟩ | rfl | ⟨_, rfl⟩
    · exact z m2
    · exact hx.lf m2
    · exact z m2
    · exact hy.lf m2
    · exact z m2
/-! ### lengths -/
theorem joinL_len (S : List Nat) : ∀ parts : List (List Nat), (joinL S parts).length ≤ (parts.map List.length).sum + parts.length * S.length
  | [] => Nat.zero_le _
  | [p] => by simp [joinL]
  | p :: q :: r => by
    have ih := joinL_len S (q :: r)
    rw [joinL, List.length_append, List.length_append, List.map_cons, List.sum_cons, List.length_cons, Nat.succ_mul]
    omega
theorem join_len (y : Str) (parts : List Str) : (Txt.join y parts).length ≤ (parts.map Str.length).sum + parts.length * y.length := by
  rw [len_tl, join_eq, tl_join]
  refine Nat.le_trans (joinL_len _ _) ?_
  rw [List.map_map, List.length_map, ← len_tl]
  have e : parts.map (List.length ∘ tl) = parts.map Str.length := List.map_congr_left fun p _ => (len_tl p).symm
  rw [e]
  exact Nat.le_refl _
theorem head_len (k : Nat) : (headN k).length ≤ 5 := by
  unfold headN
  split <;> decide +kernel
theorem num_len {n : Nat} (h : n ≤ 99) : (numS n).length ≤ 2 := by
  rw [len_tl, tl_numS]
  exact numL_len (by decide) (by omega)
theorem line_eq (x y : Str) : (x ++ " ") ++ y = Txt.join " " [x, y] := by
  refine ext_tl ?_
  rw [tl_append, tl_append, join_eq, tl_join]
  show tl x ++ tl (" " : Str) ++ tl y = tl x ++ (tl (" " : Str) ++ tl y)
  rw [List.append_assoc]
theorem lineErr_ok {k n : Nat} (h1 : headLo k ≤ n) (h2 : n ≤ headHi k) : lineErr k [headN k, numS n] = none := by
  unfold lineErr
  rw [if_neg (fun z => z rfl), if_neg]
  · exact if_neg (show ¬ 2 < 2 by decide)
  intro z
  rcases z with z | z
  · exact absurd z (show ¬ 2 < 2 by decide)
  · exact z (nums_mem h1 h2)
def wayRows (h b c k : Nat) : List (List Str) := [[headN 0, numS h], [headN 1, numS b], [headN 2, numS c], [headN 3, numS k]]
theorem rdErr_way {h b c k : Nat} (o : WayOk h b c k) : rdErr 0 (wayRows h b c k) = none := by
  have e0 := lineErr_ok (k := 0) (n := h) (Nat.zero_le _) o.h
  have e1 := lineErr_ok (k := 1) (n := b) (Nat.zero_le _) o.b
  have e2 := lineErr_ok (k := 2) (n := c) (Nat.zero_le _) o.c
  have e3 := lineErr_ok (k := 3) (n := k) o.k1 o.k3
  unfold wayRows
  rw [rdErr, if_neg (by decide), e0]
  show rdErr 1 _ = none
  rw [rdErr, if_neg (by decide), e1]
  show rdErr 2 _ = none
  rw [rdErr, if_neg (by decide), e2]
  show rdErr 3 _ = none
  rw [rdErr, if_neg (by decide), e3]
  show rdErr 4 _ = none
  rw [rdErr, if_neg (by decide)]
theorem wayRows_inj {h b c k h' b' c' k' : Nat} (e : wayRows h b c k = wayRows h' b' c' k') : h = h' ∧ b = b' ∧ c = c' ∧ k = k' := by
  unfold wayRows at e
  simp only [List.cons.injEq, and_true, true_and] at e
  exact ⟨numS_inj e.1, numS_inj e.2.1, numS_inj e.2.2.1, numS_inj e.2.2.2⟩
theorem wayRows_plain (h b c k : Nat) : ∀ r ∈ wayRows h b c k, ∀ w ∈ r, Plain w := by
  intro r hr w hw
  unfold wayRows at hr
  simp only [List.mem_cons, List.not_mem_nil, or_false] at hr
  rcases hr with rfl | rfl | rfl | rfl <;>
  · simp only [List.mem_cons, List.not_mem_nil, or_false] at hw
    rcases hw with rfl | rfl
    · exact plain_head _
    · exact plain_num _
/-! ### rows as lists of lists -/
def rowD (ws : List Str) : PyData := .list (ws.map .str)
def RowsAt (K : Fr0) (H : Hp) (r R : Addr) (rows : List (List Str)) : Prop := ∃ G xs, G r = none ∧ Same G H ∧ G R = some (.lst xs) ∧ DpAll K G xs (rows.map rowD)
theorem same_chg {G H H' : Hp} {r : Addr} (s : Same G H) (n : G r = none) (c : Chg r H H') : Same G H' := fun b o e => c.kp b o (ne_of_none e n) (s b o e)
theorem RowsAt.same {K : Fr0} {H H' : Hp} {r R : Addr} {rows : List (List Str)} (s : Same H H') (h : RowsAt K H r R rows) : RowsAt K H' r R rows := by
  obtain ⟨G, xs, n, k, a, d⟩ := h
  exact ⟨G, xs, n, k.trans s, a, d⟩
theorem RowsAt.chg {K : Fr0} {H H' : Hp} {r R : Addr} {rows : List (List Str)} (c : Chg r H H') (h : RowsAt K H r R rows) : RowsAt K H' r R rows := by
  obtain ⟨G, xs, n, k, a, d⟩ := h
  exact ⟨G, xs, n, same_chg k n c, a, d⟩
theorem RowsAt.dp {K : Fr0} {H : Hp} {r R : Addr} {rows : List (List Str)} (h : RowsAt K H r R rows) : Dp K H (.ref R) (.list (rows.map rowD)) := by
  obtain ⟨G, xs, n, k, a, d⟩ := h
  exact .lst (SqL.of (k _ _ a)) (dpA_same k d)
theorem RowsAt.new {K : Fr0} {H : Hp} {r R : Addr} {ys : List V} {rows : List (List Str)} (ne : R ≠ r) (e : H R = some (.lst ys)) (d : DpAll K (cut H r) ys (rows.map rowD)) : RowsAt K H r R rows :=
  ⟨cut H r, ys, cut_at, cut_same, by rw [cut_ne ne]; exact e, d⟩
/-- short rows of plain words -/
structure RowsOk (rows : List (List Str)) (j : Nat) : Prop where
  plain : ∀ ws ∈ rows, ∀ w ∈ ws, Plain w ∧ w.length ≤ 5
  len : rows.length + 2 ≤ 6 * 2 ^ j
  each : ∀ ws ∈ rows, ws.length + 1 ≤ 3 * 2 ^ j
theorem RowsOk.next {rows rows' : List (List Str)} {j : Nat} (h : RowsOk rows j) (hm : ∀ ws ∈ rows', ws ∈ rows ∨ ((∀ w ∈ ws, Plain w ∧ w.length ≤ 5) ∧ ws.length + 1 ≤ 3 * 2 ^ (j + 1))) (hl : rows'.length + 2 ≤ 6 * 2 ^ (j + 1)) : RowsOk rows' (j + 1) := by
  refine ⟨fun ws hw => ?_, hl, fun ws hw => ?_⟩
  · rcases hm ws hw with m | m
    · exact h.plain ws m
    · exact m.1
  · rcases hm ws hw with m | m
    · have := h.each ws m
      rw [Nat.pow_succ]
      omega
    · exact m.2
theorem rows_text {rows : List (List Str)} (h : RowsOk rows 2) : ((rows.map (Txt.join " ")).map Str.length).sum + (rows.map (Txt.join " ")).length * ("\n" : Str).length ≤ 2000 := by
  have l1 : ("\n" : Str).length = 1 := by decide +kernel
  have l2 : (" " : Str).length = 1 := by decide +kernel
  have line : ∀ ws ∈ rows, (Txt.join " " ws).length ≤ 66 := by
    intro ws hw
    have hl := h.each ws hw
    have : ws.length ≤ 11 := by omega
    refine Nat.le_trans (join_len _ _) ?_
    have s : ∀ l : List Str, (∀ w ∈ l, w.length ≤ 5) → (l.map Str.length).sum ≤ 5 * l.length := by
      intro l
      induction l with
      | nil => intro _; exact Nat.le_refl _
      | cons x l ih =>
        intro hx
        have a := hx x List.mem_cons_self
        have b := ih fun w hw => hx w (List.mem_cons_of_mem _ hw)
        rw [List.map_cons, List.sum_cons, List.length_cons]
        omega
    have := s ws fun w m => (h.plain ws hw w m).2
    rw [l2]
    omega
  have len : rows.length ≤ 22 := by have := h.len; omega
  have s : ∀ l : List (List Str), (∀ ws ∈ l, (Txt.join " " ws).length ≤ 66) → ((l.map (Txt.join " ")).map Str.length).sum ≤ 66 * l.length := by
    intro l
    induction l with
    | nil => intro _; exact Nat.le_refl _
    | cons x l ih =>
      intro hx
      have a := hx x List.mem_cons_self
      have b := ih fun w hw => hx w (List.mem_cons_of_mem _ hw)
      rw [List.map_cons, List.map_cons, List.sum_cons, List.length_cons]
      omega
  have := s rows line
  rw [List.length_map, l1]
  omega
theorem RowsOk.mono {rows : List (List Str)} {i j : Nat} (h : RowsOk rows i) (hij : i ≤ j) : RowsOk rows j := by
  have := Nat.pow_le_pow_right (show 0 < 2 by decide) hij
  exact ⟨h.plain, by have := h.len; omega, fun ws hw => by have := h.each ws hw; omega⟩
theorem dpRows_cut {K : Fr0} {H : Hp} {r : Addr} (h : RowAt K H r) : ∀ {rows : List (List Str)} {xs : List V}, DpAll K H xs (rows.map rowD) → DpAll K (cut H r) xs (rows.map rowD)
  | [], _, d => by cases d; exact .nil
  | ws :: rows, _, d => by
    rw [List.map_cons] at d ⊢
    cases d with
    | cons a b =>
      refine .cons ?_ (dpRows_cut h b)
      obtain ⟨s, ns, p, m, c, hr, _⟩ := h
      obtain ⟨wa, ys, rfl, sq, al⟩ := dp_lst a
      obtain rfl := dpA_strs_eq al
      have ne : ∀ l : List Str, l.map V.str ≠ [.ref s, .int p, .int m, .int c] := fun l z => by
        cases l with
        | nil => cases z
        | cons x l => injection z with z; cases z
      refine .lst ?_ (dpA_strs _)
      rcases sq with (sq | ⟨o, sq⟩) | sq
      · refine .inl (.inl ?_)
        by_cases e : wa = r
        · rw [e, hr] at sq
          injection sq with sq
          injection sq with sq
          exact absurd sq.symm (ne ws)
        · rw [cut_ne e]; exact sq
      · refine .inl (.inr ⟨o, ?_⟩)
        by_cases e : wa = r
        · rw [e, hr] at sq
          cases sq
        · rw [cut_ne e]; exact sq
      · exact .inr sq
theorem RowsAt.mk2 {K : Fr0} {H : Hp} {r R : Addr} {ys : List V} {rows : List (List Str)} (h : RowAt K H r) (ne : R ≠ r) (e : H R = some (.lst ys)) (d : DpAll K H ys (rows.map rowD)) : RowsAt K H r R rows := .new ne e (dpRows_cut h d)
theorem dp_cutR {K : Fr0} {H : Hp} {xs : List V} {rows : List (List Str)} (lo hi : Option Int) (d : DpAll K H xs (rows.map rowD)) : DpAll K H (cutV xs lo hi) ((cutL rows rows.length lo hi).map rowD) := by
  have := cut_dp lo hi d
  rw [List.length_map, cutL_map] at this
  exact this
theorem dp_three {K : Fr0} {H : Hp} {xs ys zs : List V} {a b c : List (List Str)} (d1 : DpAll K H xs (a.map rowD)) (d2 : DpAll K H ys (b.map rowD)) (d3 : DpAll K H zs (c.map rowD)) : DpAll K H (xs ++ ys ++ zs) ((a ++ b ++ c).map rowD) := by
  rw [List.map_append, List.map_append]
  exact dpA_append (dpA_append d1 d2) d3
theorem cut_two {α : Type} (xs : List α) (n i : Nat) : (cutL xs n (some (i : Int)) (some ((i : Int) + 2))).length ≤ 2 := by
  unfold cutL
  rw [show (i : Int) + 2 = ((i + 2 : Nat) : Int) by omega, HT.sIx_nat, HT.sIx_nat, List.length_take]
  omega
theorem RowsOk.three {rows m : List (List Str)} {j : Nat} {lo hi lo' hi' : Option Int} (h : RowsOk rows j) (hm : ∀ ws ∈ m, ws ∈ rows ∨ ((∀ w ∈ ws, Plain w ∧ w.length ≤ 5) ∧ ws.length + 1 ≤ 3 * 2 ^ (j + 1))) (hl : m.length ≤ 2) :
    RowsOk (cutL rows rows.length lo hi ++ m ++ cutL rows rows.length lo' hi') (j + 1) := by
  refine h.next (fun ws hw => ?_) ?_
  · rcases List.mem_append.mp hw with hw | hw
    · rcases List.mem_append.mp hw with hw | hw
      · exact .inl (cutL_mem hw)
      · exact hm ws hw
    · exact .inl (cutL_mem hw)
  · have a := cutL_len rows rows.length lo hi
    have b := cutL_len rows rows.length lo' hi'
    have := h.len
    rw [List.length_append, List.length_append, Nat.pow_succ]
    omega
theorem flat_rep (x : V) : ∀ n : Nat, (List.replicate n [x]).flatten = List.replicate n x
  | 0 => rfl
  | n + 1 => by rw [List.replicate_succ, List.flatten_cons, flat_rep x n, List.replicate_succ]; rfl
theorem dp_rep {K : Fr0} {H : Hp} {v : V} {ws : List Str} (d : Dp K H v (rowD ws)) : ∀ n : Nat, DpAll K H (List.replicate n v) ((List.replicate n ws).map rowD)
  | 0 => .nil
  | n + 1 => .cons d (dp_rep d n)
end Ab
/-! PART fillings: a filling as an instance with its states. -/
namespace Ab
open PySem PySem.Spec PyProof.Rows L2
theorem natsV_length (l : List Nat) : (natsV l).length = l.length := by unfold natsV; rw [List.length_map]
/-- a state: what is missing, and the doubles -/
def fin0 (h n : Nat) : List Nat × Nat := (List.range' h (n - h), 0)
def finS (s : List Nat × Nat) (p : Nat) : List Nat × Nat := (s.1.filter fun x => decide (x ≠ p), s.2 + if (s.1.filter fun x => decide (x ≠ p)).length = s.1.length then 1 else 0)
def finL (h n : Nat) (l : List Nat) : List Nat × Nat := l.foldl finS (fin0 h n)
theorem finL_snoc {h n : Nat} {l : List Nat} {p : Nat} : finL h n (l ++ [p]) = finS (finL h n l) p := by
  unfold finL
  rw [List.foldl_append]
  rfl
theorem fin0_nil {h n : Nat} : finL h n [] = fin0 h n := rfl
theorem finL_len (h n : Nat) (l : List Nat) : (finL h n l).1.length ≤ n - h := by
  have key : ∀ (l : List Nat) (s : List Nat × Nat), (l.foldl finS s).1.length ≤ s.1.length := by
    intro l
    induction l with
    | nil => intro s; exact Nat.le_refl _
    | cons a l ih => intro s; exact Nat.le_trans (ih _) (List.length_filter_le _ _)
  exact Nat.le_trans (key l _) (by unfold fin0; rw [List.length_range']; exact Nat.le_refl _)
theorem finL_dbl (h n : Nat) (l : List Nat) : (finL h n l).2 ≤ l.length := by
  have key : ∀ (l : List Nat) (s : List Nat × Nat), (l.foldl finS s).2 ≤ s.2 + l.length := by
    intro l
    induction l with
    | nil => intro s; exact Nat.le_refl _
    | cons a l ih =>
      intro s
      refine Nat.le_trans (ih _) ?_
      unfold finS
      rw [List.length_cons]
      show s.2 + _ + l.length ≤ _
      split <;> omega
  exact Nat.le_trans (key l _) (by unfold fin0; omega)
def StAt (H : Hp) (p : Addr) (s : List Nat × Nat) : Prop := ∃ q, H p = some (.tup [.ref q, .int (s.2 : Int)]) ∧ H q = some (.tup (natsV s.1))
abbrev filF (n : Nat) (W S B : Addr) : List (Str × V) := [("source", .ref W), ("size", .int (n : Int)), ("states", .ref S), ("brought", .ref B)]
/-- at f stands the filling of the way at W with n pictures, its states at S, after the pictures l -/
def FilAt (K : Fr0) (H : Hp) (f S W : Addr) (h n : Nat) (l : List Nat) : Prop := ∃ (dx B : Addr) (ps : List Addr), H f = some (.ins (fA K "Filling") dx (filF n W S B)) ∧
  H S = some (.lst (ps.map V.ref)) ∧ H B = some (.tup (natsV l)) ∧ ps.length = l.length + 1 ∧ ∀ i, i ≤ l.length → ∃ p, ps[i]? = some p ∧ StAt H p (finL h n (l.take i))
/-- only the filling at f, its states at S, were changed -/
structure Mov (f S : Addr) (H H' : Hp) : Prop where
  fi : ∃ C dx u r, H f = some (.ins C dx (("source", u) :: r))
  li : ∃ xs, H S = some (.lst xs)
  kp : ∀ b o, b ≠ f → b ≠ S → H b = some o → H' b = some o
theorem Mov.tup {f S p : Addr} {H H' : Hp} {xs : List V} (m : Mov f S H H') (e : H p = some (.tup xs)) : H' p = some (.tup xs) := by
  obtain ⟨C, dx, u, r, hf⟩ := m.fi
  obtain ⟨ys, hs⟩ := m.li
  refine m.kp _ _ (fun z => ?_) (fun z => ?_) e
  · rw [z, hf] at e; cases e
  · rw [z, hs] at e; cases e
theorem Mov.dk {f S p : Addr} {H H' : Hp} {xs : List (Key × V)} (m : Mov f S H H') (e : H p = some (.dK xs)) : H' p = some (.dK xs) := by
  obtain ⟨C, dx, u, r, hf⟩ := m.fi
  obtain ⟨ys, hs⟩ := m.li
  refine m.kp _ _ (fun z => ?_) (fun z => ?_) e
  · rw [z, hf] at e; cases e
  · rw [z, hs] at e; cases e
theorem Mov.lst {f S p : Addr} {H H' : Hp} {xs : List V} (m : Mov f S H H') (n : p ≠ S) (e : H p = some (.lst xs)) : H' p = some (.lst xs) := by
  obtain ⟨C, dx, u, r, hf⟩ := m.fi
  refine m.kp _ _ (fun z => ?_) n e
  rw [z, hf] at e
  cases e
theorem Mov.way {K : Fr0} {f S W : Addr} {H H' : Hp} {h b c k : Nat} (m : Mov f S H H') (e : WayAt K H W h b c k) : WayAt K H' W h b c k := by
  obtain ⟨C, dx, u, r, hf⟩ := m.fi
  obtain ⟨ys, hs⟩ := m.li
  obtain ⟨dw, e⟩ := e
  refine ⟨dw, m.kp _ _ (fun z => ?_) (fun z => ?_) e⟩
  · rw [z, hf] at e
    have z1 := Option.some.inj e
    injection z1 with _ _ z2
    injection z2 with z3 _
    injection z3 with z4 _
    exact absurd z4 (by decide +kernel)
  · rw [z, hs] at e; cases e
theorem Mov.draw {f S p : Addr} {H H' : Hp} {h b c k : Nat} (m : Mov f S H H') (e : DrawAt H p h b c k) : DrawAt H' p h b c k := m.dk e
theorem Mov.refl' {f S : Addr} {H : Hp} {C dx : Addr} {u : V} {r : List (Str × V)} {xs : List V} (e : H f = some (.ins C dx (("source", u) :: r))) (e2 : H S = some (.lst xs)) : Mov f S H H := ⟨⟨_, _, _, _, e⟩, ⟨_, e2⟩, fun _ _ _ _ z => z⟩
theorem Mov.same {f S : Addr} {H H1 H2 : Hp} (m : Mov f S H H1) (s : Same H1 H2) : Mov f S H H2 := ⟨m.fi, m.li, fun b o n1 n2 e => s _ _ (m.kp b o n1 n2 e)⟩
theorem Mov.tr {f S : Addr} {H H1 H2 : Hp} (m : Mov f S H H1) (s : Mov f S H1 H2) : Mov f S H H2 := ⟨m.fi, m.li, fun b o n1 n2 e => s.kp _ _ n1 n2 (m.kp b o n1 n2 e)⟩
theorem Mov.after {f S : Addr} {H H1 H2 : Hp} {C dx : Addr} {u : V} {r : List (Str × V)} {xs : List V} (s : Same H H1) (e : H f = some (.ins C dx (("source", u) :: r))) (e2 : H S = some (.lst xs)) (m : Mov f S H1 H2) : Mov f S H H2 := ⟨⟨_, _, _, _, e⟩, ⟨_, e2⟩, fun b o n1 n2 e => m.kp b o n1 n2 (s _ _ e)⟩
theorem Mov.put {f S p : Addr} {H H1 : Hp} {o : HO} (m : Mov f S H H1) (h : p = f ∨ p = S) : Mov f S H (upd H1 p o) := ⟨m.fi, m.li, fun b u n1 n2 e => by
  rw [upd_ne (by rcases h with rfl | rfl <;> assumption)]
  exact m.kp b u n1 n2 e⟩
theorem StAt.same {H H' : Hp} {p : Addr} {s : List Nat × Nat} (e : Same H H') (a : StAt H p s) : StAt H' p s := by
  obtain ⟨q, h1, h2⟩ := a
  exact ⟨q, e _ _ h1, e _ _ h2⟩
theorem StAt.mov {f S : Addr} {H H' : Hp} {p : Addr} {s : List Nat × Nat} (m : Mov f S H H') (a : StAt H p s) : StAt H' p s := by
  obtain ⟨q, h1, h2⟩ := a
  exact ⟨q, m.tup h1, m.tup h2⟩
theorem FilAt.same {K : Fr0} {H H' : Hp} {f S W : Addr} {h n : Nat} {l : List Nat} (e : Same H H') (a : FilAt K H f S W h n l) : FilAt K H' f S W h n l := by
  obtain ⟨dx, B, ps, h1, h2, h3, h4, h5⟩ := a
  exact ⟨dx, B, ps, e _ _ h1, e _ _ h2, e _ _ h3, h4, fun i hi => by obtain ⟨p, e1, e2⟩ := h5 i hi; exact ⟨p, e1, e2.same e⟩⟩
/-- another filling stays -/
theorem FilAt.mov {K : Fr0} {H H' : Hp} {f S g T W : Addr} {h n : Nat} {l : List Nat} (m : Mov g T H H') (n1 : f ≠ g) (n2 : S ≠ T) (a : FilAt K H f S W h n l) : FilAt K H' f S W h n l := by
  obtain ⟨dx, B, ps, h1, h2, h3, h4, h5⟩ := a
  obtain ⟨ys, hT⟩ := m.li
  refine ⟨dx, B, ps, m.kp _ _ n1 (fun z => ?_) h1, m.lst n2 h2, m.tup h3, h4, fun i hi => ?_⟩
  · rw [z, hT] at h1; cases h1
  · obtain ⟨p, e1, e2⟩ := h5 i hi
    exact ⟨p, e1, e2.mov m⟩
/-- a list that is no filling's changed -/
theorem FilAt.chg {K : Fr0} {H H' : Hp} {f S W r : Addr} {h n : Nat} {l : List Nat} (c : Chg r H H') (n2 : S ≠ r) (a : FilAt K H f S W h n l) : FilAt K H' f S W h n l := by
  obtain ⟨dx, B, ps, h1, h2, h3, h4, h5⟩ := a
  refine ⟨dx, B, ps, c.at h1 fun _ z => (nomatch z), c.kp _ _ n2 h2, c.at h3 fun _ z => (nomatch z), h4, fun i hi => ?_⟩
  obtain ⟨p, e1, q, e2, e3⟩ := h5 i hi
  exact ⟨p, e1, q, c.at e2 fun _ z => (nomatch z), c.at e3 fun _ z => (nomatch z)⟩
theorem FilAt.ne {K : Fr0} {H : Hp} {f S W : Addr} {h n : Nat} {l : List Nat} (a : FilAt K H f S W h n l) : f ≠ S := by
  obtain ⟨dx, B, ps, h1, h2, h3, h4, h5⟩ := a
  intro z
  rw [z, h2] at h1
  cases h1
theorem FilAt.refl {K : Fr0} {H : Hp} {f S W : Addr} {h n : Nat} {l : List Nat} (a : FilAt K H f S W h n l) : Mov f S H H := by
  obtain ⟨dx, B, ps, h1, h2, h3, h4, h5⟩ := a
  exact Mov.refl' h1 h2
/-- the state that is last -/
theorem FilAt.last {K : Fr0} {H : Hp} {f S W : Addr} {h n : Nat} {l : List Nat} (a : FilAt K H f S W h n l) : ∃ (dx B : Addr) (xs : List V) (p q : Addr), H f = some (.ins (fA K "Filling") dx (filF n W S B)) ∧
    H S = some (.lst xs) ∧ H B = some (.tup (natsV l)) ∧ xs.length = l.length + 1 ∧ atI xs (-1) = some (.ref p) ∧ H p = some (.tup [.ref q, .int ((finL h n l).2 : Int)]) ∧ H q = some (.tup (natsV (finL h n l).1)) := by
  obtain ⟨dx, B, ps, h1, h2, h3, h4, h5⟩ := a
  obtain ⟨p, e1, q, e2, e3⟩ := h5 l.length (Nat.le_refl _)
  rw [List.take_length] at e2 e3
  refine ⟨dx, B, ps.map V.ref, p, q, h1, h2, h3, by rw [List.length_map]; exact h4, Ab.atI_last (n := l.length) (by rw [List.getElem?_map, e1]; rfl) (by rw [List.length_map]; exact h4), e2, e3⟩
theorem FilAt.grow {K : Fr0} {H H' : Hp} {f S W dx B2 np : Addr} {h n : Nat} {l : List Nat} {p : Nat} {xs : List V} (a : FilAt K H f S W h n l) (m : Mov f S H H') (eS : H S = some (.lst xs)) (ef : H' f = some (.ins (fA K "Filling") dx (filF n W S B2)))
    (eS' : H' S = some (.lst (xs ++ [.ref np]))) (eB : H' B2 = some (.tup (natsV (l ++ [p])))) (hn : StAt H' np (finL h n (l ++ [p]))) : FilAt K H' f S W h n (l ++ [p]) := by
  obtain ⟨dx0, B, ps, h1, h2, h3, h4, h5⟩ := a
  obtain rfl : xs = ps.map V.ref := by rw [h2] at eS; injection eS with z; injection z with z; exact z.symm
  refine ⟨dx, B2, ps ++ [np], ef, by rw [List.map_append]; exact eS', eB, by rw [List.length_append, List.length_append, h4]; rfl, fun i hi => ?_⟩
  rw [List.length_append] at hi
  by_cases e : i = l.length + 1
  · subst e
    refine ⟨np, by rw [List.getElem?_append_right (by omega), h4, Nat.sub_self]; rfl, ?_⟩
    rw [List.take_of_length_le (by rw [List.length_append]; exact Nat.le_refl _)]
    exact hn
  · have hi2 : i ≤ l.length := by
      have : i ≤ l.length + 1 := hi
      omega
    obtain ⟨q, e1, e2⟩ := h5 i hi2
    refine ⟨q, by rw [List.getElem?_append_left (by omega)]; exact e1, ?_⟩
    rw [List.take_append_of_le_length hi2]
    exact e2.mov m
theorem FilAt.shrink {K : Fr0} {H H' : Hp} {f S W dx B2 : Addr} {h n : Nat} {l : List Nat} {xs : List V} (a : FilAt K H f S W h n l) (ne : l ≠ []) (m : Mov f S H H') (eS : H S = some (.lst xs)) (ef : H' f = some (.ins (fA K "Filling") dx (filF n W S B2)))
    (eS' : H' S = some (.lst xs.dropLast)) (eB : H' B2 = some (.tup (natsV l.dropLast))) : FilAt K H' f S W h n l.dropLast := by
  obtain ⟨dx0, B, ps, h1, h2, h3, h4, h5⟩ := a
  obtain rfl : xs = ps.map V.ref := by rw [h2] at eS; injection eS with z; injection z with z; exact z.symm
  have pos : 0 < l.length := List.length_pos_iff.mpr ne
  refine ⟨dx, B2, ps.dropLast, ef, by rw [List.map_dropLast]; exact eS', eB, by rw [List.length_dropLast, List.length_dropLast, h4]; omega, fun i hi => ?_⟩
  rw [List.length_dropLast] at hi
  obtain ⟨q, e1, e2⟩ := h5 i (by omega)
  refine ⟨q, ?_, ?_⟩
  · rw [List.getElem?_dropLast, if_pos (by omega)]
    exact e1
  · rw [List.dropLast_eq_take, List.take_take, Nat.min_eq_left (by omega)]
    exact e2.mov m
theorem FilAt.twin {K : Fr0} {H H' : Hp} {f S W g T dx dy B : Addr} {h n : Nat} {l : List Nat} {xs : List V} (a : FilAt K H f S W h n l) (s : Same H H') (ef : H f = some (.ins (fA K "Filling") dx (filF n W S B))) (eS : H S = some (.lst xs))
    (eg : H' g = some (.ins (fA K "Filling") dy (filF n W T B))) (eT : H' T = some (.lst xs)) : FilAt K H' g T W h n l := by
  obtain ⟨dx0, B0, ps, h1, h2, h3, h4, h5⟩ := a
  obtain rfl : xs = ps.map V.ref := by rw [h2] at eS; injection eS with z; injection z with z; exact z.symm
  obtain rfl : B = B0 := by
    rw [h1] at ef
    injection ef with z
    injection z with _ _ z
    injection z with _ z
    injection z with _ z
    injection z with _ z
    injection z with z _
    injection z with _ z
    injection z with z
    exact z.symm
  refine ⟨dy, B, ps, eg, eT, s _ _ h3, h4, fun i hi => ?_⟩
  obtain ⟨p, e1, e2⟩ := h5 i hi
  exact ⟨p, e1, e2.same s⟩
/-- what the making of a filling promises -/
def spFillInit (K : Fr0) : Sp := fun vs H Q E => ∃ (f dx W : Addr) (h b c k : Nat) (u : V) (t : String), vs = [.ref f, .ref W, u] ∧ H f = some (.ins (fA K "Filling") dx []) ∧ WayAt K H W h b c k ∧ AnyV K H u t ∧
  ((isIn ((max 1 (h + b) : Nat) : Int) 300 u = false ∧ Raised K "BadNumber" "n" u H E) ∨ ∃ n : Nat, u = .int n ∧ max 1 (h + b) ≤ n ∧ n ≤ 300 ∧ ∀ S H', But f H H' → H S = none → FilAt K H' f S W h n [] → Q .non H')
theorem c_fill {K : Fr0} {H : Hp} {R : Addr → Hp → Prop} {E : XK} {W : Addr} {h b c k n : Nat} (w : WayAt K H W h b c k) (n1 : max 1 (h + b) ≤ n) (n3 : n ≤ 300) (q : ∀ f S H', H f = none → H S = none → f ≠ S → Same H H' → FilAt K H' f S W h n [] → R f H') :
    ∀ x dx, H x = none → H dx = none → dx ≠ x → spFillInit K (.ref x :: ([.ref W, .int (n : Int)] ++ [])) (upd (upd H dx (.own x)) x (.ins (fA K "Filling") dx [])) (fun v H2 => v = .non ∧ R x H2) E := by
  intro x dx nx nd ne
  have s0 : Same H (upd (upd H dx (.own x)) x (.ins (fA K "Filling") dx [])) := fun a o ea => by
    rw [upd_ne (ne_of_none ea nx), upd_ne (ne_of_none ea nd)]
    exact ea
  refine ⟨x, dx, W, h, b, c, k, _, "int", rfl, upd_same, w.same s0, .int _, .inr ⟨n, rfl, n1, n3, fun S H' s nS a => ⟨rfl, q x S H' nx (s0.free nS) a.ne (fun y o ey => s y o (ne_of_none ey nx) (s0 _ _ ey)) a⟩⟩⟩
theorem c_fillS {K : Fr0} {H : Hp} {R : Addr → Hp → Prop} {E : XK} {W : Addr} {h b c k n : Nat} (w : WayAt K H W h b c k) (n1 : max 1 (h + b) ≤ n) (n3 : n ≤ 300) (q : ∀ f S H', H f = none → H S = none → f ≠ S → Same H H' → FilAt K H' f S W h n [] → R f H') :
    ∀ x dx, H x = none → H dx = none → dx ≠ x → spFillInit K (.ref x :: [.ref W, .int (n : Int)]) (upd (upd H dx (.own x)) x (.ins (fA K "Filling") dx [])) (fun v H2 => v = .non ∧ R x H2) E := c_fill w n1 n3 q
theorem rgV_nats {h n : Nat} : rgV (h : Int) (n : Int) = natsV (fin0 h n).1 := by
  unfold rgV natsV fin0
  have e : ((n : Int) - (h : Int)).toNat = n - h := by omega
  rw [e]
  show _ = List.map (fun x : Nat => V.int (x : Int)) (List.range' h (n - h))
  rw [List.range'_eq_map_range, List.map_map]
  refine List.map_congr_left fun i _ => ?_
  show V.int _ = V.int _
  congr 1
def spDone (K : Fr0) : Sp := fun vs H Q _ => ∃ (f S W : Addr) (h b c k n : Nat) (l : List Nat), vs = [.ref f] ∧ FilAt K H f S W h n l ∧ WayAt K H W h b c k ∧ Q (.bl (decide ((finL h n l).1.length ≤ b))) H
/-- a picture is brought -/
def spAdd (K : Fr0) : Sp := fun vs H Q E => ∃ (f S W : Addr) (h b c k n : Nat) (l : List Nat) (u : V) (t : String), vs = [.ref f, u] ∧ FilAt K H f S W h n l ∧ WayAt K H W h b c k ∧ AnyV K H u t ∧ n ≤ 300 ∧ l.length ≤ 1000 ∧
  (((finL h n l).1.length ≤ b ∧ Raised0 K "Ended" H E) ∨ (¬ (finL h n l).1.length ≤ b ∧
    ((isIn 0 ((n : Int) - 1) u = false ∧ Raised0 K "BadPicture" H E) ∨ ∃ p : Nat, u = .int p ∧ p < n ∧ ∀ H', Mov f S H H' → FilAt K H' f S W h n (l ++ [p]) → Q .non H')))
/-- the last is taken back -/
def spUndo (K : Fr0) : Sp := fun vs H Q _ => ∃ (f S W : Addr) (h n : Nat) (l : List Nat), vs = [.ref f] ∧ FilAt K H f S W h n l ∧ l.length ≤ 1000 ∧ ((l = [] ∧ Q (.bl false) H) ∨ (l ≠ [] ∧ ∀ H', Mov f S H H' → FilAt K H' f S W h n l.dropLast → Q (.bl true) H'))
def spCopy (K : Fr0) : Sp := fun vs H Q _ => ∃ (f S W : Addr) (h b c k n : Nat) (l : List Nat), vs = [.ref f] ∧ FilAt K H f S W h n l ∧ WayAt K H W h b c k ∧ max 1 (h + b) ≤ n ∧ n ≤ 300 ∧ ∀ g T H', H g = none → H T = none → g ≠ T → Same H H' → FilAt K H' g T W h n l → Q (.ref g) H'
/-- what a filling tells without a change -/
def spTell (K : Fr0) (f : Addr → Nat → List V → Nat → List Nat → V → Hp → Prop) : Sp := fun vs H Q _ => ∃ (a S W : Addr) (h n : Nat) (l : List Nat), vs = [.ref a] ∧ FilAt K H a S W h n l ∧ ∀ v, f W n (natsV (finL h n l).1) (finL h n l).2 l v H → Q v H
def tWay : Addr → Nat → List V → Nat → List Nat → V → Hp → Prop := fun W _ _ _ _ v _ => v = .ref W
def tNum : Addr → Nat → List V → Nat → List Nat → V → Hp → Prop := fun _ n _ _ _ v _ => v = .int n
def tMiss : Addr → Nat → List V → Nat → List Nat → V → Hp → Prop := fun _ _ xs _ _ v H => ∃ q, v = .ref q ∧ H q = some (.tup xs)
def tDbl : Addr → Nat → List V → Nat → List Nat → V → Hp → Prop := fun _ _ _ d _ v _ => v = .int d
def tLog : Addr → Nat → List V → Nat → List Nat → V → Hp → Prop := fun _ _ _ _ l v H => ∃ q, v = .ref q ∧ H q = some (.tup (natsV l))
def spPaid (K : Fr0) : Sp := fun vs H Q _ => ∃ (f S W : Addr) (h b c k n : Nat) (l : List Nat), vs = [.ref f] ∧ FilAt K H f S W h n l ∧ WayAt K H W h b c k ∧ WayOk h b c k ∧ l.length ≤ 1000 ∧ Q (.int ((l.length * k + if (finL h n l).1.length ≤ b then b * c else 0 : Nat) : Int)) H
/-- the mean of what is to be paid -/
def toPay (n b c k m : Nat) : Rat := if m ≤ b then 0 else (smL n m b).sum * ((k : Int) : Rat) + (((b * c : Nat) : Int) : Rat)
def spToPay (K : Fr0) : Sp := fun vs H Q _ => ∃ (f S W : Addr) (h b c k n : Nat) (l : List Nat), vs = [.ref f] ∧ FilAt K H f S W h n l ∧ WayAt K H W h b c k ∧ WayOk h b c k ∧ n ≤ 300 ∧ NewFr K H Q (toPay n b c k (finL h n l).1.length)
def spFLen (K : Fr0) : Sp := fun vs H Q _ => ∃ (f S W : Addr) (h n : Nat) (l : List Nat), vs = [.ref f] ∧ FilAt K H f S W h n l ∧ Q (.int (l.length : Nat)) H
end Ab
/-! PART fillings told by their log. -/
namespace Ab
open PySem PySem.Spec PyProof.Rows L2
theorem fin_miss {h n : Nat} (l : List Nat) : (finL h n l).1 = (List.range' h (n - h)).filter fun x => decide (x ∉ l) := by
  have key : ∀ (m : Nat) (l : List Nat), l.length = m → (finL h n l).1 = (List.range' h (n - h)).filter fun x => decide (x ∉ l) := by
    intro m
    induction m with
    | zero =>
      intro l hl
      obtain rfl := List.length_eq_zero_iff.mp hl
      symm
      exact List.filter_eq_self.mpr fun x _ => by simp
    | succ m ih =>
      intro l hl
      rcases List.eq_nil_or_concat l with rfl | ⟨L, p, rfl⟩
      · cases hl
      · rw [List.concat_eq_append] at hl ⊢
        rw [List.length_append] at hl
        rw [finL_snoc]
        unfold finS
        dsimp only
        rw [ih L (by simp at hl; exact hl), List.filter_filter]
        refine List.filter_congr fun x _ => ?_
        rw [← Bool.decide_and]
        refine decide_eq_decide.mpr ?_
        simp only [List.mem_append, List.mem_singleton, not_or]
        exact ⟨fun z => ⟨z.2, z.1⟩, fun z => ⟨z.2, z.1⟩⟩
  exact key _ l rfl
theorem dedup_snoc (ns : List Int) (k : Int) : dedup (ns ++ [k]) = step_dedup (dedup ns) k := by
  unfold dedup
  rw [List.foldl_append]
  rfl
theorem dedup_any (ns : List Int) (k : Int) : (dedup ns).any (· == k) = ns.any (· == k) := by
  rw [← firstMet_all, PyProof.Rows.firstMet_any]
  congr 1
  apply List.ext_getElem?
  intro i
  by_cases hi : i < ns.length
  · simp [hi]
  · simp [hi]
/-- those that came new -/
def freshN (h : Nat) (l : List Nat) : Nat := (dedup ((l.filter fun x => decide (h ≤ x)).map fun x : Nat => (x : Int))).length
theorem any_mem {l : List Nat} {p : Nat} : (l.map fun x : Nat => (x : Int)).any (· == (p : Int)) = decide (p ∈ l) := by
  induction l with
  | nil => rfl
  | cons a l ih =>
    rw [List.map_cons, List.any_cons, ih]
    by_cases e : p = a
    · subst e
      simp
    · have : ¬ (a : Int) = (p : Int) := by omega
      simp [e, this]
theorem fin_dbl {h n : Nat} (l : List Nat) (hl : ∀ x ∈ l, x < n) : (finL h n l).2 + freshN h l = l.length := by
  have key : ∀ (m : Nat) (l : List Nat), l.length = m → (∀ x ∈ l, x < n) → (finL h n l).2 + freshN h l = l.length := by
    intro m
    induction m with
    | zero =>
      intro l hl _
      obtain rfl := List.length_eq_zero_iff.mp hl
      rfl
    | succ m ih =>
      intro l hl hx
      rcases List.eq_nil_or_concat l with rfl | ⟨L, p, rfl⟩
      · cases hl
      · rw [List.concat_eq_append] at hl hx ⊢
        rw [List.length_append] at hl
        have ih' := ih L (by simp at hl; exact hl) fun x hx' => hx x (List.mem_append_left _ hx')
        have pn := hx p (List.mem_append_right _ List.mem_cons_self)
        rw [finL_snoc, List.length_append]
        unfold finS
        dsimp only
        have ef : ((finL h n L).1.filter fun x => decide (x ≠ p)).length = (finL h n L).1.length ↔ p ∉ (finL h n L).1 := by
          rw [List.length_filter_eq_length_iff]
          constructor
          · intro z hp
            exact absurd (of_decide_eq_true (z p hp)) (fun y => y rfl)
          · intro z a ha
            exact decide_eq_true (fun y => z (by rw [← y]; exact ha))
        have em : p ∈ (finL h n L).1 ↔ h ≤ p ∧ p ∉ L := by
          rw [fin_miss, List.mem_filter, List.mem_range'_1]
          simp only [decide_eq_true_eq]
          constructor
          · rintro ⟨⟨z, _⟩, y⟩
            exact ⟨z, y⟩
          · rintro ⟨z, y⟩
            exact ⟨⟨z, by omega⟩, y⟩
        unfold freshN at ih' ⊢
        rw [List.filter_append]
        by_cases hp : h ≤ p
        · rw [show [p].filter (fun x => decide (h ≤ x)) = [p] by simp [hp], List.map_append]
          show _ + (dedup (_ ++ [(p : Int)])).length = _
          rw [dedup_snoc]
          unfold step_dedup
          rw [dedup_any, any_mem]
          by_cases hm : p ∈ L
          · rw [if_pos (ef.mpr fun z => (em.mp z).2 hm), if_pos (decide_eq_true (List.mem_filter.mpr ⟨hm, decide_eq_true hp⟩))]
            show _ + 1 + _ = L.length + 1
            omega
          · rw [if_neg (fun z => (ef.mp z) (em.mpr ⟨hp, hm⟩)), if_neg (fun z => hm (List.mem_filter.mp (of_decide_eq_true z)).1), List.length_append]
            show _ + 0 + (_ + 1) = L.length + 1
            omega
        · rw [if_pos (ef.mpr fun z => hp (em.mp z).1), show [p].filter (fun x => decide (h ≤ x)) = [] by simp [hp], List.append_nil]
          show _ + 1 + _ = L.length + 1
          omega
  exact key _ l rfl hl
theorem k_sz' {k : Nat} (h : k ≤ 3) : Sz ((k : Int) : Rat) 3 := Sz.int (by omega) (by decide)
theorem r_neNl {K : Fr0} {H : Hp} {a e : Addr} {l : List Nat} {Q : VK} (h1 : H a = some (.lst (natsV l))) (h2 : H e = some (.lst [])) (q : Q (.bl (!decide (l = []))) H) : rNeD K (.ref a) (.ref e) H Q := by
  refine ⟨.list (l.map fun x : Nat => .int (x : Int)), .list [], .lst (SqL.of h1) ?_, .lst (SqL.of h2) .nil, sh_nats l, sh_ints [], ?_⟩
  · clear h1 q
    induction l with
    | nil => exact .nil
    | cons x l ih => exact .cons (.int _) ih
  cases l with
  | nil => exact q
  | cons x l => exact q
end Ab
namespace Ab
open PySem PySem.Spec PyProof.Rows L2
def top (i : Nat) : Stmt := PySem.Challenge.pw_albumforms_k12_whole_fillings.main.body.getD i (.Pass ⟨0, 0, 0, 0⟩)
abbrev s_InvalidPart_init : Stmt := inClass (top 2) 0
abbrev N_InvalidPart_init : List Str := ["self", "name"]
theorem sc_InvalidPart_init : FnScope N_InvalidPart_init ["self", "name"] (defScope s_InvalidPart_init) := ⟨rfl, rfl, rfl, by decide +kernel, rfl, by decide +kernel, by decide +kernel⟩
theorem bd_InvalidPart_init : BindsAs s_InvalidPart_init "__init__" "InvalidPart.__init__" ["self", "name"] := fun _ _ _ _ _ _ us hl => match us, hl with | [_, _], _ => rfl
abbrev s_BadNumber_init : Stmt := inClass (top 3) 0
abbrev N_BadNumber_init : List Str := ["self", "n"]
theorem sc_BadNumber_init : FnScope N_BadNumber_init ["self", "n"] (defScope s_BadNumber_init) := ⟨rfl, rfl, rfl, by decide +kernel, rfl, by decide +kernel, by decide +kernel⟩
theorem bd_BadNumber_init : BindsAs s_BadNumber_init "__init__" "BadNumber.__init__" ["self", "n"] := fun _ _ _ _ _ _ us hl => match us, hl with | [_, _], _ => rfl
abbrev s_BadPicture_init : Stmt := inClass (top 4) 0
abbrev N_BadPicture_init : List Str := ["self"]
theorem sc_BadPicture_init : FnScope N_BadPicture_init ["self"] (defScope s_BadPicture_init) := ⟨rfl, rfl, rfl, by decide +kernel, rfl, by decide +kernel, by decide +kernel⟩
theorem bd_BadPicture_init : BindsAs s_BadPicture_init "__init__" "BadPicture.__init__" ["self"] := fun _ _ _ _ _ _ us hl => match us, hl with | [_], _ => rfl
abbrev s_Ended_init : Stmt := inClass (top 5) 0
abbrev N_Ended_init : List Str := ["self"]
theorem sc_Ended_init : FnScope N_Ended_init ["self"] (defScope s_Ended_init) := ⟨rfl, rfl, rfl, by decide +kernel, rfl, by decide +kernel, by decide +kernel⟩
theorem bd_Ended_init : BindsAs s_Ended_init "__init__" "Ended.__init__" ["self"] := fun _ _ _ _ _ _ us hl => match us, hl with | [_], _ => rfl
abbrev s_is_whole : Stmt := top 8
abbrev N_is_whole : List Str := ["value"]
theorem sc_is_whole : FnScope N_is_whole ["value"] (defScope s_is_whole) := ⟨rfl, rfl, rfl, by decide +kernel, rfl, by decide +kernel, by decide +kernel⟩
theorem bd_is_whole : BindsAs s_is_whole "is_whole" "is_whole" ["value"] := fun _ _ _ _ _ _ us hl => match us, hl with | [_], _ => rfl
abbrev s_is_within : Stmt := top 9
abbrev N_is_within : List Str := ["value", "low", "high"]
theorem sc_is_within : FnScope N_is_within ["value", "low", "high"] (defScope s_is_within) := ⟨rfl, rfl, rfl, by decide +kernel, rfl, by decide +kernel, by decide +kernel⟩
theorem bd_is_within : BindsAs s_is_within "is_within" "is_within" ["value", "low", "high"] := fun _ _ _ _ _ _ us hl => match us, hl with | [_, _, _], _ => rfl
abbrev s_common : Stmt := top 10
abbrev N_common : List Str := ["one", "other"]
theorem sc_common : FnScope N_common ["one", "other"] (defScope s_common) := ⟨rfl, rfl, rfl, by decide +kernel, rfl, by decide +kernel, by decide +kernel⟩
theorem bd_common : BindsAs s_common "common" "common" ["one", "other"] := fun _ _ _ _ _ _ us hl => match us, hl with | [_, _], _ => rfl
abbrev s_fraction : Stmt := top 11
abbrev N_fraction : List Str := ["number", "parts", "divisor"]
theorem sc_fraction : FnScope N_fraction ["number", "parts"] (defScope s_fraction) := ⟨rfl, rfl, rfl, by decide +kernel, rfl, by decide +kernel, by decide +kernel⟩
theorem bd_fraction : BindsAs s_fraction "fraction" "fraction" ["number", "parts"] := fun _ _ _ _ _ _ us hl => match us, hl with | [_, _], _ => rfl
abbrev s_added : Stmt := top 12
abbrev N_added : List Str := ["one", "other"]
theorem sc_added : FnScope N_added ["one", "other"] (defScope s_added) := ⟨rfl, rfl, rfl, by decide +kernel, rfl, by decide +kernel, by decide +kernel⟩
theorem bd_added : BindsAs s_added "added" "added" ["one", "other"] := fun _ _ _ _ _ _ us hl => match us, hl with | [_, _], _ => rfl
abbrev s_product : Stmt := top 13
abbrev N_product : List Str := ["one", "other"]
theorem sc_product : FnScope N_product ["one", "other"] (defScope s_product) := ⟨rfl, rfl, rfl, by decide +kernel, rfl, by decide +kernel, by decide +kernel⟩
theorem bd_product : BindsAs s_product "product" "product" ["one", "other"] := fun _ _ _ _ _ _ us hl => match us, hl with | [_, _], _ => rfl
abbrev s_total : Stmt := top 14
abbrev N_total : List Str := ["some", "found", "one"]
theorem sc_total : FnScope N_total ["some"] (defScope s_total) := ⟨rfl, rfl, rfl, by decide +kernel, rfl, by decide +kernel, by decide +kernel⟩
theorem bd_total : BindsAs s_total "total" "total" ["some"] := fun _ _ _ _ _ _ us hl => match us, hl with | [_], _ => rfl
abbrev s_Way_init : Stmt := inClass (top 20) 0
abbrev N_Way_init : List Str := ["self", "have", "buy", "price", "pack"]
theorem sc_Way_init : FnScope N_Way_init ["self", "have", "buy", "price", "pack"] (defScope s_Way_init) := ⟨rfl, rfl, rfl, by decide +kernel, rfl, by decide +kernel, by decide +kernel⟩
theorem bd_Way_init : BindsAs s_Way_init "__init__" "Way.__init__" ["self", "have", "buy", "price", "pack"] := fun _ _ _ _ _ _ us hl => match us, hl with | [_, _, _, _, _], _ => rfl
abbrev s_Way_have : Stmt := inClass (top 20) 1
abbrev N_Way_have : List Str := ["self"]
theorem sc_Way_have : FnScope N_Way_have ["self"] (defScope s_Way_have) := ⟨rfl, rfl, rfl, by decide +kernel, rfl, by decide +kernel, by decide +kernel⟩
theorem bd_Way_have : BindsAs s_Way_have "have" "Way.have" ["self"] := fun _ _ _ _ _ _ us hl => match us, hl with | [_], _ => rfl
abbrev s_Way_buy : Stmt := inClass (top 20) 2
abbrev N_Way_buy : List Str := ["self"]
theorem sc_Way_buy : FnScope N_Way_buy ["self"] (defScope s_Way_buy) := ⟨rfl, rfl, rfl, by decide +kernel, rfl, by decide +kernel, by decide +kernel⟩
theorem bd_Way_buy : BindsAs s_Way_buy "buy" "Way.buy" ["self"] := fun _ _ _ _ _ _ us hl => match us, hl with | [_], _ => rfl
abbrev s_Way_price : Stmt := inClass (top 20) 3
abbrev N_Way_price : List Str := ["self"]
theorem sc_Way_price : FnScope N_Way_price ["self"] (defScope s_Way_price) := ⟨rfl, rfl, rfl, by decide +kernel, rfl, by decide +kernel, by decide +kernel⟩
theorem bd_Way_price : BindsAs s_Way_price "price" "Way.price" ["self"] := fun _ _ _ _ _ _ us hl => match us, hl with | [_], _ => rfl
abbrev s_Way_pack : Stmt := inClass (top 20) 4
abbrev N_Way_pack : List Str := ["self"]
theorem sc_Way_pack : FnScope N_Way_pack ["self"] (defScope s_Way_pack) := ⟨rfl, rfl, rfl, by decide +kernel, rfl, by decide +kernel, by decide +kernel⟩
theorem bd_Way_pack : BindsAs s_Way_pack "pack" "Way.pack" ["self"] := fun _ _ _ _ _ _ us hl => match us, hl with | [_], _ => rfl
abbrev s_Way_least : Stmt := inClass (top 20) 5
abbrev N_Way_least : List Str := ["self"]
theorem sc_Way_least : FnScope N_Way_least ["self"] (defScope s_Way_least) := ⟨rfl, rfl, rfl, by decide +kernel, rfl, by decide +kernel, by decide +kernel⟩
theorem bd_Way_least : BindsAs s_Way_least "least" "Way.least" ["self"] := fun _ _ _ _ _ _ us hl => match us, hl with | [_], _ => rfl
abbrev s_Way_eq : Stmt := inClass (top 20) 6
abbrev N_Way_eq : List Str := ["self", "other"]
theorem sc_Way_eq : FnScope N_Way_eq ["self", "other"] (defScope s_Way_eq) := ⟨rfl, rfl, rfl, by decide +kernel, rfl, by decide +kernel, by decide +kernel⟩
theorem bd_Way_eq : BindsAs s_Way_eq "__eq__" "Way.__eq__" ["self", "other"] := fun _ _ _ _ _ _ us hl => match us, hl with | [_, _], _ => rfl
abbrev s_need_part : Stmt := top 21
abbrev N_need_part : List Str := ["name", "value", "low", "high"]
theorem sc_need_part : FnScope N_need_part ["name", "value", "low", "high"] (defScope s_need_part) := ⟨rfl, rfl, rfl, by decide +kernel, rfl, by decide +kernel, by decide +kernel⟩
theorem bd_need_part : BindsAs s_need_part "need_part" "need_part" ["name", "value", "low", "high"] := fun _ _ _ _ _ _ us hl => match us, hl with | [_, _, _, _], _ => rfl
abbrev s_need_number : Stmt := top 22
abbrev N_need_number : List Str := ["n", "low", "high"]
theorem sc_need_number : FnScope N_need_number ["n", "low", "high"] (defScope s_need_number) := ⟨rfl, rfl, rfl, by decide +kernel, rfl, by decide +kernel, by decide +kernel⟩
theorem bd_need_number : BindsAs s_need_number "need_number" "need_number" ["n", "low", "high"] := fun _ _ _ _ _ _ us hl => match us, hl with | [_, _, _], _ => rfl
abbrev s_step_means : Stmt := top 25
abbrev N_step_means : List Str := ["n", "begun", "last", "lacking"]
theorem sc_step_means : FnScope N_step_means ["n", "begun", "last"] (defScope s_step_means) := ⟨rfl, rfl, rfl, by decide +kernel, rfl, by decide +kernel, by decide +kernel⟩
theorem bd_step_means : BindsAs s_step_means "step_means" "step_means" ["n", "begun", "last"] := fun _ _ _ _ _ _ us hl => match us, hl with | [_, _, _], _ => rfl
abbrev s_need_album : Stmt := top 26
abbrev N_need_album : List Str := ["way", "n"]
theorem sc_need_album : FnScope N_need_album ["way", "n"] (defScope s_need_album) := ⟨rfl, rfl, rfl, by decide +kernel, rfl, by decide +kernel, by decide +kernel⟩
theorem bd_need_album : BindsAs s_need_album "need_album" "need_album" ["way", "n"] := fun _ _ _ _ _ _ us hl => match us, hl with | [_, _], _ => rfl
abbrev s_Filling_init : Stmt := inClass (top 28) 0
abbrev N_Filling_init : List Str := ["self", "way", "n"]
theorem sc_Filling_init : FnScope N_Filling_init ["self", "way", "n"] (defScope s_Filling_init) := ⟨rfl, rfl, rfl, by decide +kernel, rfl, by decide +kernel, by decide +kernel⟩
theorem bd_Filling_init : BindsAs s_Filling_init "__init__" "Filling.__init__" ["self", "way", "n"] := fun _ _ _ _ _ _ us hl => match us, hl with | [_, _, _], _ => rfl
abbrev s_Filling_way : Stmt := inClass (top 28) 1
abbrev N_Filling_way : List Str := ["self"]
theorem sc_Filling_way : FnScope N_Filling_way ["self"] (defScope s_Filling_way) := ⟨rfl, rfl, rfl, by decide +kernel, rfl, by decide +kernel, by decide +kernel⟩
theorem bd_Filling_way : BindsAs s_Filling_way "way" "Filling.way" ["self"] := fun _ _ _ _ _ _ us hl => match us, hl with | [_], _ => rfl
abbrev s_Filling_number : Stmt := inClass (top 28) 2
abbrev N_Filling_number : List Str := ["self"]
theorem sc_Filling_number : FnScope N_Filling_number ["self"] (defScope s_Filling_number) := ⟨rfl, rfl, rfl, by decide +kernel, rfl, by decide +kernel, by decide +kernel⟩
theorem bd_Filling_number : BindsAs s_Filling_number "number" "Filling.number" ["self"] := fun _ _ _ _ _ _ us hl => match us, hl with | [_], _ => rfl
abbrev s_Filling_missing : Stmt := inClass (top 28) 3
abbrev N_Filling_missing : List Str := ["self"]
theorem sc_Filling_missing : FnScope N_Filling_missing ["self"] (defScope s_Filling_missing) := ⟨rfl, rfl, rfl, by decide +kernel, rfl, by decide +kernel, by decide +kernel⟩
theorem bd_Filling_missing : BindsAs s_Filling_missing "missing" "Filling.missing" ["self"] := fun _ _ _ _ _ _ us hl => match us, hl with | [_], _ => rfl
abbrev s_Filling_doubles : Stmt := inClass (top 28) 4
abbrev N_Filling_doubles : List Str := ["self"]
theorem sc_Filling_doubles : FnScope N_Filling_doubles ["self"] (defScope s_Filling_doubles) := ⟨rfl, rfl, rfl, by decide +kernel, rfl, by decide +kernel, by decide +kernel⟩
theorem bd_Filling_doubles : BindsAs s_Filling_doubles "doubles" "Filling.doubles" ["self"] := fun _ _ _ _ _ _ us hl => match us, hl with | [_], _ => rfl
abbrev s_Filling_log : Stmt := inClass (top 28) 5
abbrev N_Filling_log : List Str := ["self"]
theorem sc_Filling_log : FnScope N_Filling_log ["self"] (defScope s_Filling_log) := ⟨rfl, rfl, rfl, by decide +kernel, rfl, by decide +kernel, by decide +kernel⟩
theorem bd_Filling_log : BindsAs s_Filling_log "log" "Filling.log" ["self"] := fun _ _ _ _ _ _ us hl => match us, hl with | [_], _ => rfl
abbrev s_Filling_paid : Stmt := inClass (top 28) 6
abbrev N_Filling_paid : List Str := ["self", "spent"]
theorem sc_Filling_paid : FnScope N_Filling_paid ["self"] (defScope s_Filling_paid) := ⟨rfl, rfl, rfl, by decide +kernel, rfl, by decide +kernel, by decide +kernel⟩
theorem bd_Filling_paid : BindsAs s_Filling_paid "paid" "Filling.paid" ["self"] := fun _ _ _ _ _ _ us hl => match us, hl with | [_], _ => rfl
abbrev s_Filling_to_pay : Stmt := inClass (top 28) 7
abbrev N_Filling_to_pay : List Str := ["self", "lacking", "packs"]
theorem sc_Filling_to_pay : FnScope N_Filling_to_pay ["self"] (defScope s_Filling_to_pay) := ⟨rfl, rfl, rfl, by decide +kernel, rfl, by decide +kernel, by decide +kernel⟩
theorem bd_Filling_to_pay : BindsAs s_Filling_to_pay "to_pay" "Filling.to_pay" ["self"] := fun _ _ _ _ _ _ us hl => match us, hl with | [_], _ => rfl
abbrev s_Filling_add : Stmt := inClass (top 28) 8
abbrev N_Filling_add : List Str := ["self", "picture", "lacking", "double", "left", "one"]
theorem sc_Filling_add : FnScope N_Filling_add ["self", "picture"] (defScope s_Filling_add) := ⟨rfl, rfl, rfl, by decide +kernel, rfl, by decide +kernel, by decide +kernel⟩
theorem bd_Filling_add : BindsAs s_Filling_add "add" "Filling.add" ["self", "picture"] := fun _ _ _ _ _ _ us hl => match us, hl with | [_, _], _ => rfl
abbrev s_Filling_undo : Stmt := inClass (top 28) 9
abbrev N_Filling_undo : List Str := ["self"]
theorem sc_Filling_undo : FnScope N_Filling_undo ["self"] (defScope s_Filling_undo) := ⟨rfl, rfl, rfl, by decide +kernel, rfl, by decide +kernel, by decide +kernel⟩
theorem bd_Filling_undo : BindsAs s_Filling_undo "undo" "Filling.undo" ["self"] := fun _ _ _ _ _ _ us hl => match us, hl with | [_], _ => rfl
abbrev s_Filling_copy : Stmt := inClass (top 28) 10
abbrev N_Filling_copy : List Str := ["self", "found"]
theorem sc_Filling_copy : FnScope N_Filling_copy ["self"] (defScope s_Filling_copy) := ⟨rfl, rfl, rfl, by decide +kernel, rfl, by decide +kernel, by decide +kernel⟩
theorem bd_Filling_copy : BindsAs s_Filling_copy "copy" "Filling.copy" ["self"] := fun _ _ _ _ _ _ us hl => match us, hl with | [_], _ => rfl
abbrev s_Filling_len : Stmt := inClass (top 28) 11
abbrev N_Filling_len : List Str := ["self"]
theorem sc_Filling_len : FnScope N_Filling_len ["self"] (defScope s_Filling_len) := ⟨rfl, rfl, rfl, by decide +kernel, rfl, by decide +kernel, by decide +kernel⟩
theorem bd_Filling_len : BindsAs s_Filling_len "__len__" "Filling.__len__" ["self"] := fun _ _ _ _ _ _ us hl => match us, hl with | [_], _ => rfl
abbrev s_is_done : Stmt := top 29
abbrev N_is_done : List Str := ["filling"]
theorem sc_is_done : FnScope N_is_done ["filling"] (defScope s_is_done) := ⟨rfl, rfl, rfl, by decide +kernel, rfl, by decide +kernel, by decide +kernel⟩
theorem bd_is_done : BindsAs s_is_done "is_done" "is_done" ["filling"] := fun _ _ _ _ _ _ us hl => match us, hl with | [_], _ => rfl
abbrev s_law_taken : Stmt := top 31
abbrev N_law_taken : List Str := ["_law_row", "_law_many", "_law_found", "_law_cell"]
theorem sc_law_taken : FnScope N_law_taken ["_law_row", "_law_many"] (defScope s_law_taken) := ⟨rfl, rfl, rfl, by decide +kernel, rfl, by decide +kernel, by decide +kernel⟩
theorem bd_law_taken : BindsAs s_law_taken "_law_taken" "_law_taken" ["_law_row", "_law_many"] := fun _ _ _ _ _ _ us hl => match us, hl with | [_, _], _ => rfl
abbrev s_law_frac : Stmt := top 32
abbrev N_law_frac : List Str := ["_law_number", "_law_parts", "_law_one", "_law_mate"]
theorem sc_law_frac : FnScope N_law_frac ["_law_number", "_law_parts"] (defScope s_law_frac) := ⟨rfl, rfl, rfl, by decide +kernel, rfl, by decide +kernel, by decide +kernel⟩
theorem bd_law_frac : BindsAs s_law_frac "_law_frac" "_law_frac" ["_law_number", "_law_parts"] := fun _ _ _ _ _ _ us hl => match us, hl with | [_, _], _ => rfl
abbrev s_law_sum : Stmt := top 33
abbrev N_law_sum : List Str := ["_law_one", "_law_mate"]
theorem sc_law_sum : FnScope N_law_sum ["_law_one", "_law_mate"] (defScope s_law_sum) := ⟨rfl, rfl, rfl, by decide +kernel, rfl, by decide +kernel, by decide +kernel⟩
theorem bd_law_sum : BindsAs s_law_sum "_law_sum" "_law_sum" ["_law_one", "_law_mate"] := fun _ _ _ _ _ _ us hl => match us, hl with | [_, _], _ => rfl
abbrev s_law_times : Stmt := top 34
abbrev N_law_times : List Str := ["_law_one", "_law_mate"]
theorem sc_law_times : FnScope N_law_times ["_law_one", "_law_mate"] (defScope s_law_times) := ⟨rfl, rfl, rfl, by decide +kernel, rfl, by decide +kernel, by decide +kernel⟩
theorem bd_law_times : BindsAs s_law_times "_law_times" "_law_times" ["_law_one", "_law_mate"] := fun _ _ _ _ _ _ us hl => match us, hl with | [_, _], _ => rfl
abbrev s_law_total : Stmt := top 35
abbrev N_law_total : List Str := ["_law_some", "_law_found", "_law_one"]
theorem sc_law_total : FnScope N_law_total ["_law_some"] (defScope s_law_total) := ⟨rfl, rfl, rfl, by decide +kernel, rfl, by decide +kernel, by decide +kernel⟩
theorem bd_law_total : BindsAs s_law_total "_law_total" "_law_total" ["_law_some"] := fun _ _ _ _ _ _ us hl => match us, hl with | [_], _ => rfl
abbrev s_law_drawn : Stmt := top 36
abbrev N_law_drawn : List Str := ["_law_row", "_law_d"]
theorem sc_law_drawn : FnScope N_law_drawn ["_law_row"] (defScope s_law_drawn) := ⟨rfl, rfl, rfl, by decide +kernel, rfl, by decide +kernel, by decide +kernel⟩
theorem bd_law_drawn : BindsAs s_law_drawn "_law_drawn" "_law_drawn" ["_law_row"] := fun _ _ _ _ _ _ us hl => match us, hl with | [_], _ => rfl
abbrev s_law_least : Stmt := top 37
abbrev N_law_least : List Str := ["_law_d"]
theorem sc_law_least : FnScope N_law_least ["_law_d"] (defScope s_law_least) := ⟨rfl, rfl, rfl, by decide +kernel, rfl, by decide +kernel, by decide +kernel⟩
theorem bd_law_least : BindsAs s_law_least "_law_least" "_law_least" ["_law_d"] := fun _ _ _ _ _ _ us hl => match us, hl with | [_], _ => rfl
abbrev s_law_made : Stmt := top 38
abbrev N_law_made : List Str := ["_law_d"]
theorem sc_law_made : FnScope N_law_made ["_law_d"] (defScope s_law_made) := ⟨rfl, rfl, rfl, by decide +kernel, rfl, by decide +kernel, by decide +kernel⟩
theorem bd_law_made : BindsAs s_law_made "_law_made" "_law_made" ["_law_d"] := fun _ _ _ _ _ _ us hl => match us, hl with | [_], _ => rfl
abbrev s_law_refused : Stmt := top 39
abbrev N_law_refused : List Str := ["_law_filling", "_law_picture", "_law_told"]
theorem sc_law_refused : FnScope N_law_refused ["_law_filling", "_law_picture"] (defScope s_law_refused) := ⟨rfl, rfl, rfl, by decide +kernel, rfl, by decide +kernel, by decide +kernel⟩
theorem bd_law_refused : BindsAs s_law_refused "_law_refused" "_law_refused" ["_law_filling", "_law_picture"] := fun _ _ _ _ _ _ us hl => match us, hl with | [_, _], _ => rfl
abbrev s_law_begun : Stmt := top 40
abbrev N_law_begun : List Str := ["_law_way", "_law_n", "_law_told", "e"]
theorem sc_law_begun : FnScope N_law_begun ["_law_way", "_law_n"] (defScope s_law_begun) := ⟨rfl, rfl, rfl, by decide +kernel, rfl, by decide +kernel, by decide +kernel⟩
theorem bd_law_begun : BindsAs s_law_begun "_law_begun" "_law_begun" ["_law_way", "_law_n"] := fun _ _ _ _ _ _ us hl => match us, hl with | [_, _], _ => rfl
abbrev s_law_left : Stmt := top 41
abbrev N_law_left : List Str := ["_law_d", "_law_n", "_law_lacking", "_law_found", "_law_many"]
theorem sc_law_left : FnScope N_law_left ["_law_d", "_law_n", "_law_lacking"] (defScope s_law_left) := ⟨rfl, rfl, rfl, by decide +kernel, rfl, by decide +kernel, by decide +kernel⟩
theorem bd_law_left : BindsAs s_law_left "_law_left" "_law_left" ["_law_d", "_law_n", "_law_lacking"] := fun _ _ _ _ _ _ us hl => match us, hl with | [_, _, _], _ => rfl
abbrev s_law_is : Stmt := top 42
abbrev N_law_is : List Str := ["_law_filling", "_law_d", "_law_n", "_law_log", "_law_missing", "_law_ended", "_law_paid", "_law_fresh", "_law_told", "_law_one"]
theorem sc_law_is : FnScope N_law_is ["_law_filling", "_law_d", "_law_n", "_law_log"] (defScope s_law_is) := ⟨rfl, rfl, rfl, by decide +kernel, rfl, by decide +kernel, by decide +kernel⟩
theorem bd_law_is : BindsAs s_law_is "_law_is" "_law_is" ["_law_filling", "_law_d", "_law_n", "_law_log"] := fun _ _ _ _ _ _ us hl => match us, hl with | [_, _, _, _], _ => rfl
abbrev s_law : Stmt := top 43
abbrev N_law : List Str := ["_law_script", "_law_row", "_law_d", "_law_n", "_law_filling", "_law_log", "_law_twin", "_law_kept", "_law_turn", "_law_missing", "_law_odd", "_law_picture", "_law_bad", "_law_one"]
theorem sc_law : FnScope N_law ["_law_script"] (defScope s_law) := ⟨rfl, rfl, rfl, by decide +kernel, rfl, by decide +kernel, by decide +kernel⟩
theorem bd_law : BindsAs s_law "law" "law" ["_law_script"] := fun _ _ _ _ _ _ us hl => match us, hl with | [_], _ => rfl
/-- what the written part says of the text -/
structure Txt (K : Fr0) (mg : Str → Option Value) : Prop where
  d_InvalidPart_init : TopM K "InvalidPart" "__init__" "InvalidPart.__init__" s_InvalidPart_init
  d_BadNumber_init : TopM K "BadNumber" "__init__" "BadNumber.__init__" s_BadNumber_init
  d_BadPicture_init : TopM K "BadPicture" "__init__" "BadPicture.__init__" s_BadPicture_init
  d_Ended_init : TopM K "Ended" "__init__" "Ended.__init__" s_Ended_init
  d_is_whole : Top K mg "is_whole" s_is_whole
  d_is_within : Top K mg "is_within" s_is_within
  d_common : Top K mg "common" s_common
  d_fraction : Top K mg "fraction" s_fraction
  d_added : Top K mg "added" s_added
  d_product : Top K mg "product" s_product
  d_total : Top K mg "total" s_total
  d_Way_init : TopM K "Way" "__init__" "Way.__init__" s_Way_init
  d_Way_have : TopP K "Way" "have" "Way.have" s_Way_have
  d_Way_buy : TopP K "Way" "buy" "Way.buy" s_Way_buy
  d_Way_price : TopP K "Way" "price" "Way.price" s_Way_price
  d_Way_pack : TopP K "Way" "pack" "Way.pack" s_Way_pack
  d_Way_least : TopP K "Way" "least" "Way.least" s_Way_least
  d_Way_eq : TopM K "Way" "__eq__" "Way.__eq__" s_Way_eq
  m_Way_eq : Meth K (fA K "Way") "__eq__" (mA K "Way" "__eq__")
  d_need_part : Top K mg "need_part" s_need_part
  d_need_number : Top K mg "need_number" s_need_number
  d_step_means : Top K mg "step_means" s_step_means
  d_need_album : Top K mg "need_album" s_need_album
  d_Filling_init : TopM K "Filling" "__init__" "Filling.__init__" s_Filling_init
  d_Filling_way : TopP K "Filling" "way" "Filling.way" s_Filling_way
  p_Filling_way : PropOf K (fA K "Filling") "way" (mA K "Filling" "way") (gA K "Filling" "way")
  d_Filling_number : TopP K "Filling" "number" "Filling.number" s_Filling_number
  p_Filling_number : PropOf K (fA K "Filling") "number" (mA K "Filling" "number") (gA K "Filling" "number")
  d_Filling_missing : TopP K "Filling" "missing" "Filling.missing" s_Filling_missing
  p_Filling_missing : PropOf K (fA K "Filling") "missing" (mA K "Filling" "missing") (gA K "Filling" "missing")
  d_Filling_doubles : TopP K "Filling" "doubles" "Filling.doubles" s_Filling_doubles
  p_Filling_doubles : PropOf K (fA K "Filling") "doubles" (mA K "Filling" "doubles") (gA K "Filling" "doubles")
  d_Filling_log : TopP K "Filling" "log" "Filling.log" s_Filling_log
  p_Filling_log : PropOf K (fA K "Filling") "log" (mA K "Filling" "log") (gA K "Filling" "log")
  d_Filling_paid : TopP K "Filling" "paid" "Filling.paid" s_Filling_paid
  p_Filling_paid : PropOf K (fA K "Filling") "paid" (mA K "Filling" "paid") (gA K "Filling" "paid")
  d_Filling_to_pay : TopP K "Filling" "to_pay" "Filling.to_pay" s_Filling_to_pay
  p_Filling_to_pay : PropOf K (fA K "Filling") "to_pay" (mA K "Filling" "to_pay") (gA K "Filling" "to_pay")
  d_Filling_add : TopM K "Filling" "add" "Filling.add" s_Filling_add
  m_Filling_add : Meth K (fA K "Filling") "add" (mA K "Filling" "add")
  d_Filling_undo : TopM K "Filling" "undo" "Filling.undo" s_Filling_undo
  m_Filling_undo : Meth K (fA K "Filling") "undo" (mA K "Filling" "undo")
  d_Filling_copy : TopM K "Filling" "copy" "Filling.copy" s_Filling_copy
  m_Filling_copy : Meth K (fA K "Filling") "copy" (mA K "Filling" "copy")
  d_Filling_len : TopM K "Filling" "__len__" "Filling.__len__" s_Filling_len
  m_Filling_len : Meth K (fA K "Filling") "__len__" (mA K "Filling" "__len__")
  d_is_done : Top K mg "is_done" s_is_done
  d_law_taken : Top K mg "_law_taken" s_law_taken
  d_law_frac : Top K mg "_law_frac" s_law_frac
  d_law_sum : Top K mg "_law_sum" s_law_sum
  d_law_times : Top K mg "_law_times" s_law_times
  d_law_total : Top K mg "_law_total" s_law_total
  d_law_drawn : Top K mg "_law_drawn" s_law_drawn
  d_law_least : Top K mg "_law_least" s_law_least
  d_law_made : Top K mg "_law_made" s_law_made
  d_law_refused : Top K mg "_law_refused" s_law_refused
  d_law_begun : Top K mg "_law_begun" s_law_begun
  d_law_left : Top K mg "_law_left" s_law_left
  d_law_is : Top K mg "_law_is" s_law_is
  d_law : Top K mg "law" s_law
  b_abs : mg "abs" = none
  b_bool : mg "bool" = none
  b_int : mg "int" = none
  b_isinstance : mg "isinstance" = none
  b_len : mg "len" = none
  b_list : mg "list" = none
  b_max : mg "max" = none
  b_range : mg "range" = none
  b_set : mg "set" = none
  b_tuple : mg "tuple" = none
  g_AlbumError : mg "AlbumError" = some (.ref (fA K "AlbumError"))
  h_AlbumError : BaseF K (fA K "AlbumError")
  g_InvalidPart : mg "InvalidPart" = some (.ref (fA K "InvalidPart"))
  x_InvalidPart : ExcF K "InvalidPart" ["name"]
  g_BadNumber : mg "BadNumber" = some (.ref (fA K "BadNumber"))
  x_BadNumber : ExcF K "BadNumber" ["n"]
  e_BadNumber_BadNumber : PySem.W.exmOne K (.ref (fA K "BadNumber")) (.ref (fA K "BadNumber")) = some true
  g_BadPicture : mg "BadPicture" = some (.ref (fA K "BadPicture"))
  x_BadPicture : ExcF K "BadPicture" []
  e_BadPicture_BadPicture : PySem.W.exmOne K (.ref (fA K "BadPicture")) (.ref (fA K "BadPicture")) = some true
  g_Ended : mg "Ended" = some (.ref (fA K "Ended"))
  x_Ended : ExcF K "Ended" []
  e_Ended_BadPicture : PySem.W.exmOne K (.ref (fA K "Ended")) (.ref (fA K "BadPicture")) = some false
  e_Ended_Ended : PySem.W.exmOne K (.ref (fA K "Ended")) (.ref (fA K "Ended")) = some true
  g_Way : mg "Way" = some (.ref (fA K "Way"))
  cl_Way : Cls K (fA K "Way")
  mk_Way : Mk K (fA K "Way") (mA K "Way" "__init__")
  n_Way_begun : NoAttr K (fA K "Way") "begun"
  n_Way_last : NoAttr K (fA K "Way") "last"
  n_Way_each : NoAttr K (fA K "Way") "each"
  n_Way_charge : NoAttr K (fA K "Way") "charge"
  n_Way_low : NoAttr K (fA K "Way") "low"
  i_Way : InsF K (fA K "Way")
  g_Filling : mg "Filling" = some (.ref (fA K "Filling"))
  cl_Filling : Cls K (fA K "Filling")
  mk_Filling : Mk K (fA K "Filling") (mA K "Filling" "__init__")
  n_Filling_source : NoAttr K (fA K "Filling") "source"
  n_Filling_size : NoAttr K (fA K "Filling") "size"
  n_Filling_states : NoAttr K (fA K "Filling") "states"
  n_Filling_brought : NoAttr K (fA K "Filling") "brought"
  c_NOUGHT : mg "NOUGHT" = some (.ref (fA K "NOUGHT"))
  v_NOUGHT : ∀ H, SqT K H (fA K "NOUGHT") [V.int 0, V.int 1]
  c_MOST_HAVE : ∃ t, mg "MOST_HAVE" = some (.int 5 t)
  c_MOST_BUY : ∃ t, mg "MOST_BUY" = some (.int 4 t)
  c_MOST_PRICE : ∃ t, mg "MOST_PRICE" = some (.int 50 t)
  c_MOST_PACK : ∃ t, mg "MOST_PACK" = some (.int 3 t)
  c_MOST_NUMBER : ∃ t, mg "MOST_NUMBER" = some (.int 300 t)
def fn : List He5.DefA := [
  ⟨fun K => mA K "InvalidPart" "__init__", "__init__", "InvalidPart.__init__", defArgs s_InvalidPart_init, defBody s_InvalidPart_init, defScope s_InvalidPart_init, [], []⟩,
  ⟨fun K => mA K "BadNumber" "__init__", "__init__", "BadNumber.__init__", defArgs s_BadNumber_init, defBody s_BadNumber_init, defScope s_BadNumber_init, [], []⟩,
  ⟨fun K => mA K "BadPicture" "__init__", "__init__", "BadPicture.__init__", defArgs s_BadPicture_init, defBody s_BadPicture_init, defScope s_BadPicture_init, [], []⟩,
  ⟨fun K => mA K "Ended" "__init__", "__init__", "Ended.__init__", defArgs s_Ended_init, defBody s_Ended_init, defScope s_Ended_init, [], []⟩,
  ⟨fun K => fA K "is_whole", "is_whole", "is_whole", defArgs s_is_whole, defBody s_is_whole, defScope s_is_whole, [], []⟩,
  ⟨fun K => fA K "is_within", "is_within", "is_within", defArgs s_is_within, defBody s_is_within, defScope s_is_within, [], []⟩,
  ⟨fun K => fA K "common", "common", "common", defArgs s_common, defBody s_common, defScope s_common, [], []⟩,
  ⟨fun K => fA K "fraction", "fraction", "fraction", defArgs s_fraction, defBody s_fraction, defScope s_fraction, [], []⟩,
  ⟨fun K => fA K "added", "added", "added", defArgs s_added, defBody s_added, defScope s_added, [], []⟩,
  ⟨fun K => fA K "product", "product", "product", defArgs s_product, defBody s_product, defScope s_product, [], []⟩,
  ⟨fun K => fA K "total", "total", "total", defArgs s_total, defBody s_total, defScope s_total, [], []⟩,
  ⟨fun K => mA K "Way" "__init__", "__init__", "Way.__init__", defArgs s_Way_init, defBody s_Way_init, defScope s_Way_init, [], []⟩,
  ⟨fun K => gA K "Way" "have", "have", "Way.have", defArgs s_Way_have, defBody s_Way_have, defScope s_Way_have, [], []⟩,
  ⟨fun K => gA K "Way" "buy", "buy", "Way.buy", defArgs s_Way_buy, defBody s_Way_buy, defScope s_Way_buy, [], []⟩,
  ⟨fun K => gA K "Way" "price", "price", "Way.price", defArgs s_Way_price, defBody s_Way_price, defScope s_Way_price, [], []⟩,
  ⟨fun K => gA K "Way" "pack", "pack", "Way.pack", defArgs s_Way_pack, defBody s_Way_pack, defScope s_Way_pack, [], []⟩,
  ⟨fun K => gA K "Way" "least", "least", "Way.least", defArgs s_Way_least, defBody s_Way_least, defScope s_Way_least, [], []⟩,
  ⟨fun K => mA K "Way" "__eq__", "__eq__", "Way.__eq__", defArgs s_Way_eq, defBody s_Way_eq, defScope s_Way_eq, [], []⟩,
  ⟨fun K => fA K "need_part", "need_part", "need_part", defArgs s_need_part, defBody s_need_part, defScope s_need_part, [], []⟩,
  ⟨fun K => fA K "need_number", "need_number", "need_number", defArgs s_need_number, defBody s_need_number, defScope s_need_number, [], []⟩,
  ⟨fun K => fA K "step_means", "step_means", "step_means", defArgs s_step_means, defBody s_step_means, defScope s_step_means, [], []⟩,
  ⟨fun K => fA K "need_album", "need_album", "need_album", defArgs s_need_album, defBody s_need_album, defScope s_need_album, [], []⟩,
  ⟨fun K => mA K "Filling" "__init__", "__init__", "Filling.__init__", defArgs s_Filling_init, defBody s_Filling_init, defScope s_Filling_init, [], []⟩,
  ⟨fun K => gA K "Filling" "way", "way", "Filling.way", defArgs s_Filling_way, defBody s_Filling_way, defScope s_Filling_way, [], []⟩,
  ⟨fun K => gA K "Filling" "number", "number", "Filling.number", defArgs s_Filling_number, defBody s_Filling_number, defScope s_Filling_number, [], []⟩,
  ⟨fun K => gA K "Filling" "missing", "missing", "Filling.missing", defArgs s_Filling_missing, defBody s_Filling_missing, defScope s_Filling_missing, [], []⟩,
  ⟨fun K => gA K "Filling" "doubles", "doubles", "Filling.doubles", defArgs s_Filling_doubles, defBody s_Filling_doubles, defScope s_Filling_doubles, [], []⟩,
  ⟨fun K => gA K "Filling" "log", "log", "Filling.log", defArgs s_Filling_log, defBody s_Filling_log, defScope s_Filling_log, [], []⟩,
  ⟨fun K => gA K "Filling" "paid", "paid", "Filling.paid", defArgs s_Filling_paid, defBody s_Filling_paid, defScope s_Filling_paid, [], []⟩,
  ⟨fun K => gA K "Filling" "to_pay", "to_pay", "Filling.to_pay", defArgs s_Filling_to_pay, defBody s_Filling_to_pay, defScope s_Filling_to_pay, [], []⟩,
  ⟨fun K => mA K "Filling" "add", "add", "Filling.add", defArgs s_Filling_add, defBody s_Filling_add, defScope s_Filling_add, [], []⟩,
  ⟨fun K => mA K "Filling" "undo", "undo", "Filling.undo", defArgs s_Filling_undo, defBody s_Filling_undo, defScope s_Filling_undo, [], []⟩,
  ⟨fun K => mA K "Filling" "copy", "copy", "Filling.copy", defArgs s_Filling_copy, defBody s_Filling_copy, defScope s_Filling_copy, [], []⟩,
  ⟨fun K => mA K "Filling" "__len__", "__len__", "Filling.__len__", defArgs s_Filling_len, defBody s_Filling_len, defScope s_Filling_len, [], []⟩,
  ⟨fun K => fA K "is_done", "is_done", "is_done", defArgs s_is_done, defBody s_is_done, defScope s_is_done, [], []⟩,
  ⟨fun K => fA K "_law_taken", "_law_taken", "_law_taken", defArgs s_law_taken, defBody s_law_taken, defScope s_law_taken, [], []⟩,
  ⟨fun K => fA K "_law_frac", "_law_frac", "_law_frac", defArgs s_law_frac, defBody s_law_frac, defScope s_law_frac, [], []⟩,
  ⟨fun K => fA K "_law_sum", "_law_sum", "_law_sum", defArgs s_law_sum, defBody s_law_sum, defScope s_law_sum, [], []⟩,
  ⟨fun K => fA K "_law_times", "_law_times", "_law_times", defArgs s_law_times, defBody s_law_times, defScope s_law_times, [], []⟩,
  ⟨fun K => fA K "_law_total", "_law_total", "_law_total", defArgs s_law_total, defBody s_law_total, defScope s_law_total, [], []⟩,
  ⟨fun K => fA K "_law_drawn", "_law_drawn", "_law_drawn", defArgs s_law_drawn, defBody s_law_drawn, defScope s_law_drawn, [], []⟩,
  ⟨fun K => fA K "_law_least", "_law_least", "_law_least", defArgs s_law_least, defBody s_law_least, defScope s_law_least, [], []⟩,
  ⟨fun K => fA K "_law_made", "_law_made", "_law_made", defArgs s_law_made, defBody s_law_made, defScope s_law_made, [], []⟩,
  ⟨fun K => fA K "_law_refused", "_law_refused", "_law_refused", defArgs s_law_refused, defBody s_law_refused, defScope s_law_refused, [], []⟩,
  ⟨fun K => fA K "_law_begun", "_law_begun", "_law_begun", defArgs s_law_begun, defBody s_law_begun, defScope s_law_begun, [], []⟩,
  ⟨fun K => fA K "_law_left", "_law_left", "_law_left", defArgs s_law_left, defBody s_law_left, defScope s_law_left, [], []⟩,
  ⟨fun K => fA K "_law_is", "_law_is", "_law_is", defArgs s_law_is, defBody s_law_is, defScope s_law_is, [], []⟩,
  ⟨fun K => fA K "law", "law", "law", defArgs s_law, defBody s_law, defScope s_law, [], []⟩]
def fs : List Fact := [
  fun K => (He.Fa.glo "is_whole").ok K,
  fun K => (He.Fa.glo "is_within").ok K,
  fun K => (He.Fa.glo "common").ok K,
  fun K => (He.Fa.glo "fraction").ok K,
  fun K => (He.Fa.glo "added").ok K,
  fun K => (He.Fa.glo "product").ok K,
  fun K => (He.Fa.glo "total").ok K,
  fun K => (He.Fa.meth "Way" "__eq__").ok K,
  fun K => (He.Fa.glo "need_part").ok K,
  fun K => (He.Fa.glo "need_number").ok K,
  fun K => (He.Fa.glo "step_means").ok K,
  fun K => (He.Fa.glo "need_album").ok K,
  propB "Filling" "way",
  propB "Filling" "number",
  propB "Filling" "missing",
  propB "Filling" "doubles",
  propB "Filling" "log",
  propB "Filling" "paid",
  propB "Filling" "to_pay",
  fun K => (He.Fa.meth "Filling" "add").ok K,
  fun K => (He.Fa.meth "Filling" "undo").ok K,
  fun K => (He.Fa.meth "Filling" "copy").ok K,
  fun K => (He.Fa.meth "Filling" "__len__").ok K,
  fun K => (He.Fa.glo "is_done").ok K,
  fun K => (He.Fa.glo "_law_taken").ok K,
  fun K => (He.Fa.glo "_law_frac").ok K,
  fun K => (He.Fa.glo "_law_sum").ok K,
  fun K => (He.Fa.glo "_law_times").ok K,
  fun K => (He.Fa.glo "_law_total").ok K,
  fun K => (He.Fa.glo "_law_drawn").ok K,
  fun K => (He.Fa.glo "_law_least").ok K,
  fun K => (He.Fa.glo "_law_made").ok K,
  fun K => (He.Fa.glo "_law_refused").ok K,
  fun K => (He.Fa.glo "_law_begun").ok K,
  fun K => (He.Fa.glo "_law_left").ok K,
  fun K => (He.Fa.glo "_law_is").ok K,
  fun K => (He.Fa.glo "law").ok K,
  fun K => (He.Fa.free "abs").ok K,
  fun K => (He.Fa.free "bool").ok K,
  fun K => (He.Fa.free "int").ok K,
  fun K => (He.Fa.free "isinstance").ok K,
  fun K => (He.Fa.free "len").ok K,
  fun K => (He.Fa.free "list").ok K,
  fun K => (He.Fa.free "max").ok K,
  fun K => (He.Fa.free "range").ok K,
  fun K => (He.Fa.free "set").ok K,
  fun K => (He.Fa.free "tuple").ok K,
  fun K => (He.Fa.glo "AlbumError").ok K,
  baseB "AlbumError",
  fun K => (He.Fa.glo "InvalidPart").ok K,
  excB "InvalidPart" ["name"],
  fun K => (He.Fa.glo "BadNumber").ok K,
  excB "BadNumber" ["n"],
  fun K => (He.Fa.exm "BadNumber" "BadNumber" true).ok K,
  fun K => (He.Fa.glo "BadPicture").ok K,
  excB "BadPicture" [],
  fun K => (He.Fa.exm "BadPicture" "BadPicture" true).ok K,
  fun K => (He.Fa.glo "Ended").ok K,
  excB "Ended" [],
  fun K => (He.Fa.exm "Ended" "BadPicture" false).ok K,
  fun K => (He.Fa.exm "Ended" "Ended" true).ok K,
  fun K => (He.Fa.glo "Way").ok K,
  fun K => (He.Fa.cls "Way").ok K,
  fun K => (He.Fa.mkr "Way").ok K,
  fun K => (He.Fa.noat "Way" "begun").ok K,
  fun K => (He.Fa.noat "Way" "last").ok K,
  fun K => (He.Fa.noat "Way" "each").ok K,
  fun K => (He.Fa.noat "Way" "charge").ok K,
  fun K => (He.Fa.noat "Way" "low").ok K,
  insB "Way",
  fun K => (He.Fa.glo "Filling").ok K,
  fun K => (He.Fa.cls "Filling").ok K,
  fun K => (He.Fa.mkr "Filling").ok K,
  fun K => (He.Fa.noat "Filling" "source").ok K,
  fun K => (He.Fa.noat "Filling" "size").ok K,
  fun K => (He.Fa.noat "Filling" "states").ok K,
  fun K => (He.Fa.noat "Filling" "brought").ok K,
  fun K => (He.Fa.glo "NOUGHT").ok K,
  fun K => He.tupB K "NOUGHT" [.int 0, .int 1],
  fun K => (He.Fa.int "MOST_HAVE" 5).ok K,
  fun K => (He.Fa.int "MOST_BUY" 4).ok K,
  fun K => (He.Fa.int "MOST_PRICE" 50).ok K,
  fun K => (He.Fa.int "MOST_PACK" 3).ok K,
  fun K => (He.Fa.int "MOST_NUMBER" 300).ok K]
theorem txt_of {K : Fr0} {h : Heap} {mg : Str → Option Value} (X : K.In h) (G : h.Ns mainGlobals mg) (c : SaysB fs fn K) : Txt K mg where
  d_InvalidPart_init := ⟨c.dfn 0⟩
  d_BadNumber_init := ⟨c.dfn 1⟩
  d_BadPicture_init := ⟨c.dfn 2⟩
  d_Ended_init := ⟨c.dfn 3⟩
  d_is_whole := ⟨c.dfn 4, He.glo_ok X G (x := "is_whole") (c.fact 0)⟩
  d_is_within := ⟨c.dfn 5, He.glo_ok X G (x := "is_within") (c.fact 1)⟩
  d_common := ⟨c.dfn 6, He.glo_ok X G (x := "common") (c.fact 2)⟩
  d_fraction := ⟨c.dfn 7, He.glo_ok X G (x := "fraction") (c.fact 3)⟩
  d_added := ⟨c.dfn 8, He.glo_ok X G (x := "added") (c.fact 4)⟩
  d_product := ⟨c.dfn 9, He.glo_ok X G (x := "product") (c.fact 5)⟩
  d_total := ⟨c.dfn 10, He.glo_ok X G (x := "total") (c.fact 6)⟩
  d_Way_init := ⟨c.dfn 11⟩
  d_Way_have := ⟨c.dfn 12⟩
  d_Way_buy := ⟨c.dfn 13⟩
  d_Way_price := ⟨c.dfn 14⟩
  d_Way_pack := ⟨c.dfn 15⟩
  d_Way_least := ⟨c.dfn 16⟩
  d_Way_eq := ⟨c.dfn 17⟩
  m_Way_eq := He.meth_ok (c.fact 7)
  d_need_part := ⟨c.dfn 18, He.glo_ok X G (x := "need_part") (c.fact 8)⟩
  d_need_number := ⟨c.dfn 19, He.glo_ok X G (x := "need_number") (c.fact 9)⟩
  d_step_means := ⟨c.dfn 20, He.glo_ok X G (x := "step_means") (c.fact 10)⟩
  d_need_album := ⟨c.dfn 21, He.glo_ok X G (x := "need_album") (c.fact 11)⟩
  d_Filling_init := ⟨c.dfn 22⟩
  d_Filling_way := ⟨c.dfn 23⟩
  p_Filling_way := propB_ok (c.fact 12)
  d_Filling_number := ⟨c.dfn 24⟩
  p_Filling_number := propB_ok (c.fact 13)
  d_Filling_missing := ⟨c.dfn 25⟩
  p_Filling_missing := propB_ok (c.fact 14)
  d_Filling_doubles := ⟨c.dfn 26⟩
  p_Filling_doubles := propB_ok (c.fact 15)
  d_Filling_log := ⟨c.dfn 27⟩
  p_Filling_log := propB_ok (c.fact 16)
  d_Filling_paid := ⟨c.dfn 28⟩
  p_Filling_paid := propB_ok (c.fact 17)
  d_Filling_to_pay := ⟨c.dfn 29⟩
  p_Filling_to_pay := propB_ok (c.fact 18)
  d_Filling_add := ⟨c.dfn 30⟩
  m_Filling_add := He.meth_ok (c.fact 19)
  d_Filling_undo := ⟨c.dfn 31⟩
  m_Filling_undo := He.meth_ok (c.fact 20)
  d_Filling_copy := ⟨c.dfn 32⟩
  m_Filling_copy := He.meth_ok (c.fact 21)
  d_Filling_len := ⟨c.dfn 33⟩
  m_Filling_len := He.meth_ok (c.fact 22)
  d_is_done := ⟨c.dfn 34, He.glo_ok X G (x := "is_done") (c.fact 23)⟩
  d_law_taken := ⟨c.dfn 35, He.glo_ok X G (x := "_law_taken") (c.fact 24)⟩
  d_law_frac := ⟨c.dfn 36, He.glo_ok X G (x := "_law_frac") (c.fact 25)⟩
  d_law_sum := ⟨c.dfn 37, He.glo_ok X G (x := "_law_sum") (c.fact 26)⟩
  d_law_times := ⟨c.dfn 38, He.glo_ok X G (x := "_law_times") (c.fact 27)⟩
  d_law_total := ⟨c.dfn 39, He.glo_ok X G (x := "_law_total") (c.fact 28)⟩
  d_law_drawn := ⟨c.dfn 40, He.glo_ok X G (x := "_law_drawn") (c.fact 29)⟩
  d_law_least := ⟨c.dfn 41, He.glo_ok X G (x := "_law_least") (c.fact 30)⟩
  d_law_made := ⟨c.dfn 42, He.glo_ok X G (x := "_law_made") (c.fact 31)⟩
  d_law_refused := ⟨c.dfn 43, He.glo_ok X G (x := "_law_refused") (c.fact 32)⟩
  d_law_begun := ⟨c.dfn 44, He.glo_ok X G (x := "_law_begun") (c.fact 33)⟩
  d_law_left := ⟨c.dfn 45, He.glo_ok X G (x := "_law_left") (c.fact 34)⟩
  d_law_is := ⟨c.dfn 46, He.glo_ok X G (x := "_law_is") (c.fact 35)⟩
  d_law := ⟨c.dfn 47, He.glo_ok X G (x := "law") (c.fact 36)⟩
  b_abs := He.free_ok X G (x := "abs") (c.fact 37)
  b_bool := He.free_ok X G (x := "bool") (c.fact 38)
  b_int := He.free_ok X G (x := "int") (c.fact 39)
  b_isinstance := He.free_ok X G (x := "isinstance") (c.fact 40)
  b_len := He.free_ok X G (x := "len") (c.fact 41)
  b_list := He.free_ok X G (x := "list") (c.fact 42)
  b_max := He.free_ok X G (x := "max") (c.fact 43)
  b_range := He.free_ok X G (x := "range") (c.fact 44)
  b_set := He.free_ok X G (x := "set") (c.fact 45)
  b_tuple := He.free_ok X G (x := "tuple") (c.fact 46)
  g_AlbumError := He.glo_ok X G (x := "AlbumError") (c.fact 47)
  h_AlbumError := baseB_ok (c.fact 48)
  g_InvalidPart := He.glo_ok X G (x := "InvalidPart") (c.fact 49)
  x_InvalidPart := excB_ok (c.fact 50)
  g_BadNumber := He.glo_ok X G (x := "BadNumber") (c.fact 51)
  x_BadNumber := excB_ok (c.fact 52)
  e_BadNumber_BadNumber := He.exm_ok (c.fact 53)
  g_BadPicture := He.glo_ok X G (x := "BadPicture") (c.fact 54)
  x_BadPicture := excB_ok (c.fact 55)
  e_BadPicture_BadPicture := He.exm_ok (c.fact 56)
  g_Ended := He.glo_ok X G (x := "Ended") (c.fact 57)
  x_Ended := excB_ok (c.fact 58)
  e_Ended_BadPicture := He.exm_ok (c.fact 59)
  e_Ended_Ended := He.exm_ok (c.fact 60)
  g_Way := He.glo_ok X G (x := "Way") (c.fact 61)
  cl_Way := He.cls_ok (c.fact 62)
  mk_Way := He.mkr_ok (c.fact 63)
  n_Way_begun := He.noat_ok (c.fact 64)
  n_Way_last := He.noat_ok (c.fact 65)
  n_Way_each := He.noat_ok (c.fact 66)
  n_Way_charge := He.noat_ok (c.fact 67)
  n_Way_low := He.noat_ok (c.fact 68)
  i_Way := insB_ok (c.fact 69)
  g_Filling := He.glo_ok X G (x := "Filling") (c.fact 70)
  cl_Filling := He.cls_ok (c.fact 71)
  mk_Filling := He.mkr_ok (c.fact 72)
  n_Filling_source := He.noat_ok (c.fact 73)
  n_Filling_size := He.noat_ok (c.fact 74)
  n_Filling_states := He.noat_ok (c.fact 75)
  n_Filling_brought := He.noat_ok (c.fact 76)
  c_NOUGHT := He.glo_ok X G (x := "NOUGHT") (c.fact 77)
  v_NOUGHT := fun H => He.tupB_ok (c.fact 78) H
  c_MOST_HAVE := He.int_ok X G (x := "MOST_HAVE") (c.fact 79)
  c_MOST_BUY := He.int_ok X G (x := "MOST_BUY") (c.fact 80)
  c_MOST_PRICE := He.int_ok X G (x := "MOST_PRICE") (c.fact 81)
  c_MOST_PACK := He.int_ok X G (x := "MOST_PACK") (c.fact 82)
  c_MOST_NUMBER := He.int_ok X G (x := "MOST_NUMBER") (c.fact 83)
/-! ### the driver -/
local macro_rules | `(tactic| walk_at "dat") => `(tactic| first
  | assumption
  | (refine dp_same (by assumption) ?_; walk_at "dat")
  | (refine dp_same (same_new (by assumption)) ?_; walk_at "dat"))
local macro_rules | `(tactic| walk_at "rd1") => `(tactic| first
  | with_reducible refine r_seq ?_ | with_reducible refine r_asg ?_ | with_reducible refine r_ret ?_ | with_reducible refine r_drop ?_ | with_reducible refine r_next ?_
  | ((with_reducible refine r_var (v := ?vv) ?e ?_); (case e => exact rfl))
  | with_reducible refine r_c ?_ | with_reducible refine r_op ?_ | with_reducible refine r_i0 ?_
  | with_reducible refine r_nil ?_ | with_reducible refine r_cons ?_ | with_reducible refine r_call ?_ | with_reducible refine r_callS ?_ | with_reducible refine r_cb ?_
  | with_reducible refine r_tup ?_ | with_reducible refine r_lst ?_ | with_reducible refine r_test ?_ | with_reducible refine r_B ?_ | with_reducible refine r_bl ?_
  | with_reducible refine r_not ?_ | with_reducible refine r_and ?_ | with_reducible refine r_or ?_ | with_reducible refine r_andV ?_ | with_reducible refine r_orV ?_ | with_reducible refine r_notV ?_
  | with_reducible refine r_chain ?_ | with_reducible refine r_un ?_ | with_reducible refine r_u ?_ | with_reducible refine r_bm ?_ | with_reducible refine r_bm0 ?_
  | with_reducible refine r_for ?_ | with_reducible refine r_par ?_ | with_reducible refine r_retN ?_ | with_reducible refine r_slice ?_ | with_reducible refine r_part ?_ | with_reducible refine r_nopart ?_
  | with_reducible refine r_vei ?_ | with_reducible refine r_ost ?_
  | with_reducible refine r_rng1 ?_ | with_reducible refine r_rng2 ?_ | with_reducible refine r_rng3 ?_ | with_reducible refine r_iList ?_ | with_reducible refine r_iTup ?_
  | with_reducible refine r_gsub ?_ | ((with_reducible refine' r_ixA ?h ?e ?_); (case h => (first | assumption | exact upd_same)); (case e => exact rfl))
  | with_reducible refine r_fld ?_ | with_reducible refine r_sfld ?_ | with_reducible refine r_make ?_ | with_reducible refine r_revL ?_ | with_reducible refine r_gcons ?_ | with_reducible refine r_gnil ?_ | with_reducible refine r_eqI ?_ | with_reducible refine r_neI ?_ | with_reducible refine r_iff ?_ | with_reducible refine r_ift ?_ | with_reducible refine r_niff ?_ | with_reducible refine r_nift ?_ | with_reducible refine r_lc ?_ | with_reducible refine r_xf ?_ | with_reducible refine r_dput ?_ | with_reducible refine r_dget ?_ | with_reducible refine r_prs ?_ | with_reducible refine r_prs0 ?_
  | with_reducible refine r_lstRg2 ?_ | with_reducible refine r_lstRg1 ?_ | with_reducible refine r_tupRg2 ?_ | with_reducible refine r_callE ?_ | with_reducible refine r_makeS ?_ | with_reducible refine r_prop ?_ | with_reducible refine r_fmt ?_ | with_reducible refine r_orT ?_ | with_reducible refine r_yes ?_ | with_reducible refine r_enum ?_ | with_reducible refine r_mkO ?_ | with_reducible refine r_js ?_ | with_reducible refine r_js0 ?_ | with_reducible refine r_m1 ?_ | with_reducible refine r_methP ?_ | with_reducible refine r_meth ?_ | with_reducible refine r_neS ?_ | with_reducible refine r_eqS ?_
  | with_reducible refine r_brk ?_ | with_reducible refine r_cont ?_
  | with_reducible refine r_name ?_ | refine r_pairS ?_
  | ((with_reducible refine' r_fst ?h ?_); (case h => walk_at "dat")) | ((with_reducible refine' r_snd ?h ?_); (case h => walk_at "dat"))
  | with_reducible refine ⟨_, rfl, ?_⟩ | with_reducible refine Or.inl ⟨_, rfl, ?_⟩)
local macro_rules | `(tactic| walk_at "k0") => `(tactic| try dsimp only [cxOf, Cx.nox, Cx.wish])
local macro_rules | `(tactic| walk_at "rd") => `(tactic| repeat walk_at "rd1")
local macro_rules | `(tactic| walk_at "if") => `(tactic| ((first | with_reducible refine r_if ?_ | with_reducible refine r_ifS ?_); (repeat walk_at "rd1")))
section
variable {P : Program} {w : World} {K : Fr0} {mg : Str → Option Value} {base : Heap}
theorem ok_InvalidPart_init (T : Txt K mg) : OkM P w K mg base CX0 1 "InvalidPart" "__init__" ["self", "name"] (spI1 K "InvalidPart" "name") := by
  refine T.d_InvalidPart_init.ok sc_InvalidPart_init bd_InvalidPart_init (fun vs H Q E h => by obtain ⟨a, y, rfl, _⟩ := h; rfl) (fun cdv A outer s H vs Q E hr h => ?_)
  obtain ⟨a, y, rfl, ha, q⟩ := h
  refine ⟨_, PSs.nox (pss_cons (ps_expr (pe_alb T.h_AlbumError T.g_AlbumError (pa_cons (pv 0) (pa_cons pe_str pa_nil))))
      (pss_one (ps_ost (pv 0) (pv 1)))), ?_⟩
  repeat walk_at "rd1"
  refine ⟨a, fA K "InvalidPart", _, rfl, by show 1 ≤ 1000; decide, T.x_InvalidPart.o, ha, ?_⟩
  repeat walk_at "rd1"
  refine ⟨a, fA K "InvalidPart", rfl, T.x_InvalidPart.o, T.x_InvalidPart.no _ (.head _), .inl ⟨ha, fun dx n1 n2 => ?_⟩⟩
  exact q dx n1 n2

end
section
variable {P : Program} {w : World} {K : Fr0} {mg : Str → Option Value} {base : Heap}
theorem ok_BadNumber_init (T : Txt K mg) : OkM P w K mg base CX0 1 "BadNumber" "__init__" ["self", "n"] (spI1 K "BadNumber" "n") := by
  refine T.d_BadNumber_init.ok sc_BadNumber_init bd_BadNumber_init (fun vs H Q E h => by obtain ⟨a, y, rfl, _⟩ := h; rfl) (fun cdv A outer s H vs Q E hr h => ?_)
  obtain ⟨a, y, rfl, ha, q⟩ := h
  refine ⟨_, PSs.nox (pss_cons (ps_expr (pe_alb T.h_AlbumError T.g_AlbumError (pa_cons (pv 0) (pa_cons pe_str pa_nil))))
      (pss_one (ps_ost (pv 0) (pv 1)))), ?_⟩
  repeat walk_at "rd1"
  refine ⟨a, fA K "BadNumber", _, rfl, by show 1 ≤ 1000; decide, T.x_BadNumber.o, ha, ?_⟩
  repeat walk_at "rd1"
  refine ⟨a, fA K "BadNumber", rfl, T.x_BadNumber.o, T.x_BadNumber.no _ (.head _), .inl ⟨ha, fun dx n1 n2 => ?_⟩⟩
  exact q dx n1 n2

end
section
variable {P : Program} {w : World} {K : Fr0} {mg : Str → Option Value} {base : Heap}
theorem ok_BadPicture_init (T : Txt K mg) : OkM P w K mg base CX0 1 "BadPicture" "__init__" ["self"] (spI0 K "BadPicture") := by
  refine T.d_BadPicture_init.ok sc_BadPicture_init bd_BadPicture_init (fun vs H Q E h => by obtain ⟨a, rfl, _⟩ := h; rfl) (fun cdv A outer s H vs Q E hr h => ?_)
  obtain ⟨a, rfl, ha, q⟩ := h
  refine ⟨_, PSs.nox (pss_one (ps_expr (pe_alb T.h_AlbumError T.g_AlbumError (pa_cons (pv 0) (pa_cons pe_str pa_nil))))), ?_⟩
  repeat walk_at "rd1"
  refine ⟨a, fA K "BadPicture", _, rfl, by show 1 ≤ 1000; decide, T.x_BadPicture.o, ha, ?_⟩
  repeat walk_at "rd1"
  exact q

end
section
variable {P : Program} {w : World} {K : Fr0} {mg : Str → Option Value} {base : Heap}
theorem ok_Ended_init (T : Txt K mg) : OkM P w K mg base CX0 1 "Ended" "__init__" ["self"] (spI0 K "Ended") := by
  refine T.d_Ended_init.ok sc_Ended_init bd_Ended_init (fun vs H Q E h => by obtain ⟨a, rfl, _⟩ := h; rfl) (fun cdv A outer s H vs Q E hr h => ?_)
  obtain ⟨a, rfl, ha, q⟩ := h
  refine ⟨_, PSs.nox (pss_one (ps_expr (pe_alb T.h_AlbumError T.g_AlbumError (pa_cons (pv 0) (pa_cons pe_str pa_nil))))), ?_⟩
  repeat walk_at "rd1"
  refine ⟨a, fA K "Ended", _, rfl, by show 1 ≤ 1000; decide, T.x_Ended.o, ha, ?_⟩
  repeat walk_at "rd1"
  exact q

end
section
variable {P : Program} {w : World} {K : Fr0} {mg : Str → Option Value} {base : Heap}
def spWhole (K : Fr0) : Sp := fun vs H Q _ => ∃ (v : V) (t : String), vs = [v] ∧ AnyV K H v t ∧ Q (.bl (isI v)) H
theorem ok_is_whole (T : Txt K mg) : Ok P w K mg base CX0 1 "is_whole" ["value"] (spWhole K) := by
  refine T.d_is_whole.ok sc_is_whole bd_is_whole (fun vs H Q E h => by obtain ⟨v, t, rfl, _⟩ := h; rfl) (fun cdv A outer s H vs Q E hr h => ?_)
  obtain ⟨v, t, rfl, ha, q⟩ := h
  refine ⟨_, PSs.nox (pss_one (ps_ret (pe_and (pe_callB (isiKK (K := K) rfl) rfl T.b_isinstance (by decide +kernel) (pa_cons (pv 0) (pa_cons (pe_bltn (v := .ty "int") (u := .type "int") rfl T.b_int (by decide +kernel) rfl) pa_nil))) (pe_one (pe_not (pe_callB (isiKK (K := K) rfl) rfl T.b_isinstance (by decide +kernel) (pa_cons (pv 0) (pa_cons (pe_bltn (v := .ty "bool") (u := .type "bool") rfl T.b_bool (by decide +kernel) rfl) pa_nil)))))))), ?_⟩
  repeat walk_at "rd1"
  cases ha with
  | int i =>
    refine isi_ty (T := "int") (b := true) (.int i) (by decide +kernel) ?_
    refine ⟨_, rfl, iteT ?_⟩
    repeat walk_at "rd1"
    refine isi_ty (T := "bool") (b := false) (.int i) (by decide +kernel) ?_
    exact ⟨_, rfl, q⟩
  | bl b =>
    refine isi_ty (T := "int") (b := true) (.bl b) (by decide +kernel) ?_
    refine ⟨_, rfl, iteT ?_⟩
    repeat walk_at "rd1"
    refine isi_ty (T := "bool") (b := true) (.bl b) (by decide +kernel) ?_
    exact ⟨_, rfl, q⟩
  | non =>
    refine isi_ty (T := "int") (b := false) .non (by decide +kernel) ?_
    exact ⟨_, rfl, iteF q⟩
  | str x =>
    refine isi_ty (T := "int") (b := false) (.str x) (by decide +kernel) ?_
    exact ⟨_, rfl, iteF q⟩
  | tup h =>
    refine isi_ty (T := "int") (b := false) (.tup h) (by decide +kernel) ?_
    exact ⟨_, rfl, iteF q⟩
  | lst h =>
    refine isi_ty (T := "int") (b := false) (.lst h) (by decide +kernel) ?_
    exact ⟨_, rfl, iteF q⟩
  | dct h =>
    refine isi_ty (T := "int") (b := false) (.dct h) (by decide +kernel) ?_
    exact ⟨_, rfl, iteF q⟩

end
section
variable {P : Program} {w : World} {K : Fr0} {mg : Str → Option Value} {base : Heap}
def spWithin (K : Fr0) : Sp := fun vs H Q _ => ∃ (v : V) (t : String) (lo hi : Int), vs = [v, .int lo, .int hi] ∧ AnyV K H v t ∧ Q (.bl (isIn lo hi v)) H
theorem ok_is_within (T : Txt K mg) : Ok P w K mg base CX0 2 "is_within" ["value", "low", "high"] (spWithin K) := by
  refine T.d_is_within.ok sc_is_within bd_is_within (fun vs H Q E h => by obtain ⟨v, t, lo, hi, rfl, _⟩ := h; rfl) (fun cdv A outer s H vs Q E hr h => ?_)
  obtain ⟨v, t, lo, hi, rfl, ha, q⟩ := h
  refine ⟨_, PSs.nox (pss_one (ps_ret (pe_and (pe_f (ok_is_whole T) (hr.mono (by decide)) pass0 (pa_cons (pv 0) pa_nil)) (pe_one (pe_chain op_le op_le (pv 1) (pv 0) (pv 2)))))), ?_⟩
  repeat walk_at "rd1"
  refine ⟨v, t, rfl, ha, ⟨_, rfl, ?_⟩⟩
  cases ha with
  | int i =>
    refine iteT ?_
    repeat walk_at "rd1"
    have q : Q (.bl (decide (lo ≤ i) && decide (i ≤ hi))) H := q
    by_cases h1 : lo ≤ i
    · rw [decide_eq_true h1] at q ⊢
      refine iteT ?_
      repeat walk_at "rd1"
      exact q
    · rw [decide_eq_false h1] at q ⊢
      exact iteF q
  | bl b => exact iteF q
  | non => exact iteF q
  | str x => exact iteF q
  | tup h => exact iteF q
  | lst h => exact iteF q
  | dct h => exact iteF q

end
section
variable {P : Program} {w : World} {K : Fr0} {mg : Str → Option Value} {base : Heap}
def spCommon : Sp := fun vs H Q _ => ∃ (a b : Int) (k : Nat), vs = [.int a, .int b] ∧ a.natAbs < 2 ^ k ∧ b.natAbs < 2 ^ k ∧ k ≤ 8999 ∧ Q (.int (Int.gcd a b)) H
theorem abs_if (a : Int) : (if a < 0 then -a else a) = (a.natAbs : Int) := by split <;> omega
theorem ok_common (T : Txt K mg) : Ok P w K mg base CX0 1 "common" ["one", "other"] spCommon := by
  refine T.d_common.ok sc_common bd_common (fun vs H Q E h => by obtain ⟨a, b, k, rfl, _⟩ := h; rfl) (fun cdv A outer s H vs Q E hr h => ?_)
  obtain ⟨a, b, k, rfl, ha, hb, hk, q⟩ := h
  refine ⟨_, PSs.nox (pss_cons (ps_par (i := 0) (j := 1) rfl sc_common.nd rfl rfl (by decide) rfl rfl (pa_cons (pe_callB call_abs rfl T.b_abs (by decide +kernel) (pa_cons (pv 0) pa_nil)) (pa_cons (pe_callB call_abs rfl T.b_abs (by decide +kernel) (pa_cons (pv 1) pa_nil)) pa_nil)) (by rfl))
      (pss_cons (ps_while PassesOwn.never (pt_cmpR op_gt (pv 1) pe_int (nomark _)) (pss_one (ps_par (i := 0) (j := 1) rfl sc_common.nd rfl rfl (by decide) rfl rfl (pa_cons (pv 1) (pa_cons (pe_op op_sub (pv 0) (pe_op op_mulW (pe_op op_fdivW (pv 0) (pv 1)) (pv 1))) pa_nil)) (by rfl))))
      (pss_one (ps_ret (pv 0))))), ?_⟩
  repeat walk_at "rd1"
  rw [abs_if, abs_if]
  refine (r_while (fun m σ H' => ∃ x y : Nat, σ = [some (.int x), some (.int y)] ∧ H' = H ∧ m = y ∧ x < 2 ^ k ∧ y < 2 ^ k ∧ Int.gcd x y = Int.gcd a b) b.natAbs
    ⟨_, _, rfl, rfl, rfl, ha, hb, gcd_abs a b⟩ (fun σ H q q' h e => ?_) ?_)
  · obtain ⟨v, e1, i, j, e2, e3, c, e4, e5⟩ := e
    exact ⟨v, e1, i, j, e2, e3, c, e4, h _ _ e5⟩
  rintro m σ H' ⟨x, y, rfl, rfl, rfl, hx, hy, hg⟩
  repeat walk_at "rd1"
  refine r_dec (fun h0 => ?_) (fun h0 => ?_)
  · have h0' : (0 : Int) < (m : Int) := h0
    repeat walk_at "rd1"
    refine r_i (divW_of h0' (b := k) (by rw [Int.natAbs_natCast]; exact hy) hk) ?_
    repeat walk_at "rd1"
    have s1 : ((x : Int) / (m : Int)).natAbs < 2 ^ k := sz_ediv (by rw [Int.natAbs_natCast]; exact hx) (by omega) (by omega)
    refine r_i (mulW_of (a := k) (b := k) s1 (by rw [Int.natAbs_natCast]; exact hy) (by omega)) ?_
    repeat walk_at "rd1"
    have e : (x : Int) - (x : Int) / (m : Int) * (m : Int) = ((x % m : Nat) : Int) := by rw [sub_div_eq, Int.natCast_emod]
    rw [e]
    have lt : x % m < m := Nat.mod_lt _ (by omega)
    refine ⟨x % m, lt, m, x % m, rfl, rfl, rfl, hy, by omega, ?_⟩
    rw [← hg, Int.natCast_emod]
    exact gcd_turn'
  · have h1 : m = 0 := by
      have h2 : ¬ (0 : Int) < (m : Int) := h0
      omega
    subst h1
    repeat walk_at "rd1"
    have e : (x : Int) = (Int.gcd a b : Int) := by
      rw [← hg]
      simp [Int.gcd]
    rw [e]
    exact q

end
section
variable {P : Program} {w : World} {K : Fr0} {mg : Str → Option Value} {base : Heap}
def spFraction (K : Fr0) : Sp := fun vs H Q _ => ∃ (a b : Int) (k : Nat), vs = [.int a, .int b] ∧ b ≠ 0 ∧ a.natAbs < 2 ^ k ∧ b.natAbs < 2 ^ k ∧ k ≤ 8999 ∧ NewFr K H Q (Rat.divInt a b)
theorem ok_fraction (T : Txt K mg) : Ok P w K mg base CX0 2 "fraction" ["number", "parts"] (spFraction K) := by
  refine T.d_fraction.ok sc_fraction bd_fraction (fun vs H Q E h => by obtain ⟨a, b, k, rfl, _⟩ := h; rfl) (fun cdv A outer s H vs Q E hr h => ?_)
  obtain ⟨a, b, k, rfl, hb0, ha, hb, hk, q⟩ := h
  refine ⟨_, PSs.nox (pss_cons (ps_if (pt_cmpR op_lt (pv 1) pe_int (nomark _)) (pss_one (ps_par (i := 0) (j := 1) rfl sc_fraction.nd rfl rfl (by decide) rfl rfl (pa_cons (pe_un un_neg (pv 0)) (pa_cons (pe_un un_neg (pv 1)) pa_nil)) (by rfl))) pss_nil)
      (pss_cons (ps_set (i := 2) sc_fraction.nd rfl (Or.inl rfl) (pe_f (ok_common T) (hr.mono (by decide)) pass0 (pa_cons (pv 0) (pa_cons (pv 1) pa_nil))))
      (pss_one (ps_ret (pe_tup (pa_cons (pe_op op_fdivW (pv 0) (pv 2)) (pa_cons (pe_op op_fdivW (pv 1) (pv 2)) pa_nil))))))), ?_⟩
  repeat walk_at "rd1"
  have tail : ∀ a' b' : Int, 0 < b' → a'.natAbs < 2 ^ k → b'.natAbs < 2 ^ k → Rat.divInt a' b' = Rat.divInt a b → ∀ g : Int, g = (Int.gcd a' b' : Int) → ∀ p, H p = none →
      Q (.ref p) (upd H p (.tup [.int (a' / g), .int (b' / g)])) := by
    intro a' b' h0 h1 h2 e g eg p np
    refine q _ _ (same_new np) ?_
    rw [← e, fr, num_of h0, den_of h0, eg]
    exact dp_pr (SqT.of upd_same)
  have gp : ∀ a' b' : Int, 0 < b' → b'.natAbs < 2 ^ k → CDivW a' (Int.gcd a' b' : Int) ∧ CDivW b' (Int.gcd a' b' : Int) := by
    intro a' b' h0 h2
    have g0 : 0 < Int.gcd a' b' := gcd_pos (by omega)
    have g1 : Int.gcd a' b' ≤ b'.natAbs := Nat.le_of_dvd (by omega) (Int.gcd_dvd_natAbs_right a' b')
    have g2 : ((Int.gcd a' b' : Nat) : Int).natAbs < 2 ^ k := by rw [Int.natAbs_natCast]; omega
    exact ⟨divW_of (by omega) g2 hk, divW_of (by omega) g2 hk⟩
  walk_at "if"
  refine r_dec (fun h0 => ?_) (fun h0 => ?_)
  · have h0' : b < 0 := h0
    repeat walk_at "rd1"
    refine ⟨-a, -b, k, rfl, sz_neg ha, sz_neg hb, hk, ?_⟩
    repeat walk_at "rd1"
    obtain ⟨c1, c2⟩ := gp (-a) (-b) (by omega) (sz_neg hb)
    refine r_i c1 ?_
    repeat walk_at "rd1"
    refine r_i c2 ?_
    repeat walk_at "rd1"
    exact ⟨by show 2 ≤ sizeLine; decide, fun p np => tail (-a) (-b) (by omega) (sz_neg ha) (sz_neg hb) (divInt_negneg a b) _ rfl p np⟩
  · have h0' : 0 < b := by
      have h1 : ¬ b < 0 := h0
      omega
    repeat walk_at "rd1"
    refine ⟨a, b, k, rfl, ha, hb, hk, ?_⟩
    repeat walk_at "rd1"
    obtain ⟨c1, c2⟩ := gp a b h0' hb
    refine r_i c1 ?_
    repeat walk_at "rd1"
    refine r_i c2 ?_
    repeat walk_at "rd1"
    exact ⟨by show 2 ≤ sizeLine; decide, fun p np => tail a b h0' ha hb rfl _ rfl p np⟩

end
section
variable {P : Program} {w : World} {K : Fr0} {mg : Str → Option Value} {base : Heap}
def spAdded (K : Fr0) : Sp := fun vs H Q _ => ∃ (a b c d : Int) (k l : Nat), TwoFr K H vs a b c d k l ∧ NewFr K H Q (Rat.divInt a b + Rat.divInt c d)
theorem c_added {K : Fr0} {H : Hp} {u v : V} {p q : Rat} {k l : Nat} {Q : VK} {E : XK} (h1 : Dp K H u (fr p)) (h2 : Dp K H v (fr q)) (s1 : Sz p k) (s2 : Sz q l) (h : k + l + 1 ≤ 8999) (n : NewFr K H Q (p + q)) : spAdded K ([u, v] ++ []) H Q E :=
  ⟨_, _, _, _, k, l, .of h1 h2 s1 s2 h, by rw [q_eq, q_eq]; exact n⟩
theorem c_added2 {K : Fr0} {H : Hp} {u v : V} {p q : Rat} {k l : Nat} {Q : VK} {E : XK} (h1 : FrAt K H u p k) (h2 : FrAt K H v q l) (h : k + l + 1 ≤ 8999) (n : NewFr K H Q (p + q)) : spAdded K ([u, v] ++ []) H Q E := by
  obtain ⟨a, b, d1, b0, rfl, sa, sb⟩ := h1
  obtain ⟨c, d, d2, c0, rfl, sc, sd⟩ := h2
  exact ⟨a, b, c, d, k, l, ⟨u, v, rfl, d1, d2, ⟨by omega, by omega⟩, sa, sb, sc, sd, h⟩, n⟩
theorem ok_added (T : Txt K mg) : Ok P w K mg base CX0 3 "added" ["one", "other"] (spAdded K) := by
  refine T.d_added.ok sc_added bd_added (fun vs H Q E h => by obtain ⟨a, b, c, d, k, l, ⟨u, v, rfl, _⟩, _⟩ := h; rfl) (fun cdv A outer s H vs Q E hr h => ?_)
  obtain ⟨a, b, c, d, k, l, ⟨u, v, rfl, h1, h2, ⟨hb, hd⟩, sa, sb, sc, sd, hk⟩, q⟩ := h
  refine ⟨_, PSs.nox (pss_one (ps_ret (pe_f (ok_fraction T) (hr.mono (by decide)) pass0 (pa_cons (pe_op op_add (pe_op op_mulW (pe_ix (ixtK (K := K) rfl) (pv 0) pe_int (fun _ _ => rfl)) (pe_ix (ixtK (K := K) rfl) (pv 1) pe_int (fun _ _ => rfl))) (pe_op op_mulW (pe_ix (ixtK (K := K) rfl) (pv 1) pe_int (fun _ _ => rfl)) (pe_ix (ixtK (K := K) rfl) (pv 0) pe_int (fun _ _ => rfl)))) (pa_cons (pe_op op_mulW (pe_ix (ixtK (K := K) rfl) (pv 0) pe_int (fun _ _ => rfl)) (pe_ix (ixtK (K := K) rfl) (pv 1) pe_int (fun _ _ => rfl))) pa_nil))))), ?_⟩
  repeat walk_at "rd1"
  refine r_i (mulW_of sa sd (by omega)) ?_
  repeat walk_at "rd1"
  refine r_i (mulW_of sc sb (by omega)) ?_
  repeat walk_at "rd1"
  refine r_i (mulW_of sb sd (by omega)) ?_
  repeat walk_at "rd1"
  have z := sz_mul sc sb
  rw [Nat.add_comm] at z
  refine ⟨_, _, k + l + 1, rfl, Int.mul_ne_zero hb hd, sz_add (sz_mul sa sd) z, sz_mono (sz_mul sb sd) (Nat.le_succ _), hk, ?_⟩
  rw [← Rat.divInt_add_divInt _ _ hb hd]
  exact q

end
section
variable {P : Program} {w : World} {K : Fr0} {mg : Str → Option Value} {base : Heap}
def spProduct (K : Fr0) : Sp := fun vs H Q _ => ∃ (a b c d : Int) (k l : Nat), TwoFr K H vs a b c d k l ∧ NewFr K H Q (Rat.divInt a b * Rat.divInt c d)
theorem c_product {K : Fr0} {H : Hp} {u v : V} {p q : Rat} {k l : Nat} {Q : VK} {E : XK} (h1 : Dp K H u (fr p)) (h2 : Dp K H v (fr q)) (s1 : Sz p k) (s2 : Sz q l) (h : k + l + 1 ≤ 8999) (n : NewFr K H Q (p * q)) : spProduct K ([u, v] ++ []) H Q E :=
  ⟨_, _, _, _, k, l, .of h1 h2 s1 s2 h, by rw [q_eq, q_eq]; exact n⟩
theorem c_product2 {K : Fr0} {H : Hp} {u v : V} {p q : Rat} {k l : Nat} {Q : VK} {E : XK} (h1 : FrAt K H u p k) (h2 : FrAt K H v q l) (h : k + l + 1 ≤ 8999) (n : NewFr K H Q (p * q)) : spProduct K ([u, v] ++ []) H Q E := by
  obtain ⟨a, b, d1, b0, rfl, sa, sb⟩ := h1
  obtain ⟨c, d, d2, c0, rfl, sc, sd⟩ := h2
  exact ⟨a, b, c, d, k, l, ⟨u, v, rfl, d1, d2, ⟨by omega, by omega⟩, sa, sb, sc, sd, h⟩, n⟩
theorem ok_product (T : Txt K mg) : Ok P w K mg base CX0 3 "product" ["one", "other"] (spProduct K) := by
  refine T.d_product.ok sc_product bd_product (fun vs H Q E h => by obtain ⟨a, b, c, d, k, l, ⟨u, v, rfl, _⟩, _⟩ := h; rfl) (fun cdv A outer s H vs Q E hr h => ?_)
  obtain ⟨a, b, c, d, k, l, ⟨u, v, rfl, h1, h2, ⟨hb, hd⟩, sa, sb, sc, sd, hk⟩, q⟩ := h
  refine ⟨_, PSs.nox (pss_one (ps_ret (pe_f (ok_fraction T) (hr.mono (by decide)) pass0 (pa_cons (pe_op op_mulW (pe_ix (ixtK (K := K) rfl) (pv 0) pe_int (fun _ _ => rfl)) (pe_ix (ixtK (K := K) rfl) (pv 1) pe_int (fun _ _ => rfl))) (pa_cons (pe_op op_mulW (pe_ix (ixtK (K := K) rfl) (pv 0) pe_int (fun _ _ => rfl)) (pe_ix (ixtK (K := K) rfl) (pv 1) pe_int (fun _ _ => rfl))) pa_nil))))), ?_⟩
  repeat walk_at "rd1"
  refine r_i (mulW_of sa sc (by omega)) ?_
  repeat walk_at "rd1"
  refine r_i (mulW_of sb sd (by omega)) ?_
  repeat walk_at "rd1"
  refine ⟨_, _, k + l, rfl, Int.mul_ne_zero hb hd, sz_mul sa sc, sz_mul sb sd, by omega, ?_⟩
  rw [← Rat.divInt_mul_divInt]
  exact q

end
section
variable {P : Program} {w : World} {K : Fr0} {mg : Str → Option Value} {base : Heap}
def spTotal (K : Fr0) : Sp := fun vs H Q _ => ∃ (v : V) (qs : List Rat) (k l : Nat), vs = [v] ∧ Dp K H v (.list (qs.map fr)) ∧ SumSz qs k l ∧ NewFr K H Q qs.sum
theorem ok_total (T : Txt K mg) : Ok P w K mg base CX0 4 "total" ["some"] (spTotal K) := by
  refine T.d_total.ok sc_total bd_total (fun vs H Q E h => by obtain ⟨v, qs, k, l, rfl, _⟩ := h; rfl) (fun cdv A outer s H vs Q E hr h => ?_)
  obtain ⟨v, qs, k, l, rfl, hv, hs, q⟩ := h
  obtain ⟨a, xs, rfl, h1, h2⟩ := dp_lst hv
  have len : xs.length = qs.length := by rw [dpA_len h2, List.length_map]
  refine ⟨_, PSs.nox (pss_cons (ps_set (i := 1) sc_total.nd rfl (Or.inl rfl) (pe_gr T.c_NOUGHT))
      (pss_cons (ps_for PassesOwn.never rfl (pi_list (pv 0)) (pg_name (i := 2) sc_total.nd rfl (Or.inl rfl)) (pss_one (ps_set (i := 1) sc_total.nd rfl (Or.inl rfl) (pe_f (ok_added T) (hr.mono (by decide)) pass0 (pa_cons (pv 1) (pa_cons (pv 2) pa_nil))))))
      (pss_one (ps_ret (pv 1))))), ?_⟩
  walk_at "k0"
  walk_at "rd"
  refine ⟨⟨_, h1⟩, ?_⟩
  refine for_list (K := K) (a := a) (xs := xs) (fun i σ H' => ∃ (u : V) (z : Option V), σ = [some (.ref a), some u, z] ∧ Same H H' ∧ Dp K H' u (fr (qs.take i).sum))
    ⟨_, _, rfl, Same.refl _, by rw [List.take_zero, List.sum_nil]; exact dp_pr (T.v_NOUGHT _)⟩ (fun i σ H' _ ⟨_, _, _, s, _⟩ => sql_same s h1) ?_ ?_
  · rintro i x σ H' hi ⟨u, z, rfl, s, hu⟩
    have hi2 : i < qs.length := by have := (List.getElem?_eq_some_iff.mp hi).1; omega
    obtain ⟨y, e1, e2⟩ := dpA_get (i := i) (dpA_same s h2) (d := fr qs[i]) (by rw [List.getElem?_map, List.getElem?_eq_getElem hi2]; rfl)
    obtain rfl : y = x := Option.some.inj (e1.symm.trans hi)
    walk_at "rd"
    refine c_added hu e2 (hs.part i (Nat.le_of_lt hi2)) (hs.each _ (List.getElem_mem hi2)) hs.fits fun u' H2 s2 h3 => ?_
    walk_at "rd"
    refine ⟨u', _, rfl, s.trans s2, ?_⟩
    rw [sum_take_succ qs i hi2]
    exact h3
  · rintro σ H' ⟨u, z, rfl, s, hu⟩
    walk_at "rd"
    rw [len, List.take_length] at hu
    exact q _ _ s hu

end
section
variable {P : Program} {w : World} {K : Fr0} {mg : Str → Option Value} {base : Heap}
def spNeedP (K : Fr0) : Sp := fun vs H Q E => ∃ (z : Str) (v : V) (t : String) (lo hi : Int), vs = [.str z, v, .int lo, .int hi] ∧ AnyV K H v t ∧ (isIn lo hi v = true → Q .non H) ∧ (isIn lo hi v = false → Raised K "InvalidPart" "name" (.str z) H E)
theorem ok_need_part (T : Txt K mg) : Ok P w K mg base (L2.CX P w) 4 "need_part" ["name", "value", "low", "high"] (spNeedP K) := by
  refine T.d_need_part.ok sc_need_part bd_need_part (fun vs H Q E h => by obtain ⟨z, v, t, lo, hi, rfl, _⟩ := h; rfl) (fun cdv A outer s H vs Q E hr h => ?_)
  obtain ⟨z, v, t, lo, hi, rfl, ha, q1, q2⟩ := h
  have tk : Takes (cxOf (L2.CX P w) P w K mg base N_need_part "need_part" (defScope s_need_part) (fA K "need_part") cdv A outer s H E) (fun cls d _ H => E cls d H) := takes_of rfl rfl rfl rfl
  refine ⟨_, (pss_one (ps_if (pt_not (pt_val (pe_f (ok_is_within T) (hr.mono (by decide)) pass0 (pa_cons (pv 1) (pa_cons (pv 2) (pa_cons (pv 3) pa_nil)))))) (pss_one (ps_raise rfl tk (pmk_x T.x_InvalidPart T.g_InvalidPart (ok_InvalidPart_init T) (hr.mono (by decide)) pass0 (pa_cons (pv 0) pa_nil)))) pss_nil)), ?_⟩
  walk_at "k0"
  walk_at "rd"
  walk_at "if"
  refine ⟨v, t, lo, hi, rfl, ha, _, rfl, ?_⟩
  cases e : isIn lo hi v with
  | true => exact iteF (q1 e)
  | false =>
    refine iteT ?_
    refine ⟨_, rfl, ?_⟩
    exact r_mk1 (x := "InvalidPart") (f := "name") rfl rfl fun d H' n s' e' => q2 e d H' n s' e'

end
section
variable {P : Program} {w : World} {K : Fr0} {mg : Str → Option Value} {base : Heap}
theorem ok_Way_init (T : Txt K mg) : OkM P w K mg base (L2.CX P w) 5 "Way" "__init__" ["self", "have", "buy", "price", "pack"] (spWayInit K) := by
  refine T.d_Way_init.ok sc_Way_init bd_Way_init (fun vs H Q E h => by obtain ⟨a, dx, u, v, x, y, tu, tv, tx, ty, rfl, _⟩ := h; rfl) (fun cdv A outer s H vs Q E hr h => ?_)
  obtain ⟨a, dx, u, v, x, y, tu, tv, tx, ty, rfl, ha, hu, hv, hx, hy, q⟩ := h
  have tk : Takes (cxOf (L2.CX P w) P w K mg base N_Way_init "Way.__init__" (defScope s_Way_init) (mA K "Way" "__init__") cdv A outer s H E) (fun cls d _ H => E cls d H) := takes_of rfl rfl rfl rfl
  refine ⟨_, (pss_cons (ps_expr (pe_fS (ok_need_part T) (hr.mono (by decide)) tk (pa_cons pe_str (pa_cons (pv 1) (pa_cons pe_int (pa_cons (pe_gi T.c_MOST_HAVE) pa_nil))))))
      (pss_cons (ps_expr (pe_fS (ok_need_part T) (hr.mono (by decide)) tk (pa_cons pe_str (pa_cons (pv 2) (pa_cons pe_int (pa_cons (pe_gi T.c_MOST_BUY) pa_nil))))))
      (pss_cons (ps_expr (pe_fS (ok_need_part T) (hr.mono (by decide)) tk (pa_cons pe_str (pa_cons (pv 3) (pa_cons pe_int (pa_cons (pe_gi T.c_MOST_PRICE) pa_nil))))))
      (pss_cons (ps_expr (pe_fS (ok_need_part T) (hr.mono (by decide)) tk (pa_cons pe_str (pa_cons (pv 4) (pa_cons pe_int (pa_cons (pe_gi T.c_MOST_PACK) pa_nil))))))
      (pss_cons (ps_fld (pv 0) (pv 1) rfl)
      (pss_cons (ps_fld (pv 0) (pv 2) rfl)
      (pss_cons (ps_fld (pv 0) (pv 3) rfl)
      (pss_cons (ps_fld (pv 0) (pv 4) rfl)
      (pss_one (ps_fld (pv 0) (pe_callB (cr_max rfl) rfl T.b_max (by decide +kernel) (pa_cons (pe_lst (pa_cons pe_int (pa_cons (pe_op op_add (pv 1) (pv 2)) pa_nil))) pa_nil)) rfl)))))))))), ?_⟩
  walk_at "k0"
  walk_at "rd"
  rcases q with ⟨bad, q⟩ | ⟨h, rfl, h5, q⟩
  · exact ⟨_, u, tu, 0, 5, rfl, hu, fun e => absurd e (by rw [bad]; decide), fun _ => q⟩
  refine ⟨_, _, tu, 0, 5, rfl, hu, fun _ => ?_, fun e => absurd e (by rw [isIn_nat (by omega) (by omega)]; decide)⟩
  walk_at "rd"
  rcases q with ⟨bad, q⟩ | ⟨b, rfl, b4, q⟩
  · exact ⟨_, v, tv, 0, 4, rfl, hv, fun e => absurd e (by rw [bad]; decide), fun _ => q⟩
  refine ⟨_, _, tv, 0, 4, rfl, hv, fun _ => ?_, fun e => absurd e (by rw [isIn_nat (by omega) (by omega)]; decide)⟩
  walk_at "rd"
  rcases q with ⟨bad, q⟩ | ⟨c, rfl, hc, q⟩
  · exact ⟨_, x, tx, 0, 50, rfl, hx, fun e => absurd e (by rw [bad]; decide), fun _ => q⟩
  refine ⟨_, _, tx, 0, 50, rfl, hx, fun _ => ?_, fun e => absurd e (by rw [isIn_nat (by omega) (by omega)]; decide)⟩
  walk_at "rd"
  rcases q with ⟨bad, q⟩ | ⟨k, rfl, k1, k3, q⟩
  · exact ⟨_, y, ty, 1, 3, rfl, hy, fun e => absurd e (by rw [bad]; decide), fun _ => q⟩
  refine ⟨_, _, ty, 1, 3, rfl, hy, fun _ => ?_, fun e => absurd e (by rw [isIn_nat (by omega) (by omega)]; decide)⟩
  walk_at "rd"
  refine ⟨a, _, dx, _, rfl, ha, T.cl_Way, T.n_Way_begun, by decide, ?_⟩
  walk_at "rd"
  have b1 : But a H (upd H a (.ins (fA K "Way") dx (putF "begun" (.int (h : Int)) []))) := But.refl'.set
  have e1 : upd H a (.ins (fA K "Way") dx (putF "begun" (.int (h : Int)) [])) a = some (.ins (fA K "Way") dx [("begun", .int (h : Int))]) := upd_same
  generalize upd H a (.ins (fA K "Way") dx (putF "begun" (.int (h : Int)) [])) = H1 at b1 e1
  refine ⟨a, _, dx, _, rfl, e1, T.cl_Way, T.n_Way_last, by show 1 < 1000; decide, ?_⟩
  walk_at "rd"
  have b2 : But a H (upd H1 a (.ins (fA K "Way") dx (putF "last" (.int (b : Int)) [("begun", .int (h : Int))]))) := b1.set
  have e2 : upd H1 a (.ins (fA K "Way") dx (putF "last" (.int (b : Int)) [("begun", .int (h : Int))])) a = some (.ins (fA K "Way") dx [("begun", .int (h : Int)), ("last", .int (b : Int))]) := upd_same
  generalize upd H1 a (.ins (fA K "Way") dx (putF "last" (.int (b : Int)) [("begun", .int (h : Int))])) = H2 at b2 e2
  refine ⟨a, _, dx, _, rfl, e2, T.cl_Way, T.n_Way_each, by show 2 < 1000; decide, ?_⟩
  walk_at "rd"
  have b3 : But a H (upd H2 a (.ins (fA K "Way") dx (putF "each" (.int (c : Int)) [("begun", .int (h : Int)), ("last", .int (b : Int))]))) := b2.set
  have e3 : upd H2 a (.ins (fA K "Way") dx (putF "each" (.int (c : Int)) [("begun", .int (h : Int)), ("last", .int (b : Int))])) a = some (.ins (fA K "Way") dx [("begun", .int (h : Int)), ("last", .int (b : Int)), ("each", .int (c : Int))]) := upd_same
  generalize upd H2 a (.ins (fA K "Way") dx (putF "each" (.int (c : Int)) [("begun", .int (h : Int)), ("last", .int (b : Int))])) = H3 at b3 e3
  refine ⟨a, _, dx, _, rfl, e3, T.cl_Way, T.n_Way_charge, by show 3 < 1000; decide, ?_⟩
  walk_at "rd"
  have b4' : But a H (upd H3 a (.ins (fA K "Way") dx (putF "charge" (.int (k : Int)) [("begun", .int (h : Int)), ("last", .int (b : Int)), ("each", .int (c : Int))]))) := b3.set
  have e4 : upd H3 a (.ins (fA K "Way") dx (putF "charge" (.int (k : Int)) [("begun", .int (h : Int)), ("last", .int (b : Int)), ("each", .int (c : Int))])) a = some (.ins (fA K "Way") dx [("begun", .int (h : Int)), ("last", .int (b : Int)), ("each", .int (c : Int)), ("charge", .int (k : Int))]) := upd_same
  generalize upd H3 a (.ins (fA K "Way") dx (putF "charge" (.int (k : Int)) [("begun", .int (h : Int)), ("last", .int (b : Int)), ("each", .int (c : Int))])) = H4 at b4' e4
  refine ⟨by show 2 ≤ sizeLine; decide, fun p np => ?_⟩
  walk_at "rd"
  refine r_max2 upd_same ?_
  walk_at "rd"
  have sp := same_new (o := .lst [.int 1, .int ((h : Int) + (b : Int))]) np
  refine ⟨a, _, dx, _, rfl, sp _ _ e4, T.cl_Way, T.n_Way_low, by show 4 < 1000; decide, ?_⟩
  refine q _ ((b4'.same sp).set) ?_
  rw [upd_same]
  have em : max (1 : Int) ((h : Int) + (b : Int)) = ((max 1 (h + b) : Nat) : Int) := by omega
  rw [em]
  rfl

end
section
variable {P : Program} {w : World} {K : Fr0} {mg : Str → Option Value} {base : Heap}
theorem ok_Way_have (T : Txt K mg) : OkP P w K mg base CX0 1 "Way" "have" ["self"] (spWayGet K (fun h _ _ _ => h)) := by
  refine T.d_Way_have.ok sc_Way_have bd_Way_have (fun vs H Q E h => by obtain ⟨a, h, b, c, k, rfl, _⟩ := h; rfl) (fun cdv A outer s H vs Q E hr h => ?_)
  obtain ⟨a, h, b, c, k, rfl, ⟨dx, e0⟩, q⟩ := h
  refine ⟨_, PSs.nox (pss_one (ps_ret (pe_fld (pv 0) rfl))), ?_⟩
  walk_at "k0"
  walk_at "rd"
  refine ⟨a, _, dx, _, _, rfl, e0, T.cl_Way, T.n_Way_begun, rfl, ?_⟩
  exact q

end
section
variable {P : Program} {w : World} {K : Fr0} {mg : Str → Option Value} {base : Heap}
theorem ok_Way_buy (T : Txt K mg) : OkP P w K mg base CX0 1 "Way" "buy" ["self"] (spWayGet K (fun _ b _ _ => b)) := by
  refine T.d_Way_buy.ok sc_Way_buy bd_Way_buy (fun vs H Q E h => by obtain ⟨a, h, b, c, k, rfl, _⟩ := h; rfl) (fun cdv A outer s H vs Q E hr h => ?_)
  obtain ⟨a, h, b, c, k, rfl, ⟨dx, e0⟩, q⟩ := h
  refine ⟨_, PSs.nox (pss_one (ps_ret (pe_fld (pv 0) rfl))), ?_⟩
  walk_at "k0"
  walk_at "rd"
  refine ⟨a, _, dx, _, _, rfl, e0, T.cl_Way, T.n_Way_last, rfl, ?_⟩
  exact q

end
section
variable {P : Program} {w : World} {K : Fr0} {mg : Str → Option Value} {base : Heap}
theorem ok_Way_price (T : Txt K mg) : OkP P w K mg base CX0 1 "Way" "price" ["self"] (spWayGet K (fun _ _ c _ => c)) := by
  refine T.d_Way_price.ok sc_Way_price bd_Way_price (fun vs H Q E h => by obtain ⟨a, h, b, c, k, rfl, _⟩ := h; rfl) (fun cdv A outer s H vs Q E hr h => ?_)
  obtain ⟨a, h, b, c, k, rfl, ⟨dx, e0⟩, q⟩ := h
  refine ⟨_, PSs.nox (pss_one (ps_ret (pe_fld (pv 0) rfl))), ?_⟩
  walk_at "k0"
  walk_at "rd"
  refine ⟨a, _, dx, _, _, rfl, e0, T.cl_Way, T.n_Way_each, rfl, ?_⟩
  exact q

end
section
variable {P : Program} {w : World} {K : Fr0} {mg : Str → Option Value} {base : Heap}
theorem ok_Way_pack (T : Txt K mg) : OkP P w K mg base CX0 1 "Way" "pack" ["self"] (spWayGet K (fun _ _ _ k => k)) := by
  refine T.d_Way_pack.ok sc_Way_pack bd_Way_pack (fun vs H Q E h => by obtain ⟨a, h, b, c, k, rfl, _⟩ := h; rfl) (fun cdv A outer s H vs Q E hr h => ?_)
  obtain ⟨a, h, b, c, k, rfl, ⟨dx, e0⟩, q⟩ := h
  refine ⟨_, PSs.nox (pss_one (ps_ret (pe_fld (pv 0) rfl))), ?_⟩
  walk_at "k0"
  walk_at "rd"
  refine ⟨a, _, dx, _, _, rfl, e0, T.cl_Way, T.n_Way_charge, rfl, ?_⟩
  exact q

end
section
variable {P : Program} {w : World} {K : Fr0} {mg : Str → Option Value} {base : Heap}
theorem ok_Way_least (T : Txt K mg) : OkP P w K mg base CX0 1 "Way" "least" ["self"] (spWayGet K (fun h b _ _ => max 1 (h + b))) := by
  refine T.d_Way_least.ok sc_Way_least bd_Way_least (fun vs H Q E h => by obtain ⟨a, h, b, c, k, rfl, _⟩ := h; rfl) (fun cdv A outer s H vs Q E hr h => ?_)
  obtain ⟨a, h, b, c, k, rfl, ⟨dx, e0⟩, q⟩ := h
  refine ⟨_, PSs.nox (pss_one (ps_ret (pe_fld (pv 0) rfl))), ?_⟩
  walk_at "k0"
  walk_at "rd"
  refine ⟨a, _, dx, _, _, rfl, e0, T.cl_Way, T.n_Way_low, rfl, ?_⟩
  exact q

end
section
variable {P : Program} {w : World} {K : Fr0} {mg : Str → Option Value} {base : Heap}
theorem ok_Way_eq (T : Txt K mg) : OkM P w K mg base CX0 1 "Way" "__eq__" ["self", "other"] (spWayEq K) := by
  refine T.d_Way_eq.ok sc_Way_eq bd_Way_eq (fun vs H Q E h => by obtain ⟨a, h, b, c, k, y, rfl, _⟩ := h; rfl) (fun cdv A outer s H vs Q E hr h => ?_)
  obtain ⟨a, h, b, c, k, y, rfl, ⟨dx, e0⟩, q⟩ := h
  refine ⟨_, PSs.nox (pss_cons (ps_if (PW.pt (pw_or (pt_not (pt_val (pe_callB (isiKK (K := K) rfl) rfl T.b_isinstance (by decide +kernel) (pa_cons (pv 1) (pa_cons (pe_gr T.g_Way) pa_nil))))) (pw_or (pt_cmpR op_ne (pe_fld (pv 0) rfl) (pe_fld (pv 1) rfl) (nomark _)) (pw_or1 (pt_cmpR op_ne (pe_fld (pv 0) rfl) (pe_fld (pv 1) rfl) (nomark _)))))) (pss_one (ps_ret pe_bl)) pss_nil)
      (pss_one (ps_ret (pe_and (pe_cmpR op_eq (pe_fld (pv 0) rfl) (pe_fld (pv 1) rfl) (nomark _)) (pe_one (pe_cmpR op_eq (pe_fld (pv 0) rfl) (pe_fld (pv 1) rfl) (nomark _))))))), ?_⟩
  walk_at "k0"
  walk_at "rd"
  walk_at "if"
  rcases q with ⟨t, ty, kk, q⟩ | ⟨a', h', b', c', k', rfl, ⟨dx', e1⟩, q⟩
  · refine ⟨_, _, _, _, _, rfl, .own _, ty, kk, ?_⟩
    walk_at "rd"
    exact q
  refine ⟨_, _, _, _, _, rfl, .own _, .base (.ins e1 T.cl_Way T.i_Way.ca T.i_Way.cn T.i_Way.ct T.i_Way.cm), kit_same, ?_⟩
  walk_at "rd"
  refine ⟨a, _, dx, _, _, rfl, e0, T.cl_Way, T.n_Way_begun, rfl, ?_⟩
  walk_at "rd"
  refine ⟨a', _, dx', _, _, rfl, e1, T.cl_Way, T.n_Way_begun, rfl, ?_⟩
  walk_at "rd"
  unfold sameWay at q
  refine r_ndec (fun h0 => ?_) (fun h0 => ?_)
  · rw [decide_eq_false (show ¬ h = h' from fun z => h0 (by rw [z])), Bool.false_and] at q
    walk_at "rd"
    exact q
  rw [decide_eq_true (show h = h' by omega), Bool.true_and] at q
  walk_at "rd"
  refine ⟨a, _, dx, _, _, rfl, e0, T.cl_Way, T.n_Way_last, rfl, ?_⟩
  walk_at "rd"
  refine ⟨a', _, dx', _, _, rfl, e1, T.cl_Way, T.n_Way_last, rfl, ?_⟩
  walk_at "rd"
  refine r_ndec (fun h1 => ?_) (fun h1 => ?_)
  · rw [decide_eq_false (show ¬ b = b' from fun z => h1 (by rw [z])), Bool.false_and] at q
    walk_at "rd"
    exact q
  rw [decide_eq_true (show b = b' by omega), Bool.true_and] at q
  walk_at "rd"
  refine ⟨a, _, dx, _, _, rfl, e0, T.cl_Way, T.n_Way_each, rfl, ?_⟩
  walk_at "rd"
  refine ⟨a', _, dx', _, _, rfl, e1, T.cl_Way, T.n_Way_each, rfl, ?_⟩
  walk_at "rd"
  refine r_dec (fun h2 => ?_) (fun h2 => ?_)
  · rw [decide_eq_true (show c = c' by omega), Bool.true_and] at q
    walk_at "rd"
    refine ⟨a, _, dx, _, _, rfl, e0, T.cl_Way, T.n_Way_charge, rfl, ?_⟩
    walk_at "rd"
    refine ⟨a', _, dx', _, _, rfl, e1, T.cl_Way, T.n_Way_charge, rfl, ?_⟩
    walk_at "rd"
    rw [show decide ((k : Int) = (k' : Int)) = decide (k = k') from decide_eq_decide.mpr (by omega)]
    exact q
  · rw [decide_eq_false (show ¬ c = c' from fun z => h2 (by rw [z])), Bool.false_and] at q
    walk_at "rd"
    exact q

end
section
variable {P : Program} {w : World} {K : Fr0} {mg : Str → Option Value} {base : Heap}
def spNeedN (K : Fr0) : Sp := fun vs H Q E => ∃ (v : V) (t : String) (lo hi : Int), vs = [v, .int lo, .int hi] ∧ AnyV K H v t ∧ (isIn lo hi v = true → Q .non H) ∧ (isIn lo hi v = false → Raised K "BadNumber" "n" v H E)
theorem ok_need_number (T : Txt K mg) : Ok P w K mg base (L2.CX P w) 4 "need_number" ["n", "low", "high"] (spNeedN K) := by
  refine T.d_need_number.ok sc_need_number bd_need_number (fun vs H Q E h => by obtain ⟨v, t, lo, hi, rfl, _⟩ := h; rfl) (fun cdv A outer s H vs Q E hr h => ?_)
  obtain ⟨v, t, lo, hi, rfl, ha, q1, q2⟩ := h
  have tk : Takes (cxOf (L2.CX P w) P w K mg base N_need_number "need_number" (defScope s_need_number) (fA K "need_number") cdv A outer s H E) (fun cls d _ H => E cls d H) := takes_of rfl rfl rfl rfl
  refine ⟨_, (pss_one (ps_if (pt_not (pt_val (pe_f (ok_is_within T) (hr.mono (by decide)) pass0 (pa_cons (pv 0) (pa_cons (pv 1) (pa_cons (pv 2) pa_nil)))))) (pss_one (ps_raise rfl tk (pmk_x T.x_BadNumber T.g_BadNumber (ok_BadNumber_init T) (hr.mono (by decide)) pass0 (pa_cons (pv 0) pa_nil)))) pss_nil)), ?_⟩
  walk_at "k0"
  walk_at "rd"
  walk_at "if"
  refine ⟨v, t, lo, hi, rfl, ha, _, rfl, ?_⟩
  cases e : isIn lo hi v with
  | true => exact iteF (q1 e)
  | false =>
    refine iteT ?_
    refine ⟨v, rfl, ?_⟩
    exact r_mk1 (x := "BadNumber") (f := "n") rfl rfl fun d H' n s' e' => q2 e d H' n s' e'

end
section
variable {P : Program} {w : World} {K : Fr0} {mg : Str → Option Value} {base : Heap}
def spStepMeans (K : Fr0) : Sp := fun vs H Q _ => ∃ n g b : Nat, vs = [.int n, .int g, .int b] ∧ g ≤ n ∧ n ≤ 300 ∧ b ≤ 1000 ∧ ∀ G H' D acc, Grown K H D ((smL n (n - g) b).map fr) G H' acc → Q (.ref D) H'
theorem ok_step_means (T : Txt K mg) : Ok P w K mg base CX0 5 "step_means" ["n", "begun", "last"] (spStepMeans K) := by
  refine T.d_step_means.ok sc_step_means bd_step_means (fun vs H Q E h => by obtain ⟨n, g, b, rfl, _⟩ := h; rfl) (fun cdv A outer s H vs Q E hr h => ?_)
  obtain ⟨n, g, b, rfl, hg, hn, hb, q⟩ := h
  refine ⟨_, PSs.nox (pss_one (ps_ret (pe_lc (own := [("lacking", 3)]) (g := gName 3) (tt := tYes) rfl sc_step_means.nd (pi_range3 rfl T.b_range (pa_cons (pe_op op_sub (pv 0) (pv 1)) (pa_cons (pv 2) (pa_cons (pe_un un_neg pe_int) pa_nil)))) (blkOk_by (own := [("lacking", 3)]) (N := N_step_means) (sc := defScope s_step_means) (by decide +kernel)) (fun _ _ _ _ _ => pg_name (i := 3) sc_step_means.nd rfl (Or.inl rfl)) (fun _ _ _ _ _ => pts_nil) (fun _ _ _ _ _ => (pe_f (ok_fraction T) (hr.mono (by decide)) pass0 (pa_cons (pv 0) (pa_cons (pv 3) pa_nil))))))), ?_⟩
  walk_at "k0"
  walk_at "rd"
  refine ⟨_, _, _, _, rfl, RgC.neg (by omega) (by omega) (by omega) (by omega), fun D nD => ?_⟩
  rw [show ((n : Int) - (g : Int) - (b : Int)).toNat = n - g - b by omega]
  refine lc_nums (K := K) walk_rangeC (fun i => fr (Rat.divInt (n : Int) ((n - g - i : Nat) : Int))) (fun _ => nol_fr _) (by omega) nD ?_ ?_
  · intro i H4 Q' hi s4 kk
    walk_at "rd"
    refine ⟨rfl, ?_⟩
    walk_at "rd"
    rw [show (n : Int) - (g : Int) + (i : Int) * -1 = ((n - g - i : Nat) : Int) by omega]
    exact ⟨_, _, 10, rfl, by omega, by omega, by omega, by decide, fun u5 H5 s5 d5 => kk u5 H5 s5 d5⟩
  · intro G H' acc gr
    refine q G H' D acc ?_
    have e : (smL n (n - g) b).map fr = (List.range (n - g - b)).map fun i => fr (Rat.divInt (n : Int) ((n - g - i : Nat) : Int)) := by
      unfold smL
      rw [List.map_map]
      rfl
    rw [e]
    exact gr

end
section
variable {P : Program} {w : World} {K : Fr0} {mg : Str → Option Value} {base : Heap}
def spNeedAlbum (K : Fr0) : Sp := fun vs H Q E => ∃ (a : Addr) (h b c k : Nat) (u : V) (t : String), vs = [.ref a, u] ∧ WayAt K H a h b c k ∧ AnyV K H u t ∧ (isIn ((max 1 (h + b) : Nat) : Int) 300 u = true → Q .non H) ∧ (isIn ((max 1 (h + b) : Nat) : Int) 300 u = false → Raised K "BadNumber" "n" u H E)
theorem ok_need_album (T : Txt K mg) : Ok P w K mg base (L2.CX P w) 5 "need_album" ["way", "n"] (spNeedAlbum K) := by
  refine T.d_need_album.ok sc_need_album bd_need_album (fun vs H Q E h => by obtain ⟨a, h, b, c, k, u, t, rfl, _⟩ := h; rfl) (fun cdv A outer s H vs Q E hr h => ?_)
  obtain ⟨a, h, b, c, k, u, t, rfl, ⟨dx, ha⟩, hu, q1, q2⟩ := h
  have tk : Takes (cxOf (L2.CX P w) P w K mg base N_need_album "need_album" (defScope s_need_album) (fA K "need_album") cdv A outer s H E) (fun cls d _ H => E cls d H) := takes_of rfl rfl rfl rfl
  refine ⟨_, (pss_one (ps_expr (pe_fS (ok_need_number T) (hr.mono (by decide)) tk (pa_cons (pv 1) (pa_cons (pe_fld (pv 0) rfl) (pa_cons (pe_gi T.c_MOST_NUMBER) pa_nil)))))), ?_⟩
  walk_at "k0"
  walk_at "rd"
  refine ⟨a, _, dx, _, _, rfl, ha, T.cl_Way, T.n_Way_low, rfl, ?_⟩
  walk_at "rd"
  exact ⟨u, t, _, _, rfl, hu, fun e => q1 e, q2⟩

end
section
variable {P : Program} {w : World} {K : Fr0} {mg : Str → Option Value} {base : Heap}
theorem ok_Filling_init (T : Txt K mg) : OkM P w K mg base (L2.CX P w) 6 "Filling" "__init__" ["self", "way", "n"] (spFillInit K) := by
  refine T.d_Filling_init.ok sc_Filling_init bd_Filling_init (fun vs H Q E h => by obtain ⟨f, dx, W, h, b, c, k, u, t, rfl, _⟩ := h; rfl) (fun cdv A outer s H vs Q E hr h => ?_)
  obtain ⟨f, dx, W, h, b, c, k, u, t, rfl, ha, hw, hu, q⟩ := h
  have tk : Takes (cxOf (L2.CX P w) P w K mg base N_Filling_init "Filling.__init__" (defScope s_Filling_init) (mA K "Filling" "__init__") cdv A outer s H E) (fun cls d _ H => E cls d H) := takes_of rfl rfl rfl rfl
  refine ⟨_, (pss_cons (ps_expr (pe_fS (ok_need_album T) (hr.mono (by decide)) tk (pa_cons (pv 1) (pa_cons (pv 2) pa_nil))))
      (pss_cons (ps_fld (pv 0) (pv 1) rfl)
      (pss_cons (ps_fld (pv 0) (pv 2) rfl)
      (pss_cons (ps_fld (pv 0) (pe_lst (pa_cons (pe_tup (pa_cons (pe_tupRg rfl rfl T.b_tuple (prg_2 rfl T.b_range (pe_fld (pv 1) rfl) (pv 2))) (pa_cons pe_int pa_nil))) pa_nil)) rfl)
      (pss_one (ps_fld (pv 0) (pe_tup pa_nil) rfl)))))), ?_⟩
  walk_at "k0"
  walk_at "rd"
  rcases q with ⟨bad, q⟩ | ⟨n, rfl, n1, n3, q⟩
  · exact ⟨W, h, b, c, k, u, t, rfl, hw, hu, fun e => absurd e (by rw [bad]; decide), fun _ => q⟩
  refine ⟨W, h, b, c, k, _, t, rfl, hw, hu, fun _ => ?_, fun e => absurd e (by rw [isIn_nat (by omega) (by omega)]; decide)⟩
  walk_at "rd"
  refine ⟨f, _, dx, _, rfl, ha, T.cl_Filling, T.n_Filling_source, by decide, ?_⟩
  walk_at "rd"
  have b1 : But f H (upd H f (.ins (fA K "Filling") dx (putF "source" (.ref W) []))) := But.refl'.set
  have e1 : upd H f (.ins (fA K "Filling") dx (putF "source" (.ref W) [])) f = some (.ins (fA K "Filling") dx [("source", .ref W)]) := upd_same
  generalize upd H f (.ins (fA K "Filling") dx (putF "source" (.ref W) [])) = H1 at b1 e1
  refine ⟨f, _, dx, _, rfl, e1, T.cl_Filling, T.n_Filling_size, by show 1 < 1000; decide, ?_⟩
  walk_at "rd"
  have b2 : But f H (upd H1 f (.ins (fA K "Filling") dx (putF "size" (.int (n : Int)) [("source", .ref W)]))) := b1.set
  have e2 : upd H1 f (.ins (fA K "Filling") dx (putF "size" (.int (n : Int)) [("source", .ref W)])) f = some (.ins (fA K "Filling") dx [("source", .ref W), ("size", .int (n : Int))]) := upd_same
  generalize upd H1 f (.ins (fA K "Filling") dx (putF "size" (.int (n : Int)) [("source", .ref W)])) = H2 at b2 e2
  obtain ⟨dw, ew⟩ := hw
  have nW : W ≠ f := by
    intro z
    rw [z, ha] at ew
    have z1 := Option.some.inj ew
    injection z1 with _ _ z2
    cases z2
  have ew2 := b2 _ _ nW ew
  refine ⟨W, _, dw, _, _, rfl, ew2, T.cl_Way, T.n_Way_begun, rfl, ?_⟩
  walk_at "rd"
  refine ⟨_, _, rfl, rfl, by unfold RgOk; omega, fun qq nq => ?_⟩
  walk_at "rd"
  refine ⟨by show 2 ≤ sizeLine; decide, fun p np => ?_⟩
  walk_at "rd"
  refine ⟨by show 1 ≤ sizeLine; decide, fun S nS => ?_⟩
  walk_at "rd"
  rw [rgV_nats] at np nS ⊢
  have s1 := same_new (o := .tup (natsV (fin0 h n).1)) nq
  have s2 := same_new (o := .tup [.ref qq, .int 0]) np
  have s3 := same_new (o := .lst [.ref p]) nS
  have hq3 := s3 _ _ (s2 _ _ (upd_same (H := H2) (a := qq) (o := .tup (natsV (fin0 h n).1))))
  have hp3 := s3 _ _ (upd_same (H := upd H2 qq (.tup (natsV (fin0 h n).1))) (a := p) (o := .tup [.ref qq, .int 0]))
  have hS3 := upd_same (H := upd (upd H2 qq (.tup (natsV (fin0 h n).1))) p (.tup [.ref qq, .int 0])) (a := S) (o := .lst [.ref p])
  have t3 := s1.trans (s2.trans s3)
  have f3 := t3 _ _ e2
  have b3 := b2.same t3
  have nS0 := (s1.trans s2).free nS
  generalize upd (upd (upd H2 qq (.tup (natsV (fin0 h n).1))) p (.tup [.ref qq, .int 0])) S (.lst [.ref p]) = H3 at *
  refine ⟨f, _, dx, _, rfl, f3, T.cl_Filling, T.n_Filling_states, by show 2 < 1000; decide, ?_⟩
  walk_at "rd"
  have b4 : But f H (upd H3 f (.ins (fA K "Filling") dx (putF "states" (.ref S) [("source", .ref W), ("size", .int (n : Int))]))) := b3.set
  have e4 : upd H3 f (.ins (fA K "Filling") dx (putF "states" (.ref S) [("source", .ref W), ("size", .int (n : Int))])) f = some (.ins (fA K "Filling") dx [("source", .ref W), ("size", .int (n : Int)), ("states", .ref S)]) := upd_same
  have k4 : But f H3 (upd H3 f (.ins (fA K "Filling") dx (putF "states" (.ref S) [("source", .ref W), ("size", .int (n : Int))]))) := But.refl'.set
  generalize upd H3 f (.ins (fA K "Filling") dx (putF "states" (.ref S) [("source", .ref W), ("size", .int (n : Int))])) = H4 at b4 e4 k4
  refine ⟨Nat.zero_le _, fun B nB => ?_⟩
  walk_at "rd"
  have s5 := same_new (o := .tup []) nB
  have f5 := s5 _ _ e4
  have hB5 := upd_same (H := H4) (a := B) (o := .tup [])
  have b5 := b4.same s5
  have k5 := k4.same s5
  have nBf : B ≠ f := fun z => by rw [z, e4] at nB; cases nB
  generalize upd H4 B (.tup []) = H5 at *
  refine ⟨f, _, dx, _, rfl, f5, T.cl_Filling, T.n_Filling_brought, by show 3 < 1000; decide, ?_⟩
  have off : ∀ {a : Addr} {xs : List V}, H3 a = some (.tup xs) → a ≠ f := fun e z => by rw [z, f3] at e; cases e
  have nSf : S ≠ f := fun z => by rw [z, f3] at hS3; cases hS3
  refine q S _ b5.set ?_ ⟨dx, B, [p], upd_same, ?_, ?_, rfl, ?_⟩
  · cases e : H S with
    | none => rfl
    | some o =>
      have z := b2 S o nSf e
      rw [nS0] at z
      cases z
  · rw [upd_ne nSf]
    exact k5 _ _ nSf hS3
  · rw [upd_ne nBf]
    exact hB5
  · intro i hi
    have : i = 0 := Nat.le_zero.mp hi
    subst this
    refine ⟨p, rfl, qq, ?_, ?_⟩
    · rw [upd_ne (off hp3)]
      exact k5 _ _ (off hp3) hp3
    · rw [upd_ne (off hq3)]
      exact k5 _ _ (off hq3) hq3

end
section
variable {P : Program} {w : World} {K : Fr0} {mg : Str → Option Value} {base : Heap}
theorem ok_Filling_way (T : Txt K mg) : OkP P w K mg base CX0 1 "Filling" "way" ["self"] (spTell K tWay) := by
  refine T.d_Filling_way.ok sc_Filling_way bd_Filling_way (fun vs H Q E h => by obtain ⟨f, S, W, h, n, l, rfl, _⟩ := h; rfl) (fun cdv A outer s H vs Q E hr h => ?_)
  obtain ⟨f, S, W, h, n, l, rfl, hf, q⟩ := h
  obtain ⟨dx, B, xs, p, qq, e1, e2, e3, e4, e5, e6, e7⟩ := hf.last
  refine ⟨_, PSs.nox (pss_one (ps_ret (pe_fld (pv 0) rfl))), ?_⟩
  walk_at "k0"
  walk_at "rd"
  refine ⟨f, _, dx, _, _, rfl, e1, T.cl_Filling, T.n_Filling_source, rfl, ?_⟩
  exact q _ rfl

end
section
variable {P : Program} {w : World} {K : Fr0} {mg : Str → Option Value} {base : Heap}
theorem ok_Filling_number (T : Txt K mg) : OkP P w K mg base CX0 1 "Filling" "number" ["self"] (spTell K tNum) := by
  refine T.d_Filling_number.ok sc_Filling_number bd_Filling_number (fun vs H Q E h => by obtain ⟨f, S, W, h, n, l, rfl, _⟩ := h; rfl) (fun cdv A outer s H vs Q E hr h => ?_)
  obtain ⟨f, S, W, h, n, l, rfl, hf, q⟩ := h
  obtain ⟨dx, B, xs, p, qq, e1, e2, e3, e4, e5, e6, e7⟩ := hf.last
  refine ⟨_, PSs.nox (pss_one (ps_ret (pe_fld (pv 0) rfl))), ?_⟩
  walk_at "k0"
  walk_at "rd"
  refine ⟨f, _, dx, _, _, rfl, e1, T.cl_Filling, T.n_Filling_size, rfl, ?_⟩
  exact q _ rfl

end
section
variable {P : Program} {w : World} {K : Fr0} {mg : Str → Option Value} {base : Heap}
theorem ok_Filling_missing (T : Txt K mg) : OkP P w K mg base CX0 1 "Filling" "missing" ["self"] (spTell K tMiss) := by
  refine T.d_Filling_missing.ok sc_Filling_missing bd_Filling_missing (fun vs H Q E h => by obtain ⟨f, S, W, h, n, l, rfl, _⟩ := h; rfl) (fun cdv A outer s H vs Q E hr h => ?_)
  obtain ⟨f, S, W, h, n, l, rfl, hf, q⟩ := h
  obtain ⟨dx, B, xs, p, qq, e1, e2, e3, e4, e5, e6, e7⟩ := hf.last
  refine ⟨_, PSs.nox (pss_one (ps_ret (pe_ix (ixtK (K := K) rfl) (pe_ix (ixlK (K := K) rfl) (pe_fld (pv 0) rfl) (pe_un un_neg pe_int) (fun _ _ => rfl)) pe_int (fun _ _ => rfl)))), ?_⟩
  walk_at "k0"
  walk_at "rd"
  refine ⟨f, _, dx, _, _, rfl, e1, T.cl_Filling, T.n_Filling_states, rfl, ?_⟩
  walk_at "rd"
  refine r_ixA e2 e5 ?_
  walk_at "rd"
  exact ⟨p, _, 0, _, rfl, rfl, SqT.of e6, rfl, q _ ⟨qq, rfl, e7⟩⟩

end
section
variable {P : Program} {w : World} {K : Fr0} {mg : Str → Option Value} {base : Heap}
theorem ok_Filling_doubles (T : Txt K mg) : OkP P w K mg base CX0 1 "Filling" "doubles" ["self"] (spTell K tDbl) := by
  refine T.d_Filling_doubles.ok sc_Filling_doubles bd_Filling_doubles (fun vs H Q E h => by obtain ⟨f, S, W, h, n, l, rfl, _⟩ := h; rfl) (fun cdv A outer s H vs Q E hr h => ?_)
  obtain ⟨f, S, W, h, n, l, rfl, hf, q⟩ := h
  obtain ⟨dx, B, xs, p, qq, e1, e2, e3, e4, e5, e6, e7⟩ := hf.last
  refine ⟨_, PSs.nox (pss_one (ps_ret (pe_ix (ixtK (K := K) rfl) (pe_ix (ixlK (K := K) rfl) (pe_fld (pv 0) rfl) (pe_un un_neg pe_int) (fun _ _ => rfl)) pe_int (fun _ _ => rfl)))), ?_⟩
  walk_at "k0"
  walk_at "rd"
  refine ⟨f, _, dx, _, _, rfl, e1, T.cl_Filling, T.n_Filling_states, rfl, ?_⟩
  walk_at "rd"
  refine r_ixA e2 e5 ?_
  walk_at "rd"
  exact ⟨p, _, 1, _, rfl, rfl, SqT.of e6, rfl, q _ rfl⟩

end
section
variable {P : Program} {w : World} {K : Fr0} {mg : Str → Option Value} {base : Heap}
theorem ok_Filling_log (T : Txt K mg) : OkP P w K mg base CX0 1 "Filling" "log" ["self"] (spTell K tLog) := by
  refine T.d_Filling_log.ok sc_Filling_log bd_Filling_log (fun vs H Q E h => by obtain ⟨f, S, W, h, n, l, rfl, _⟩ := h; rfl) (fun cdv A outer s H vs Q E hr h => ?_)
  obtain ⟨f, S, W, h, n, l, rfl, hf, q⟩ := h
  obtain ⟨dx, B, xs, p, qq, e1, e2, e3, e4, e5, e6, e7⟩ := hf.last
  refine ⟨_, PSs.nox (pss_one (ps_ret (pe_fld (pv 0) rfl))), ?_⟩
  walk_at "k0"
  walk_at "rd"
  refine ⟨f, _, dx, _, _, rfl, e1, T.cl_Filling, T.n_Filling_brought, rfl, ?_⟩
  exact q _ ⟨B, rfl, e3⟩

end
section
variable {P : Program} {w : World} {K : Fr0} {mg : Str → Option Value} {base : Heap}
theorem ok_is_done (T : Txt K mg) : Ok P w K mg base CX0 1 "is_done" ["filling"] (spDone K) := by
  refine T.d_is_done.ok sc_is_done bd_is_done (fun vs H Q E h => by obtain ⟨f, S, W, h, b, c, k, n, l, rfl, _⟩ := h; rfl) (fun cdv A outer s H vs Q E hr h => ?_)
  obtain ⟨f, S, W, h, b, c, k, n, l, rfl, hf, hw, q⟩ := h
  obtain ⟨dx, B, xs, p, qq, e1, e2, e3, e4, e5, e6, e7⟩ := hf.last
  obtain ⟨dw, ew⟩ := hw
  refine ⟨_, PSs.nox (pss_one (ps_ret (pe_cmpR op_le (pe_callB (lenK (K := K) rfl) rfl T.b_len (by decide +kernel) (pa_cons (pe_ix (ixtK (K := K) rfl) (pe_ix (ixlK (K := K) rfl) (pe_fld (pv 0) rfl) (pe_un un_neg pe_int) (fun _ _ => rfl)) pe_int (fun _ _ => rfl)) pa_nil)) (pe_fld (pe_fld (pv 0) rfl) rfl) (nomark _)))), ?_⟩
  walk_at "k0"
  walk_at "rd"
  refine ⟨f, _, dx, _, _, rfl, e1, T.cl_Filling, T.n_Filling_states, rfl, ?_⟩
  walk_at "rd"
  refine r_ixA e2 e5 ?_
  walk_at "rd"
  refine ⟨p, _, 0, _, rfl, rfl, SqT.of e6, rfl, ?_⟩
  walk_at "rd"
  refine ⟨qq, _, rfl, .inr (SqT.of e7), ?_⟩
  walk_at "rd"
  refine ⟨f, _, dx, _, _, rfl, e1, T.cl_Filling, T.n_Filling_source, rfl, ?_⟩
  walk_at "rd"
  refine ⟨W, _, dw, _, _, rfl, ew, T.cl_Way, T.n_Way_last, rfl, ?_⟩
  walk_at "rd"
  rw [natsV_length, show (decide (((finL h n l).1.length : Int) ≤ (b : Int))) = decide ((finL h n l).1.length ≤ b) from decide_eq_decide.mpr (by omega)]
  exact q

end
section
variable {P : Program} {w : World} {K : Fr0} {mg : Str → Option Value} {base : Heap}
theorem ok_Filling_paid (T : Txt K mg) : OkP P w K mg base CX0 2 "Filling" "paid" ["self"] (spPaid K) := by
  refine T.d_Filling_paid.ok sc_Filling_paid bd_Filling_paid (fun vs H Q E h => by obtain ⟨f, S, W, h, b, c, k, n, l, rfl, _⟩ := h; rfl) (fun cdv A outer s H vs Q E hr h => ?_)
  obtain ⟨f, S, W, h, b, c, k, n, l, rfl, hf, hw, ok, hl, q⟩ := h
  obtain ⟨dx, B, xs, p, qq, e1, e2, e3, e4, e5, e6, e7⟩ := hf.last
  obtain ⟨dw, ew⟩ := id hw
  have o2 := ok.b
  have o3 := ok.c
  have o5 := ok.k3
  refine ⟨_, PSs.nox (pss_cons (ps_set (i := 1) sc_Filling_paid.nd rfl (Or.inl rfl) (pe_op op_mul (pe_callB (lenK (K := K) rfl) rfl T.b_len (by decide +kernel) (pa_cons (pe_fld (pv 0) rfl) pa_nil)) (pe_fld (pe_fld (pv 0) rfl) rfl)))
      (pss_one (ps_ret (pe_ifExp (pt_val (pe_f (ok_is_done T) (hr.mono (by decide)) pass0 (pa_cons (pv 0) pa_nil))) (pe_op op_add (pv 1) (pe_op op_mul (pe_fld (pe_fld (pv 0) rfl) rfl) (pe_fld (pe_fld (pv 0) rfl) rfl))) (pv 1))))), ?_⟩
  walk_at "k0"
  walk_at "rd"
  refine ⟨f, _, dx, _, _, rfl, e1, T.cl_Filling, T.n_Filling_brought, rfl, ?_⟩
  walk_at "rd"
  refine ⟨B, _, rfl, .inr (SqT.of e3), ?_⟩
  rw [natsV_length]
  walk_at "rd"
  refine ⟨f, _, dx, _, _, rfl, e1, T.cl_Filling, T.n_Filling_source, rfl, ?_⟩
  walk_at "rd"
  refine ⟨W, _, dw, _, _, rfl, ew, T.cl_Way, T.n_Way_charge, rfl, ?_⟩
  walk_at "rd"
  refine r_i (.inl ⟨by omega, by omega⟩) ?_
  walk_at "rd"
  walk_at "if"
  refine ⟨f, S, W, h, b, c, k, n, l, rfl, hf, hw, _, rfl, ?_⟩
  rw [show (l.length : Int) * (k : Int) = ((l.length * k : Nat) : Int) by rw [Int.natCast_mul]]
  by_cases hd : (finL h n l).1.length ≤ b
  · rw [if_pos hd] at q
    rw [decide_eq_true hd]
    refine iteT ?_
    walk_at "rd"
    refine ⟨f, _, dx, _, _, rfl, e1, T.cl_Filling, T.n_Filling_source, rfl, ?_⟩
    walk_at "rd"
    refine ⟨W, _, dw, _, _, rfl, ew, T.cl_Way, T.n_Way_last, rfl, ?_⟩
    walk_at "rd"
    refine ⟨f, _, dx, _, _, rfl, e1, T.cl_Filling, T.n_Filling_source, rfl, ?_⟩
    walk_at "rd"
    refine ⟨W, _, dw, _, _, rfl, ew, T.cl_Way, T.n_Way_each, rfl, ?_⟩
    walk_at "rd"
    refine r_i (.inl ⟨by omega, by omega⟩) ?_
    walk_at "rd"
    rw [show ((l.length * k : Nat) : Int) + (b : Int) * (c : Int) = ((l.length * k + b * c : Nat) : Int) by rw [Int.natCast_add, Int.natCast_mul b c]]
    exact q
  · rw [if_neg hd] at q
    rw [decide_eq_false hd]
    refine iteF ?_
    walk_at "rd"
    exact q

end
section
variable {P : Program} {w : World} {K : Fr0} {mg : Str → Option Value} {base : Heap}
theorem ok_Filling_to_pay (T : Txt K mg) : OkP P w K mg base CX0 6 "Filling" "to_pay" ["self"] (spToPay K) := by
  refine T.d_Filling_to_pay.ok sc_Filling_to_pay bd_Filling_to_pay (fun vs H Q E h => by obtain ⟨f, S, W, h, b, c, k, n, l, rfl, _⟩ := h; rfl) (fun cdv A outer s H vs Q E hr h => ?_)
  obtain ⟨f, S, W, h, b, c, k, n, l, rfl, hf, hw, ok, hn, q⟩ := h
  have hl := finL_len h n l
  have o2 := ok.b
  have o3 := ok.c
  have o5 := ok.k3
  refine ⟨_, PSs.nox (pss_cons (ps_if (pt_val (pe_f (ok_is_done T) (hr.mono (by decide)) pass0 (pa_cons (pv 0) pa_nil))) (pss_one (ps_ret (pe_gr T.c_NOUGHT))) pss_nil)
      (pss_cons (ps_set (i := 1) sc_Filling_to_pay.nd rfl (Or.inl rfl) (pe_callB (lenK (K := K) rfl) rfl T.b_len (by decide +kernel) (pa_cons (pe_ix (ixtK (K := K) rfl) (pe_ix (ixlK (K := K) rfl) (pe_fld (pv 0) rfl) (pe_un un_neg pe_int) (fun _ _ => rfl)) pe_int (fun _ _ => rfl)) pa_nil)))
      (pss_cons (ps_set (i := 2) sc_Filling_to_pay.nd rfl (Or.inl rfl) (pe_f (ok_total T) (hr.mono (by decide)) pass0 (pa_cons (pe_f (ok_step_means T) (hr.mono (by decide)) pass0 (pa_cons (pe_fld (pv 0) rfl) (pa_cons (pe_op op_sub (pe_fld (pv 0) rfl) (pv 1)) (pa_cons (pe_fld (pe_fld (pv 0) rfl) rfl) pa_nil)))) pa_nil)))
      (pss_one (ps_ret (pe_f (ok_added T) (hr.mono (by decide)) pass0 (pa_cons (pe_f (ok_product T) (hr.mono (by decide)) pass0 (pa_cons (pv 2) (pa_cons (pe_tup (pa_cons (pe_fld (pe_fld (pv 0) rfl) rfl) (pa_cons pe_int pa_nil))) pa_nil))) (pa_cons (pe_tup (pa_cons (pe_op op_mul (pe_fld (pe_fld (pv 0) rfl) rfl) (pe_fld (pe_fld (pv 0) rfl) rfl)) (pa_cons pe_int pa_nil))) pa_nil)))))))), ?_⟩
  walk_at "k0"
  walk_at "rd"
  walk_at "if"
  refine ⟨f, S, W, h, b, c, k, n, l, rfl, hf, hw, _, rfl, ?_⟩
  by_cases hd : (finL h n l).1.length ≤ b
  · rw [decide_eq_true hd]
    refine iteT ?_
    walk_at "rd"
    refine q _ H (Same.refl _) ?_
    unfold toPay
    rw [if_pos hd]
    exact dp_pr (T.v_NOUGHT _)
  rw [decide_eq_false hd]
  refine iteF ?_
  walk_at "rd"
  obtain ⟨dx, B, xs, p, qq, e1, e2, e3, e4, e5, e6, e7⟩ := hf.last
  obtain ⟨dw, ew⟩ := id hw
  refine ⟨f, _, dx, _, _, rfl, e1, T.cl_Filling, T.n_Filling_states, rfl, ?_⟩
  walk_at "rd"
  refine r_ixA e2 e5 ?_
  walk_at "rd"
  refine ⟨p, _, 0, _, rfl, rfl, SqT.of e6, rfl, ?_⟩
  walk_at "rd"
  refine ⟨qq, _, rfl, .inr (SqT.of e7), ?_⟩
  rw [natsV_length]
  generalize (finL h n l).1.length = m at *
  walk_at "rd"
  refine ⟨f, _, dx, _, _, rfl, e1, T.cl_Filling, T.n_Filling_size, rfl, ?_⟩
  walk_at "rd"
  refine ⟨f, _, dx, _, _, rfl, e1, T.cl_Filling, T.n_Filling_size, rfl, ?_⟩
  walk_at "rd"
  refine ⟨f, _, dx, _, _, rfl, e1, T.cl_Filling, T.n_Filling_source, rfl, ?_⟩
  walk_at "rd"
  refine ⟨W, _, dw, _, _, rfl, ew, T.cl_Way, T.n_Way_last, rfl, ?_⟩
  walk_at "rd"
  rw [show (n : Int) - (m : Int) = ((n - m : Nat) : Int) by omega]
  refine ⟨n, n - m, b, rfl, by omega, by omega, by omega, fun G H1 D acc g => ?_⟩
  rw [show n - (n - m) = m by omega] at g
  walk_at "rd"
  refine ⟨_, smL n m b, _, _, rfl, g.dp, smL_sum (by omega) (by omega) (by omega), fun u2 H2 s2 d2 => ?_⟩
  walk_at "rd"
  have t2 := g.same.trans s2
  refine ⟨f, _, dx, _, _, rfl, t2 _ _ e1, T.cl_Filling, T.n_Filling_source, rfl, ?_⟩
  walk_at "rd"
  refine ⟨W, _, dw, _, _, rfl, t2 _ _ ew, T.cl_Way, T.n_Way_charge, rfl, ?_⟩
  walk_at "rd"
  refine ⟨by show 2 ≤ sizeLine; decide, fun p2 np2 => ?_⟩
  walk_at "rd"
  have t3 := same_new (o := .tup [.int (k : Int), .int 1]) np2
  have sz : Sz (smL n m b).sum 3301 := smL_sz (by omega) (by omega) (by omega)
  refine c_product2 (.of (dp_same t3 d2) sz) (.raw (k := 3) (dp_pr (SqT.of upd_same)) (by decide) (by omega) (by decide)) (by decide) fun u3 H3 s3 d3 => ?_
  walk_at "rd"
  have t4 := t2.trans (t3.trans s3)
  refine ⟨f, _, dx, _, _, rfl, t4 _ _ e1, T.cl_Filling, T.n_Filling_source, rfl, ?_⟩
  walk_at "rd"
  refine ⟨W, _, dw, _, _, rfl, t4 _ _ ew, T.cl_Way, T.n_Way_last, rfl, ?_⟩
  walk_at "rd"
  refine ⟨f, _, dx, _, _, rfl, t4 _ _ e1, T.cl_Filling, T.n_Filling_source, rfl, ?_⟩
  walk_at "rd"
  refine ⟨W, _, dw, _, _, rfl, t4 _ _ ew, T.cl_Way, T.n_Way_each, rfl, ?_⟩
  walk_at "rd"
  refine r_i (.inl ⟨by omega, by omega⟩) ?_
  walk_at "rd"
  refine ⟨by show 2 ≤ sizeLine; decide, fun p4 np4 => ?_⟩
  walk_at "rd"
  have bc : b * c ≤ 4 * 50 := Nat.mul_le_mul o2 o3
  rw [show (b : Int) * (c : Int) = ((b * c : Nat) : Int) by rw [Int.natCast_mul]]
  refine c_added2 (.of (dp_same (same_new np4) d3) (sz.mul (sz_divInt (k := 3) (by decide) (by omega) (by decide)))) (.raw (k := 10) (dp_pr (SqT.of upd_same)) (by decide) (by omega) (by decide)) (by decide) fun u5 H5 s5 d5 => ?_
  refine q u5 H5 (t4.trans ((same_new np4).trans s5)) ?_
  unfold toPay
  rw [if_neg hd]
  rw [divInt_by1, divInt_by1] at d5
  exact d5

end
section
variable {P : Program} {w : World} {K : Fr0} {mg : Str → Option Value} {base : Heap}
theorem ok_Filling_add (T : Txt K mg) : OkM P w K mg base (L2.CX P w) 7 "Filling" "add" ["self", "picture"] (spAdd K) := by
  refine T.d_Filling_add.ok sc_Filling_add bd_Filling_add (fun vs H Q E h => by obtain ⟨f, S, W, h, b, c, k, n, l, u, t, rfl, _⟩ := h; rfl) (fun cdv A outer s H vs Q E hr h => ?_)
  obtain ⟨f, S, W, h, b, c, k, n, l, u, t, rfl, hf, hw, hu, hn, hl, q⟩ := h
  have tk : Takes (cxOf (L2.CX P w) P w K mg base N_Filling_add "Filling.add" (defScope s_Filling_add) (mA K "Filling" "add") cdv A outer s H E) (fun cls d _ H => E cls d H) := takes_of rfl rfl rfl rfl
  refine ⟨_, (pss_cons (ps_if (pt_val (pe_f (ok_is_done T) (hr.mono (by decide)) pass0 (pa_cons (pv 0) pa_nil))) (pss_one (ps_raise rfl tk (pmk_x0 T.x_Ended T.g_Ended (ok_Ended_init T) (hr.mono (by decide)) pass0))) pss_nil)
      (pss_cons (ps_if (pt_not (pt_val (pe_f (ok_is_within T) (hr.mono (by decide)) pass0 (pa_cons (pv 1) (pa_cons pe_int (pa_cons (pe_op op_sub (pe_fld (pv 0) rfl) pe_int) pa_nil)))))) (pss_one (ps_raise rfl tk (pmk_x0 T.x_BadPicture T.g_BadPicture (ok_BadPicture_init T) (hr.mono (by decide)) pass0))) pss_nil)
      (pss_cons (ps_asg (pe_ix (ixlK (K := K) rfl) (pe_fld (pv 0) rfl) (pe_un un_neg pe_int) (fun _ _ => rfl)) (pg_tup rfl (pgs_cons (pg_name (i := 2) sc_Filling_add.nd rfl (Or.inl rfl)) (pgs_cons (pg_name (i := 3) sc_Filling_add.nd rfl (Or.inl rfl)) pgs_nil))))
      (pss_cons (ps_set (i := 4) sc_Filling_add.nd rfl (Or.inl rfl) (pe_callTy call_tuple_of rfl T.b_tuple (by decide +kernel) (pa_cons (pe_lc (own := [("one", 5)]) (g := gName 5) (tt := _) rfl sc_Filling_add.nd (pi_tup (pv 2)) (blkOk_by (own := [("one", 5)]) (N := N_Filling_add) (sc := defScope s_Filling_add) (by decide +kernel)) (fun _ _ _ _ _ => pg_name (i := 5) sc_Filling_add.nd rfl (Or.inl rfl)) (fun _ _ _ _ _ => (pts_one (pt_cmpR op_ne (pv 5) (pv 1) (nomark _)))) (fun _ _ _ _ _ => (pv 5))) pa_nil)))
      (pss_cons (ps_expr (pe_bm PySem.F.plainAttrs_list PySem.F.slot_list_append PySem.F.type_list_append mt_append (pe_fld (pv 0) rfl) (pa_cons (pe_tup (pa_cons (pv 4) (pa_cons (pe_op op_add (pv 3) (pe_callTy call_int1 rfl T.b_int (by decide +kernel) (pa_cons (pe_cmpR op_eq (pe_callB (lenK (K := K) rfl) rfl T.b_len (by decide +kernel) (pa_cons (pv 4) pa_nil)) (pe_callB (lenK (K := K) rfl) rfl T.b_len (by decide +kernel) (pa_cons (pv 2) pa_nil)) (nomark _)) pa_nil))) pa_nil))) pa_nil)))
      (pss_one (ps_fld (pv 0) (pe_op op_catA (pe_fld (pv 0) rfl) (pe_tup (pa_cons (pv 1) pa_nil))) rfl))))))), ?_⟩
  walk_at "k0"
  walk_at "rd"
  walk_at "if"
  refine ⟨f, S, W, h, b, c, k, n, l, rfl, hf, hw, _, rfl, ?_⟩
  rcases q with ⟨hb, q⟩ | ⟨hb, q⟩
  · rw [decide_eq_true hb]
    refine iteT ?_
    walk_at "rd"
    exact r_mk0 (x := "Ended") rfl fun H' s' => q H' s'
  rw [decide_eq_false hb]
  refine iteF ?_
  walk_at "rd"
  walk_at "if"
  obtain ⟨dx, B, xs, p, qq, e1, e2, e3, e4, e5, e6, e7⟩ := hf.last
  refine ⟨f, _, dx, _, _, rfl, e1, T.cl_Filling, T.n_Filling_size, rfl, ?_⟩
  walk_at "rd"
  refine ⟨u, t, 0, _, rfl, hu, _, rfl, ?_⟩
  rcases q with ⟨bad, q⟩ | ⟨pc, rfl, hp, q⟩
  · rw [bad]
    refine iteT ?_
    walk_at "rd"
    exact r_mk0 (x := "BadPicture") rfl fun H' s' => q H' s'
  rw [isIn_nat (by omega) (by omega)]
  refine iteF ?_
  walk_at "rd"
  refine ⟨f, _, dx, _, _, rfl, e1, T.cl_Filling, T.n_Filling_states, rfl, ?_⟩
  walk_at "rd"
  refine r_ixA e2 e5 ?_
  walk_at "rd"
  refine r_gtup (SqT.of e6) rfl ?_
  walk_at "rd"
  refine ⟨⟨_, SqT.of e7⟩, fun D nD => ?_⟩
  have hlen := finL_len h n l
  refine lc_filt walk_tup (finL h n l).1 (fun x => decide (x ≠ pc)) (natsV_length _).symm (by rw [natsV_length]; omega) nD (fun H' s' => SqT.of (s' _ _ e7)) y_nats ?_ ?_
  · intro e H4 A' B' _ s4 kA kB
    walk_at "rd"
    refine ⟨rfl, ?_⟩
    walk_at "rd"
    rw [show (!decide ((e : Int) = (pc : Int))) = decide (e ≠ pc) from by by_cases z : e = pc <;> simp [z] <;> omega]
    cases z : decide (e ≠ pc) with
    | true =>
      refine iteT ?_
      walk_at "rd"
      exact kB z
    | false => exact iteF (kA z)
  intro H4 s4 hD4
  walk_at "rd"
  refine ⟨D, _, rfl, .inl ⟨SqL.of hD4, fun lf nlf => ?_⟩⟩
  have t5 := same_add s4 nlf (o := .tup (natsV ((finL h n l).1.filter fun x => decide (x ≠ pc))))
  have hlf : upd H4 lf (.tup (natsV ((finL h n l).1.filter fun x => decide (x ≠ pc)))) lf = some (.tup (natsV ((finL h n l).1.filter fun x => decide (x ≠ pc)))) := upd_same
  generalize upd H4 lf (.tup (natsV ((finL h n l).1.filter fun x => decide (x ≠ pc)))) = H5 at t5 hlf
  walk_at "rd"
  refine ⟨f, _, dx, _, _, rfl, t5 _ _ e1, T.cl_Filling, T.n_Filling_states, rfl, ?_⟩
  walk_at "rd"
  refine ⟨ty_lst (t5 _ _ e2), ?_⟩
  walk_at "rd"
  refine ⟨lf, _, rfl, .inr (SqT.of hlf), ?_⟩
  walk_at "rd"
  refine ⟨qq, _, rfl, .inr (SqT.of (t5 _ _ e7)), ?_⟩
  walk_at "rd"
  refine .inr ⟨_, rfl, ?_⟩
  walk_at "rd"
  refine ⟨by show 2 ≤ sizeLine; decide, fun np nnp => ?_⟩
  walk_at "rd"
  have es : (((finL h n l).2 : Int) + if decide (((natsV ((finL h n l).1.filter fun x => decide (x ≠ pc))).length : Int) = ((natsV (finL h n l).1).length : Int)) = true then 1 else 0) = ((finL h n (l ++ [pc])).2 : Int) := by
    rw [finL_snoc, natsV_length, natsV_length]
    unfold finS
    by_cases z : ((finL h n l).1.filter fun x => decide (x ≠ pc)).length = (finL h n l).1.length
    · rw [decide_eq_true (show (((finL h n l).1.filter fun x => decide (x ≠ pc)).length : Int) = ((finL h n l).1.length : Int) by omega), if_pos z, if_pos rfl]
      show _ = (((finL h n l).2 + 1 : Nat) : Int)
      omega
    · have z2 : ¬ ((((finL h n l).1.filter fun x => decide (x ≠ pc)).length : Int) = ((finL h n l).1.length : Int)) := by omega
      rw [decide_eq_false z2, if_neg z, if_neg (by decide)]
      show _ = (((finL h n l).2 + 0 : Nat) : Int)
      omega
  rw [es]
  have ef : (finL h n l).1.filter (fun x => decide (x ≠ pc)) = (finL h n (l ++ [pc])).1 := by rw [finL_snoc]; rfl
  rw [ef] at hlf
  have t6 := same_add t5 nnp (o := .tup [.ref lf, .int ((finL h n (l ++ [pc])).2 : Int)])
  have hnp : upd H5 np (.tup [.ref lf, .int ((finL h n (l ++ [pc])).2 : Int)]) np = some (.tup [.ref lf, .int ((finL h n (l ++ [pc])).2 : Int)]) := upd_same
  have hlf6 := same_new (o := .tup [.ref lf, .int ((finL h n (l ++ [pc])).2 : Int)]) nnp _ _ hlf
  generalize upd H5 np (.tup [.ref lf, .int ((finL h n (l ++ [pc])).2 : Int)]) = H6 at t6 hnp hlf6
  refine r_append (t6 _ _ e2) (by omega) ?_
  walk_at "rd"
  have m7 : Mov f S H (upd H6 S (.lst (xs ++ [.ref np]))) := (Mov.same hf.refl t6).put (.inr rfl)
  have m67 : Mov f S H6 (upd H6 S (.lst (xs ++ [.ref np]))) := (FilAt.same t6 hf).refl.put (.inr rfl)
  have hS7 : upd H6 S (.lst (xs ++ [.ref np])) S = some (.lst (xs ++ [.ref np])) := upd_same
  have hf7 : upd H6 S (.lst (xs ++ [.ref np])) f = some (.ins (fA K "Filling") dx (filF n W S B)) := by rw [upd_ne hf.ne]; exact t6 _ _ e1
  generalize upd H6 S (.lst (xs ++ [.ref np])) = H7 at *
  refine ⟨f, _, dx, _, _, rfl, hf7, T.cl_Filling, T.n_Filling_brought, rfl, ?_⟩
  walk_at "rd"
  refine ⟨by show 1 ≤ sizeLine; decide, fun p1 np1 => ?_⟩
  walk_at "rd"
  have t8 := same_new (o := .tup [.int (pc : Int)]) np1
  have h8 := upd_same (H := H7) (a := p1) (o := .tup [.int (pc : Int)])
  generalize upd H7 p1 (.tup [.int (pc : Int)]) = H8 at t8 h8
  refine r_catN (t8 _ _ (m7.tup e3)) h8 (by simp) (by rw [natsV_length]; show l.length + 1 < 100000; omega) fun B2 H9 s9 h9 => ?_
  have e : natsV l ++ [V.int (pc : Int)] = natsV (l ++ [pc]) := by unfold natsV; rw [List.map_append]; rfl
  rw [e] at h9
  walk_at "rd"
  have s79 := t8.trans s9
  have m9 := m7.same s79
  have f9 := s79 _ _ hf7
  refine ⟨f, _, dx, _, rfl, f9, T.cl_Filling, T.n_Filling_brought, by show 4 < 1000; decide, ?_⟩
  have m10 := m9.put (p := f) (o := .ins (fA K "Filling") dx (putF "brought" (.ref B2) (filF n W S B))) (.inl rfl)
  have off : ∀ {a : Addr} {ys : List V}, H9 a = some (.tup ys) → a ≠ f := fun e z => by rw [z, f9] at e; cases e
  have m79 : Mov f S H6 H9 := m67.same s79
  refine q _ m10 (hf.grow m10 e2 upd_same (by rw [upd_ne hf.ne.symm]; exact s79 _ _ hS7) (by rw [upd_ne (off h9)]; exact h9) ⟨lf, ?_, ?_⟩)
  · rw [upd_ne (off (m79.tup hnp))]
    exact m79.tup hnp
  · rw [upd_ne (off (m79.tup hlf6))]
    exact m79.tup hlf6

end
section
variable {P : Program} {w : World} {K : Fr0} {mg : Str → Option Value} {base : Heap}
theorem ok_Filling_undo (T : Txt K mg) : OkM P w K mg base CX0 1 "Filling" "undo" ["self"] (spUndo K) := by
  refine T.d_Filling_undo.ok sc_Filling_undo bd_Filling_undo (fun vs H Q E h => by obtain ⟨f, S, W, h, n, l, rfl, _⟩ := h; rfl) (fun cdv A outer s H vs Q E hr h => ?_)
  obtain ⟨f, S, W, h, n, l, rfl, hf, hl, q⟩ := h
  obtain ⟨dx, B, xs, p, qq, e1, e2, e3, e4, e5, e6, e7⟩ := hf.last
  refine ⟨_, PSs.nox (pss_cons (ps_if (pt_cmpR op_eq (pe_callB (lenK (K := K) rfl) rfl T.b_len (by decide +kernel) (pa_cons (pe_fld (pv 0) rfl) pa_nil)) pe_int (nomark _)) (pss_one (ps_ret pe_bl)) pss_nil)
      (pss_cons (ps_expr (pe_bm0 PySem.F.plainAttrs_list PySem.F.slot_list_pop PySem.F.type_list_pop mt_pop (pe_fld (pv 0) rfl)))
      (pss_cons (ps_fld (pv 0) (pe_slice sl_tup (pe_fld (pv 0) rfl) po_none (po_some (pe_un un_neg pe_int))) rfl)
      (pss_one (ps_ret pe_bl))))), ?_⟩
  walk_at "k0"
  walk_at "rd"
  walk_at "if"
  refine ⟨f, _, dx, _, _, rfl, e1, T.cl_Filling, T.n_Filling_brought, rfl, ?_⟩
  walk_at "rd"
  refine ⟨B, _, rfl, .inr (SqT.of e3), ?_⟩
  rw [natsV_length]
  walk_at "rd"
  rcases q with ⟨rfl, q⟩ | ⟨ne, q⟩
  · refine r_dec (fun _ => ?_) (fun z => absurd rfl z)
    walk_at "rd"
    exact q
  have pos : 0 < l.length := List.length_pos_iff.mpr ne
  refine r_dec (fun z => ?_) (fun _ => ?_)
  · exfalso
    have : (l.length : Int) = 0 := z
    omega
  walk_at "rd"
  refine ⟨f, _, dx, _, _, rfl, e1, T.cl_Filling, T.n_Filling_states, rfl, ?_⟩
  walk_at "rd"
  refine ⟨ty_lst e2, ?_⟩
  walk_at "rd"
  obtain ⟨y, hy⟩ : ∃ y, xs[xs.length - 1]? = some y := ⟨xs[xs.length - 1], List.getElem?_eq_getElem (by omega)⟩
  refine ⟨S, xs, y, rfl, rfl, e2, hy, ?_⟩
  walk_at "rd"
  have m7 : Mov f S H (upd H S (.lst xs.dropLast)) := hf.refl.put (.inr rfl)
  have hS7 : upd H S (.lst xs.dropLast) S = some (.lst xs.dropLast) := upd_same
  have hf7 : upd H S (.lst xs.dropLast) f = some (.ins (fA K "Filling") dx (filF n W S B)) := by rw [upd_ne hf.ne]; exact e1
  generalize upd H S (.lst xs.dropLast) = H7 at *
  refine ⟨f, _, dx, _, _, rfl, hf7, T.cl_Filling, T.n_Filling_brought, rfl, ?_⟩
  walk_at "rd"
  have cutE : cutV (natsV l) none (some (-1)) = natsV l.dropLast := by
    rw [cutV_map]
    congr 1
    unfold cutL
    have a1 : HT.sIx l.length 0 none = 0 := rfl
    have a2 : HT.sIx l.length l.length (some (-1)) = l.length - 1 := by
      simp only [HT.sIx]
      rw [if_pos (by decide)]
      omega
    rw [a1, a2, List.drop_zero, Nat.sub_zero, List.dropLast_eq_take]
  refine ⟨B, _, rfl, SqT.of (m7.tup e3), fun z => ?_, fun B2 nB2 => ?_⟩
  · exfalso
    have a2 : HT.sIx (natsV l).length (natsV l).length (some (-1)) = (natsV l).length - 1 := by
      simp only [HT.sIx]
      rw [if_pos (by decide), natsV_length]
      omega
    have z := z.2
    rw [a2, natsV_length] at z
    omega
  rw [cutE]
  have t9 := same_new (o := .tup (natsV l.dropLast)) nB2
  have h9 := upd_same (H := H7) (a := B2) (o := .tup (natsV l.dropLast))
  generalize upd H7 B2 (.tup (natsV l.dropLast)) = H9 at t9 h9
  walk_at "rd"
  have f9 := t9 _ _ hf7
  have m9 := m7.same t9
  refine ⟨f, _, dx, _, rfl, f9, T.cl_Filling, T.n_Filling_brought, by show 4 < 1000; decide, ?_⟩
  have m10 := m9.put (p := f) (o := .ins (fA K "Filling") dx (putF "brought" (.ref B2) (filF n W S B))) (.inl rfl)
  have nBf : B2 ≠ f := fun z => by rw [z, f9] at h9; cases h9
  walk_at "rd"
  refine q _ m10 (hf.shrink ne m10 e2 upd_same (by rw [upd_ne hf.ne.symm]; exact t9 _ _ hS7) (by rw [upd_ne nBf]; exact h9))

end
section
variable {P : Program} {w : World} {K : Fr0} {mg : Str → Option Value} {base : Heap}
theorem ok_Filling_len (T : Txt K mg) : OkM P w K mg base CX0 1 "Filling" "__len__" ["self"] (spFLen K) := by
  refine T.d_Filling_len.ok sc_Filling_len bd_Filling_len (fun vs H Q E h => by obtain ⟨f, S, W, h, n, l, rfl, _⟩ := h; rfl) (fun cdv A outer s H vs Q E hr h => ?_)
  obtain ⟨f, S, W, h, n, l, rfl, hf, q⟩ := h
  obtain ⟨dx, B, xs, p, qq, e1, e2, e3, e4, e5, e6, e7⟩ := hf.last
  refine ⟨_, PSs.nox (pss_one (ps_ret (pe_callB (lenK (K := K) rfl) rfl T.b_len (by decide +kernel) (pa_cons (pe_fld (pv 0) rfl) pa_nil)))), ?_⟩
  walk_at "k0"
  walk_at "rd"
  refine ⟨f, _, dx, _, _, rfl, e1, T.cl_Filling, T.n_Filling_brought, rfl, ?_⟩
  walk_at "rd"
  refine ⟨B, _, rfl, .inr (SqT.of e3), ?_⟩
  rw [natsV_length]
  exact q

end
section
variable {P : Program} {w : World} {K : Fr0} {mg : Str → Option Value} {base : Heap}
theorem ok_Filling_copy (T : Txt K mg) : OkM P w K mg base CX0 8 "Filling" "copy" ["self"] (spCopy K) := by
  refine T.d_Filling_copy.ok sc_Filling_copy bd_Filling_copy (fun vs H Q E h => by obtain ⟨f, S, W, h, b, c, k, n, l, rfl, _⟩ := h; rfl) (fun cdv A outer s H vs Q E hr h => ?_)
  obtain ⟨f, S, W, h, b, c, k, n, l, rfl, hf, hw, n1, n3, q⟩ := h
  obtain ⟨dx, B, xs, p, qq, e1, e2, e3, e4, e5, e6, e7⟩ := hf.last
  refine ⟨_, PSs.nox (pss_cons (ps_set (i := 1) sc_Filling_copy.nd rfl (Or.inl rfl) (pe_mk T.mk_Filling (ok_Filling_init T) (hr.mono (by decide)) passL T.g_Filling (pa_cons (pe_fld (pv 0) rfl) (pa_cons (pe_fld (pv 0) rfl) pa_nil))))
      (pss_cons (ps_fld (pv 1) (pe_callTy call_list_of rfl T.b_list (by decide +kernel) (pa_cons (pe_fld (pv 0) rfl) pa_nil)) rfl)
      (pss_cons (ps_fld (pv 1) (pe_fld (pv 0) rfl) rfl)
      (pss_one (ps_ret (pv 1)))))), ?_⟩
  walk_at "k0"
  walk_at "rd"
  refine ⟨f, _, dx, _, _, rfl, e1, T.cl_Filling, T.n_Filling_source, rfl, ?_⟩
  walk_at "rd"
  refine ⟨f, _, dx, _, _, rfl, e1, T.cl_Filling, T.n_Filling_size, rfl, ?_⟩
  walk_at "rd"
  refine c_fill hw n1 n3 fun g T0 H1 ng _ _ s1 hg => ?_
  walk_at "rd"
  obtain ⟨dy, B1, ps1, g1, g2, g3, _, _⟩ := hg
  refine ⟨f, _, dx, _, _, rfl, s1 _ _ e1, T.cl_Filling, T.n_Filling_states, rfl, ?_⟩
  walk_at "rd"
  refine ⟨S, xs, rfl, .inl (SqL.of (s1 _ _ e2)), fun T2 nT2 => ?_⟩
  have t2 := same_new (o := .lst xs) nT2
  have hT2 := upd_same (H := H1) (a := T2) (o := .lst xs)
  have nT0 : H T2 = none := s1.free nT2
  generalize upd H1 T2 (.lst xs) = H2 at t2 hT2
  walk_at "rd"
  have gg := t2 _ _ g1
  refine ⟨g, _, dy, _, rfl, gg, T.cl_Filling, T.n_Filling_states, by show 4 < 1000; decide, ?_⟩
  walk_at "rd"
  have nTg : T2 ≠ g := fun z => by rw [z, gg] at hT2; cases hT2
  have s2 : Same H H2 := s1.trans t2
  have s3 : Same H (upd H2 g (.ins (fA K "Filling") dy (putF "states" (.ref T2) (filF n W T0 B1)))) := fun y o ey => by rw [upd_ne (ne_of_none ey ng)]; exact s2 _ _ ey
  have g3' : upd H2 g (.ins (fA K "Filling") dy (putF "states" (.ref T2) (filF n W T0 B1))) g = some (.ins (fA K "Filling") dy (filF n W T2 B1)) := upd_same
  have hT3 : upd H2 g (.ins (fA K "Filling") dy (putF "states" (.ref T2) (filF n W T0 B1))) T2 = some (.lst xs) := by rw [upd_ne nTg]; exact hT2
  generalize upd H2 g (.ins (fA K "Filling") dy (putF "states" (.ref T2) (filF n W T0 B1))) = H3 at s3 g3' hT3
  refine ⟨f, _, dx, _, _, rfl, s3 _ _ e1, T.cl_Filling, T.n_Filling_brought, rfl, ?_⟩
  walk_at "rd"
  refine ⟨g, _, dy, _, rfl, g3', T.cl_Filling, T.n_Filling_brought, by show 4 < 1000; decide, ?_⟩
  walk_at "rd"
  have s4 : Same H (upd H3 g (.ins (fA K "Filling") dy (putF "brought" (.ref B) (filF n W T2 B1)))) := fun y o ey => by rw [upd_ne (ne_of_none ey ng)]; exact s3 _ _ ey
  exact q g T2 _ ng nT0 nTg.symm s4 (hf.twin s4 e1 e2 upd_same (by rw [upd_ne nTg]; exact hT3))

end
section
variable {P : Program} {w : World} {K : Fr0} {mg : Str → Option Value} {base : Heap}
theorem draw_of {x : Int} {m : Nat} (m0 : 0 < m) : ∃ d : Nat, x % (m : Int) = (d : Int) ∧ d < m := by
  have h1 := Int.emod_nonneg x (show (m : Int) ≠ 0 by omega)
  have h2 := Int.emod_lt_of_pos x (show (0 : Int) < m by omega)
  exact ⟨(x % (m : Int)).toNat, by omega, by omega⟩
theorem ok_law_takenS (T : Txt K mg) : Ok P w K mg base CX0 1 "_law_taken" ["_law_row", "_law_many"] (spTakenS K) := by
  refine T.d_law_taken.ok sc_law_taken bd_law_taken (fun vs H Q E h => by obtain ⟨r, m, s, ns, rfl, _⟩ := h; rfl) (fun cdv A outer s H vs Q E hr h => ?_)
  obtain ⟨r, m, s, ns, rfl, ⟨p, z, c, h1, h2, h3⟩, m0, m1, q⟩ := h
  have m0' : (0 : Int) < (m : Int) := by omega
  have m1' : CDiv c (m : Int) := ⟨m0', by omega⟩
  refine ⟨_, PSs.nox (pss_cons (ps_if (pt_cmpR op_gt (pe_ix (ixlK (K := K) rfl) (pv 0) pe_int (fun _ _ => rfl)) pe_int (nomark _)) (pss_cons (ps_set (i := 2) sc_law_taken.nd rfl (Or.inl rfl) (pe_op op_mod (pe_callTy call_int1 rfl T.b_int (by decide +kernel) (pa_cons (pe_ix (ixlK (K := K) rfl) (pv 0) pe_int (fun _ _ => rfl)) pa_nil)) (pv 1)))
      (pss_cons (ps_asg (pe_op op_fdiv (pe_ix (ixlK (K := K) rfl) (pv 0) pe_int (fun _ _ => rfl)) (pv 1)) (pg_sub (pv 0) pe_int set_list))
      (pss_one (ps_ret (pv 2))))) pss_nil)
      (pss_cons (ps_asg (pe_op op_add (pe_ix (ixlK (K := K) rfl) (pv 0) pe_int (fun _ _ => rfl)) pe_int) (pg_sub (pv 0) pe_int set_list))
      (pss_cons (ps_if (pt_cmpR op_gt (pe_ix (ixlK (K := K) rfl) (pv 0) pe_int (fun _ _ => rfl)) (pe_callB (lenK (K := K) rfl) rfl T.b_len (by decide +kernel) (pa_cons (pe_ix (ixlK (K := K) rfl) (pv 0) pe_int (fun _ _ => rfl)) pa_nil)) (nomark _)) (pss_cons (ps_asg (pe_op op_mod (pe_callTy call_int1 rfl T.b_int (by decide +kernel) (pa_cons (pe_op op_add (pe_op op_mul (pe_ix (ixlK (K := K) rfl) (pv 0) pe_int (fun _ _ => rfl)) pe_int) pe_int) pa_nil)) pe_int) (pg_sub (pv 0) pe_int set_list))
      (pss_one (ps_ret (pe_op op_mod (pe_callTy call_int1 rfl T.b_int (by decide +kernel) (pa_cons (pe_op op_fdiv (pe_ix (ixlK (K := K) rfl) (pv 0) pe_int (fun _ _ => rfl)) pe_int) pa_nil)) (pv 1))))) pss_nil)
      (pss_cons (ps_set (i := 3) sc_law_taken.nd rfl (Or.inl rfl) (pe_ix (ixlK (K := K) rfl) (pe_ix (ixlK (K := K) rfl) (pv 0) pe_int (fun _ _ => rfl)) (pe_op op_sub (pe_ix (ixlK (K := K) rfl) (pv 0) pe_int (fun _ _ => rfl)) pe_int) (fun _ _ => rfl)))
      (pss_cons (ps_asg (pe_op op_mod (pe_callTy call_int1 rfl T.b_int (by decide +kernel) (pa_cons (pe_op op_add (pe_op op_add (pe_op op_mul (pe_ix (ixlK (K := K) rfl) (pv 0) pe_int (fun _ _ => rfl)) pe_int) (pv 3)) pe_int) pa_nil)) pe_int) (pg_sub (pv 0) pe_int set_list))
      (pss_cons (ps_if (pt_cmpR op_ge (pv 3) (pe_op op_pow pe_int pe_int) (nomark _)) (pss_one (ps_asg (pe_op op_fdiv (pv 3) (pv 1)) (pg_sub (pv 0) pe_int set_list))) pss_nil)
      (pss_one (ps_ret (pe_op op_mod (pe_callTy call_int1 rfl T.b_int (by decide +kernel) (pa_cons (pv 3) pa_nil)) (pv 1)))))))))), ?_⟩
  walk_at "k0"
  walk_at "rd"
  walk_at "if"
  refine r_dec (fun hc => ?_) (fun hc => ?_)
  · walk_at "rd"
    refine r_i m0' ?_
    obtain ⟨d, ed, hd⟩ := draw_of (x := c) m0
    rw [ed]
    walk_at "rd"
    refine r_i m1' ?_
    walk_at "rd"
    refine r_setA _ h1 rfl rfl fun H1 g1 c1 => ?_
    walk_at "rd"
    exact q d _ hd c1 (RowS.mk' g1 c1 h2 h3)
  · walk_at "rd"
    have e1 : ((p : Int) + 1) = ((p + 1 : Nat) : Int) := by omega
    rw [e1]
    refine r_setA [.ref s, .int ((p + 1 : Nat) : Int), .int z, .int c] h1 rfl rfl fun H1 g1 c1 => ?_
    have s1 := sql_off c1 h3 h2
    walk_at "rd"
    walk_at "if"
    refine ⟨s, _, rfl, .inl s1, ?_⟩
    walk_at "rd"
    refine r_dec (fun hl => ?_) (fun hl => ?_)
    · walk_at "rd"
      refine r_i (.inr ⟨by decide, by decide⟩) ?_
      walk_at "rd"
      refine r_i (by decide) ?_
      walk_at "rd"
      refine r_setA _ g1 rfl rfl fun H2 g2 c2 => ?_
      walk_at "rd"
      refine r_i ⟨by decide, by decide⟩ ?_
      walk_at "rd"
      refine r_i m0' ?_
      obtain ⟨d, ed, hd⟩ := draw_of (x := (z * 48271 + 11) % 2147483647 / 7) m0
      rw [ed]
      exact q d _ hd (c1.tr c2) (RowS.mk' g2 c2 s1 h3)
    · have hl' : p < ns.length := by
        rw [List.length_map] at hl
        omega
      walk_at "rd"
      have e2 : (((p + 1 : Nat) : Int) - 1) = (p : Int) := by omega
      rw [e2]
      obtain ⟨x, hx⟩ : ∃ x, ns[p]? = some x := ⟨_, List.getElem?_eq_getElem hl'⟩
      refine r_ixS s1 (atI_nat (v := .int x) (by rw [List.getElem?_map, hx]; rfl)) ?_
      walk_at "rd"
      refine r_i (.inr ⟨by decide, by decide⟩) ?_
      walk_at "rd"
      refine r_i (by decide) ?_
      walk_at "rd"
      refine r_setA [.ref s, .int ((p + 1 : Nat) : Int), .int ((z * 48271 + x + 11) % 2147483647), .int c] g1 rfl rfl fun H2 g2 c2 => ?_
      have s2 := sql_off c2 h3 s1
      obtain ⟨d, ed, hd⟩ := draw_of (x := x) m0
      walk_at "rd"
      walk_at "if"
      refine r_i ⟨by decide, by decide, by decide⟩ ?_
      walk_at "rd"
      refine r_dec (fun hg => ?_) (fun hg => ?_)
      · walk_at "rd"
        refine r_i ⟨m0', m1'.2⟩ ?_
        walk_at "rd"
        refine r_setA _ g2 rfl rfl fun H3 g3 c3 => ?_
        walk_at "rd"
        refine r_i m0' ?_
        rw [ed]
        exact q d _ hd (c1.tr (c2.tr c3)) (RowS.mk' g3 c3 s2 h3)
      · walk_at "rd"
        refine r_i m0' ?_
        rw [ed]
        exact q d _ hd (c1.tr c2) ⟨p + 1, _, c, g2, s2, h3⟩
theorem ok_law_taken (T : Txt K mg) : Ok P w K mg base CX0 1 "_law_taken" ["_law_row", "_law_many"] (spTaken K) := by
  refine (ok_law_takenS T).imp fun vs H Q E h => ?_
  obtain ⟨r, m, rfl, ⟨s, ns, hr⟩, m0, m1, q⟩ := h
  exact ⟨r, m, s, ns, rfl, hr, m0, m1, fun d H' hd c h' => q d H' hd c ⟨s, ns, h'⟩⟩

end
section
variable {P : Program} {w : World} {K : Fr0} {mg : Str → Option Value} {base : Heap}
def spLFrac (K : Fr0) : Sp := fun vs H Q _ => ∃ (a b : Int) (k : Nat), vs = [.int a, .int b] ∧ 0 < b ∧ a.natAbs < 2 ^ k ∧ b.natAbs < 2 ^ k ∧ k ≤ 8999 ∧ NewFr K H Q (Rat.divInt a b)
theorem abs_ifL (a : Int) : (if a < 0 then -a else a) = (a.natAbs : Int) := by split <;> omega
theorem ok_law_frac (T : Txt K mg) : Ok P w K mg base CX0 1 "_law_frac" ["_law_number", "_law_parts"] (spLFrac K) := by
  refine T.d_law_frac.ok sc_law_frac bd_law_frac (fun vs H Q E h => by obtain ⟨a, b, k, rfl, _⟩ := h; rfl) (fun cdv A outer s H vs Q E hr h => ?_)
  obtain ⟨a, b, k, rfl, b0, ha, hb, hk, q⟩ := h
  obtain ⟨n, rfl⟩ := Int.eq_ofNat_of_zero_le (Int.le_of_lt b0)
  refine ⟨_, PSs.nox (pss_cons (ps_par (i := 2) (j := 3) rfl sc_law_frac.nd rfl rfl (by decide) rfl rfl (pa_cons (pe_callB call_abs rfl T.b_abs (by decide +kernel) (pa_cons (pv 0) pa_nil)) (pa_cons (pv 1) pa_nil)) (by rfl))
      (pss_cons (ps_while PassesOwn.never (pt_cmpR op_gt (pv 3) pe_int (nomark _)) (pss_one (ps_par (i := 2) (j := 3) rfl sc_law_frac.nd rfl rfl (by decide) rfl rfl (pa_cons (pv 3) (pa_cons (pe_op op_mod (pv 2) (pv 3)) pa_nil)) (by rfl))))
      (pss_one (ps_ret (pe_tup (pa_cons (pe_op op_fdivW (pv 0) (pv 2)) (pa_cons (pe_op op_fdivW (pv 1) (pv 2)) pa_nil))))))), ?_⟩
  walk_at "k0"
  walk_at "rd"
  rw [abs_ifL]
  refine (r_while (fun m σ H' => ∃ x y : Nat, σ = [some (.int a), some (.int n), some (.int x), some (.int y)] ∧ H' = H ∧ m = y ∧ Int.gcd x y = Int.gcd a n) n
    ⟨_, _, rfl, rfl, rfl, by unfold Int.gcd; rw [Int.natAbs_natCast]⟩ (fun σ H q q' h e => ?_) ?_)
  · obtain ⟨v, e1, i, j, e2, e3, c, e4, e5⟩ := e
    exact ⟨v, e1, i, j, e2, e3, c, e4, h _ _ e5⟩
  rintro m σ H' ⟨x, y, rfl, rfl, rfl, hg⟩
  walk_at "rd"
  refine r_dec (fun h0 => ?_) (fun h0 => ?_)
  · have h0' : (0 : Int) < (m : Int) := h0
    walk_at "rd"
    refine r_i h0' ?_
    walk_at "rd"
    have e : (x : Int) % (m : Int) = ((x % m : Nat) : Int) := by rw [Int.natCast_emod]
    rw [e]
    have lt : x % m < m := Nat.mod_lt _ (by omega)
    refine ⟨x % m, lt, m, x % m, rfl, rfl, rfl, ?_⟩
    rw [← hg, Int.natCast_emod]
    exact gcd_turn'
  · have h1 : m = 0 := by
      have h2 : ¬ (0 : Int) < (m : Int) := h0
      omega
    subst h1
    have e : (x : Int) = (Int.gcd a n : Int) := by
      rw [← hg]
      simp [Int.gcd]
    have g0 : 0 < Int.gcd a n := gcd_pos (by omega)
    have g1 : Int.gcd a n ≤ (n : Int).natAbs := Nat.le_of_dvd (by omega) (Int.gcd_dvd_natAbs_right a n)
    have g2 : ((Int.gcd a n : Nat) : Int).natAbs < 2 ^ k := by rw [Int.natAbs_natCast]; omega
    rw [e]
    walk_at "rd"
    refine r_i (divW_of (by omega) g2 hk) ?_
    walk_at "rd"
    refine r_i (divW_of (by omega) g2 hk) ?_
    walk_at "rd"
    refine ⟨by show 2 ≤ sizeLine; decide, fun p np => q _ _ (same_new np) ?_⟩
    rw [fr, num_of b0, den_of b0]
    exact dp_pr (SqT.of upd_same)

end
section
variable {P : Program} {w : World} {K : Fr0} {mg : Str → Option Value} {base : Heap}
def spLSum (K : Fr0) : Sp := fun vs H Q _ => ∃ (a b c d : Int) (k l : Nat), TwoFr K H vs a b c d k l ∧ (0 < b ∧ 0 < d) ∧ NewFr K H Q (Rat.divInt a b + Rat.divInt c d)
theorem c_lsum {K : Fr0} {H : Hp} {u v : V} {p q : Rat} {k l : Nat} {Q : VK} {E : XK} (h1 : Dp K H u (fr p)) (h2 : Dp K H v (fr q)) (s1 : Sz p k) (s2 : Sz q l) (h : k + l + 1 ≤ 8999) (n : NewFr K H Q (p + q)) : spLSum K ([u, v] ++ []) H Q E :=
  ⟨_, _, _, _, k, l, .of h1 h2 s1 s2 h, ⟨den_pos p, den_pos q⟩, by rw [q_eq, q_eq]; exact n⟩
theorem c_lsum2 {K : Fr0} {H : Hp} {u v : V} {p q : Rat} {k l : Nat} {Q : VK} {E : XK} (h1 : FrAt K H u p k) (h2 : FrAt K H v q l) (h : k + l + 1 ≤ 8999) (n : NewFr K H Q (p + q)) : spLSum K ([u, v] ++ []) H Q E := by
  obtain ⟨a, b, d1, b0, rfl, sa, sb⟩ := h1
  obtain ⟨c, d, d2, c0, rfl, sc, sd⟩ := h2
  exact ⟨a, b, c, d, k, l, ⟨u, v, rfl, d1, d2, ⟨by omega, by omega⟩, sa, sb, sc, sd, h⟩, ⟨b0, c0⟩, n⟩
theorem ok_law_sum (T : Txt K mg) : Ok P w K mg base CX0 2 "_law_sum" ["_law_one", "_law_mate"] (spLSum K) := by
  refine T.d_law_sum.ok sc_law_sum bd_law_sum (fun vs H Q E h => by obtain ⟨a, b, c, d, k, l, ⟨u, v, rfl, _⟩, _⟩ := h; rfl) (fun cdv A outer s H vs Q E hr h => ?_)
  obtain ⟨a, b, c, d, k, l, ⟨u, v, rfl, h1, h2, ⟨hb, hd⟩, sa, sb, sc, sd, hk⟩, ⟨b0, d0⟩, q⟩ := h
  refine ⟨_, PSs.nox (pss_one (ps_ret (pe_f (ok_law_frac T) (hr.mono (by decide)) pass0 (pa_cons (pe_op op_add (pe_op op_mulW (pe_ix (ixtK (K := K) rfl) (pv 0) pe_int (fun _ _ => rfl)) (pe_ix (ixtK (K := K) rfl) (pv 1) pe_int (fun _ _ => rfl))) (pe_op op_mulW (pe_ix (ixtK (K := K) rfl) (pv 1) pe_int (fun _ _ => rfl)) (pe_ix (ixtK (K := K) rfl) (pv 0) pe_int (fun _ _ => rfl)))) (pa_cons (pe_op op_mulW (pe_ix (ixtK (K := K) rfl) (pv 0) pe_int (fun _ _ => rfl)) (pe_ix (ixtK (K := K) rfl) (pv 1) pe_int (fun _ _ => rfl))) pa_nil))))), ?_⟩
  walk_at "k0"
  walk_at "rd"
  refine r_i (mulW_of sa sd (by omega)) ?_
  walk_at "rd"
  refine r_i (mulW_of sc sb (by omega)) ?_
  walk_at "rd"
  refine r_i (mulW_of sb sd (by omega)) ?_
  walk_at "rd"
  have z := sz_mul sc sb
  rw [Nat.add_comm] at z
  refine ⟨_, _, k + l + 1, rfl, Int.mul_pos b0 d0, sz_add (sz_mul sa sd) z, sz_mono (sz_mul sb sd) (Nat.le_succ _), hk, ?_⟩
  rw [← Rat.divInt_add_divInt _ _ hb hd]
  exact q

end
section
variable {P : Program} {w : World} {K : Fr0} {mg : Str → Option Value} {base : Heap}
def spLTimes (K : Fr0) : Sp := fun vs H Q _ => ∃ (a b c d : Int) (k l : Nat), TwoFr K H vs a b c d k l ∧ (0 < b ∧ 0 < d) ∧ NewFr K H Q (Rat.divInt a b * Rat.divInt c d)
theorem c_ltimes {K : Fr0} {H : Hp} {u v : V} {p q : Rat} {k l : Nat} {Q : VK} {E : XK} (h1 : Dp K H u (fr p)) (h2 : Dp K H v (fr q)) (s1 : Sz p k) (s2 : Sz q l) (h : k + l + 1 ≤ 8999) (n : NewFr K H Q (p * q)) : spLTimes K ([u, v] ++ []) H Q E :=
  ⟨_, _, _, _, k, l, .of h1 h2 s1 s2 h, ⟨den_pos p, den_pos q⟩, by rw [q_eq, q_eq]; exact n⟩
theorem c_ltimes2 {K : Fr0} {H : Hp} {u v : V} {p q : Rat} {k l : Nat} {Q : VK} {E : XK} (h1 : FrAt K H u p k) (h2 : FrAt K H v q l) (h : k + l + 1 ≤ 8999) (n : NewFr K H Q (p * q)) : spLTimes K ([u, v] ++ []) H Q E := by
  obtain ⟨a, b, d1, b0, rfl, sa, sb⟩ := h1
  obtain ⟨c, d, d2, c0, rfl, sc, sd⟩ := h2
  exact ⟨a, b, c, d, k, l, ⟨u, v, rfl, d1, d2, ⟨by omega, by omega⟩, sa, sb, sc, sd, h⟩, ⟨b0, c0⟩, n⟩
theorem ok_law_times (T : Txt K mg) : Ok P w K mg base CX0 2 "_law_times" ["_law_one", "_law_mate"] (spLTimes K) := by
  refine T.d_law_times.ok sc_law_times bd_law_times (fun vs H Q E h => by obtain ⟨a, b, c, d, k, l, ⟨u, v, rfl, _⟩, _⟩ := h; rfl) (fun cdv A outer s H vs Q E hr h => ?_)
  obtain ⟨a, b, c, d, k, l, ⟨u, v, rfl, h1, h2, ⟨hb, hd⟩, sa, sb, sc, sd, hk⟩, ⟨b0, d0⟩, q⟩ := h
  refine ⟨_, PSs.nox (pss_one (ps_ret (pe_f (ok_law_frac T) (hr.mono (by decide)) pass0 (pa_cons (pe_op op_mulW (pe_ix (ixtK (K := K) rfl) (pv 0) pe_int (fun _ _ => rfl)) (pe_ix (ixtK (K := K) rfl) (pv 1) pe_int (fun _ _ => rfl))) (pa_cons (pe_op op_mulW (pe_ix (ixtK (K := K) rfl) (pv 0) pe_int (fun _ _ => rfl)) (pe_ix (ixtK (K := K) rfl) (pv 1) pe_int (fun _ _ => rfl))) pa_nil))))), ?_⟩
  walk_at "k0"
  walk_at "rd"
  refine r_i (mulW_of sa sc (by omega)) ?_
  walk_at "rd"
  refine r_i (mulW_of sb sd (by omega)) ?_
  walk_at "rd"
  refine ⟨_, _, k + l, rfl, Int.mul_pos b0 d0, sz_mul sa sc, sz_mul sb sd, by omega, ?_⟩
  rw [← Rat.divInt_mul_divInt]
  exact q

end
section
variable {P : Program} {w : World} {K : Fr0} {mg : Str → Option Value} {base : Heap}
def spLTotal (K : Fr0) : Sp := fun vs H Q _ => ∃ (v : V) (qs : List Rat) (k l : Nat), vs = [v] ∧ Dp K H v (.list (qs.map fr)) ∧ SumSz qs k l ∧ NewFr K H Q qs.sum
theorem ok_law_total (T : Txt K mg) : Ok P w K mg base CX0 3 "_law_total" ["_law_some"] (spLTotal K) := by
  refine T.d_law_total.ok sc_law_total bd_law_total (fun vs H Q E h => by obtain ⟨v, qs, k, l, rfl, _⟩ := h; rfl) (fun cdv A outer s H vs Q E hr h => ?_)
  obtain ⟨v, qs, k, l, rfl, hv, hs, q⟩ := h
  obtain ⟨a, xs, rfl, h1, h2⟩ := dp_lst hv
  have len : xs.length = qs.length := by rw [dpA_len h2, List.length_map]
  refine ⟨_, PSs.nox (pss_cons (ps_set (i := 1) sc_law_total.nd rfl (Or.inl rfl) (pe_tup (pa_cons pe_int (pa_cons pe_int pa_nil))))
      (pss_cons (ps_for PassesOwn.never rfl (pi_list (pv 0)) (pg_name (i := 2) sc_law_total.nd rfl (Or.inl rfl)) (pss_one (ps_set (i := 1) sc_law_total.nd rfl (Or.inl rfl) (pe_f (ok_law_sum T) (hr.mono (by decide)) pass0 (pa_cons (pv 1) (pa_cons (pv 2) pa_nil))))))
      (pss_one (ps_ret (pv 1))))), ?_⟩
  walk_at "k0"
  walk_at "rd"
  refine ⟨by show 2 ≤ sizeLine; decide, fun p np => ?_⟩
  walk_at "rd"
  refine ⟨⟨_, sql_same (same_new np) h1⟩, ?_⟩
  refine for_list (K := K) (a := a) (xs := xs) (fun i σ H' => ∃ (u : V) (z : Option V), σ = [some (.ref a), some u, z] ∧ Same H H' ∧ Dp K H' u (fr (qs.take i).sum))
    ⟨_, _, rfl, same_new np, by rw [List.take_zero, List.sum_nil]; exact dp_pr (SqT.of upd_same)⟩ (fun i σ H' _ ⟨_, _, _, s, _⟩ => sql_same s h1) ?_ ?_
  · rintro i x σ H' hi ⟨u, z, rfl, s, hu⟩
    have hi2 : i < qs.length := by have := (List.getElem?_eq_some_iff.mp hi).1; omega
    obtain ⟨y, e1, e2⟩ := dpA_get (i := i) (dpA_same s h2) (d := fr qs[i]) (by rw [List.getElem?_map, List.getElem?_eq_getElem hi2]; rfl)
    obtain rfl : y = x := Option.some.inj (e1.symm.trans hi)
    walk_at "rd"
    refine c_lsum hu e2 (hs.part i (Nat.le_of_lt hi2)) (hs.each _ (List.getElem_mem hi2)) hs.fits fun u' H2 s2 h3 => ?_
    walk_at "rd"
    refine ⟨u', _, rfl, s.trans s2, ?_⟩
    rw [sum_take_succ qs i hi2]
    exact h3
  · rintro σ H' ⟨u, z, rfl, s, hu⟩
    walk_at "rd"
    rw [len, List.take_length] at hu
    exact q _ _ s hu

end
section
variable {P : Program} {w : World} {K : Fr0} {mg : Str → Option Value} {base : Heap}
def spDrawn (K : Fr0) : Sp := fun vs H Q _ => ∃ r : Addr, vs = [.ref r] ∧ RowAt K H r ∧ ∀ (h b c k : Nat) (H' : Hp) (p : Addr), DrawOk h b c k → H p = none → Chg r H H' → RowAt K H' r → DrawAt H' p h b c k → Q (.ref p) H'
theorem ok_law_drawn (T : Txt K mg) : Ok P w K mg base CX0 2 "_law_drawn" ["_law_row"] (spDrawn K) := by
  refine T.d_law_drawn.ok sc_law_drawn bd_law_drawn (fun vs H Q E h => by obtain ⟨r, rfl, _⟩ := h; rfl) (fun cdv A outer s H vs Q E hr h => ?_)
  obtain ⟨r, rfl, hR, q⟩ := h
  refine ⟨_, PSs.nox (pss_cons (ps_set (i := 1) sc_law_drawn.nd rfl (Or.inl rfl) (pe_disp (pps_cons pe_str (pe_ix (ixlK (K := K) rfl) (pe_lst (pa_cons pe_int (pa_cons pe_int (pa_cons pe_int (pa_cons pe_int (pa_cons pe_int pa_nil)))))) (pe_f (ok_law_taken T) (hr.mono (by decide)) pass0 (pa_cons (pv 0) (pa_cons pe_int pa_nil))) (fun _ _ => rfl)) (pps_cons pe_str (pe_ix (ixlK (K := K) rfl) (pe_lst (pa_cons pe_int (pa_cons pe_int (pa_cons pe_int (pa_cons pe_int (pa_cons pe_int (pa_cons pe_int pa_nil))))))) (pe_f (ok_law_taken T) (hr.mono (by decide)) pass0 (pa_cons (pv 0) (pa_cons pe_int pa_nil))) (fun _ _ => rfl)) pps_nil)) (by rfl) (by rfl) (fun z => by cases z) (by decide)))
      (pss_cons (ps_dput (hu_of hr) (pv 1) pe_str (pe_ix (ixlK (K := K) rfl) (pe_lst (pa_cons pe_int (pa_cons pe_int (pa_cons pe_int (pa_cons pe_int (pa_cons pe_int (pa_cons pe_int (pa_cons pe_int (pa_cons pe_int pa_nil))))))))) (pe_f (ok_law_taken T) (hr.mono (by decide)) pass0 (pa_cons (pv 0) (pa_cons pe_int pa_nil))) (fun _ _ => rfl)) rfl)
      (pss_cons (ps_dput (hu_of hr) (pv 1) pe_str (pe_op op_add pe_int (pe_f (ok_law_taken T) (hr.mono (by decide)) pass0 (pa_cons (pv 0) (pa_cons pe_int pa_nil)))) rfl)
      (pss_one (ps_ret (pv 1)))))), ?_⟩
  walk_at "k0"
  walk_at "rd"
  refine r_disp fun p np => ?_
  walk_at "rd"
  have rp : p ≠ r := fun z => by
    obtain ⟨l, hl⟩ := hR.lst
    rw [z, hl] at np
    cases np
  have hRp := hR.same (same_new (o := .dK []) np)
  have hp0 : upd H p (.dK []) p = some (.dK []) := upd_same
  have g0 : Same H (upd H p (.dK [])) := same_new np
  generalize upd H p (.dK []) = H0 at hRp hp0 g0 ⊢
  refine ⟨by show 5 ≤ sizeLine; decide, fun b1 nb1 => ?_⟩
  walk_at "rd"
  refine c_pick 5 hRp nb1 (by decide) (by decide) fun d1 H1 hd1 c1 h1 hb1 => ?_
  obtain ⟨h, hh, okh⟩ : ∃ h : Nat, atI [V.int 0, V.int 0, V.int 1, V.int 2, V.int 5] (d1 : Int) = some (.int h) ∧ h ∈ [0, 1, 2, 5] := by
    rcases nat_five hd1 with rfl | rfl | rfl | rfl | rfl
    · exact ⟨0, rfl, by decide⟩
    · exact ⟨0, rfl, by decide⟩
    · exact ⟨1, rfl, by decide⟩
    · exact ⟨2, rfl, by decide⟩
    · exact ⟨5, rfl, by decide⟩
  refine r_ixA hb1 hh ?_
  walk_at "rd"
  refine ⟨by show 6 ≤ sizeLine; decide, fun b2 nb2 => ?_⟩
  walk_at "rd"
  refine c_pick 6 h1 nb2 (by decide) (by decide) fun d2 H2 hd2 c2 h2 hb2 => ?_
  obtain ⟨b, hb, okb⟩ : ∃ b : Nat, atI [V.int 0, V.int 0, V.int 1, V.int 2, V.int 3, V.int 4] (d2 : Int) = some (.int b) ∧ b ≤ 4 := by
    rcases nat_six hd2 with rfl | rfl | rfl | rfl | rfl | rfl
    · exact ⟨0, rfl, by decide⟩
    · exact ⟨0, rfl, by decide⟩
    · exact ⟨1, rfl, by decide⟩
    · exact ⟨2, rfl, by decide⟩
    · exact ⟨3, rfl, by decide⟩
    · exact ⟨4, rfl, by decide⟩
  refine r_ixA hb2 hb ?_
  walk_at "rd"
  have nd : ∀ l : List (Key × V), ∀ l2 : List V, HO.dK l ≠ .lst l2 := fun _ _ z => nomatch z
  have hp2 := (c1.tr c2).at hp0 (nd _)
  refine ⟨hp2, [(.inr "have", .int (h : Int)), (.inr "buy", .int (b : Int))], rfl, by show 2 ≤ 15; decide, ?_⟩
  walk_at "rd"
  have e3 : upd H2 p (.dK (mergeK [] [(.inr "have", .int (h : Int)), (.inr "buy", .int (b : Int))])) p = some (.dK [(.inr "have", .int (h : Int)), (.inr "buy", .int (b : Int))]) := upd_same
  have hr2 : ∀ (l : List V), H2 r = some (.lst l) → upd H2 p (.dK (mergeK [] [(.inr "have", .int (h : Int)), (.inr "buy", .int (b : Int))])) r = some (.lst l) := fun l e => by rw [upd_ne rp.symm]; exact e
  have k3 : ∀ (x : Addr) (o : HO), x ≠ p → H2 x = some o → upd H2 p (.dK (mergeK [] [(.inr "have", .int (h : Int)), (.inr "buy", .int (b : Int))])) x = some o := fun x o n e => by rw [upd_ne n]; exact e
  have h3 := RowAt.off h2 hp2 k3
  generalize upd H2 p (.dK (mergeK [] [(.inr "have", .int (h : Int)), (.inr "buy", .int (b : Int))])) = H3 at e3 h3 k3 ⊢
  refine ⟨by show 8 ≤ sizeLine; decide, fun b4 nb4 => ?_⟩
  walk_at "rd"
  refine c_pick 8 h3 nb4 (by decide) (by decide) fun d4 H4 hd4 c4 h4 hb4 => ?_
  obtain ⟨c, hc, okc⟩ : ∃ c : Nat, atI [V.int 0, V.int 1, V.int 2, V.int 5, V.int 10, V.int 20, V.int 49, V.int 50] (d4 : Int) = some (.int c) ∧ c ∈ [0, 1, 2, 5, 10, 20, 49, 50] := by
    have : d4 = 0 ∨ d4 = 1 ∨ d4 = 2 ∨ d4 = 3 ∨ d4 = 4 ∨ d4 = 5 ∨ d4 = 6 ∨ d4 = 7 := by omega
    rcases this with rfl | rfl | rfl | rfl | rfl | rfl | rfl | rfl
    · exact ⟨0, rfl, by decide⟩
    · exact ⟨1, rfl, by decide⟩
    · exact ⟨2, rfl, by decide⟩
    · exact ⟨5, rfl, by decide⟩
    · exact ⟨10, rfl, by decide⟩
    · exact ⟨20, rfl, by decide⟩
    · exact ⟨49, rfl, by decide⟩
    · exact ⟨50, rfl, by decide⟩
  refine r_ixA hb4 hc ?_
  walk_at "rd"
  have e4 := c4.at e3 (nd _)
  refine ⟨p, _, rfl, DPut.k (k := .inr "price") e4 (by show 2 < sizeLine; decide), ?_⟩
  walk_at "rd"
  have e5 : upd H4 p (.dK (putK [(.inr "have", .int (h : Int)), (.inr "buy", .int (b : Int))] (.inr "price") (.int (c : Int)))) p = some (.dK [(.inr "have", .int (h : Int)), (.inr "buy", .int (b : Int)), (.inr "price", .int (c : Int))]) := upd_same
  have k5 : ∀ (x : Addr) (o : HO), x ≠ p → H4 x = some o → upd H4 p (.dK (putK [(.inr "have", .int (h : Int)), (.inr "buy", .int (b : Int))] (.inr "price") (.int (c : Int)))) x = some o := fun x o n e => by rw [upd_ne n]; exact e
  have h5 := RowAt.off h4 e4 k5
  generalize upd H4 p (.dK (putK [(.inr "have", .int (h : Int)), (.inr "buy", .int (b : Int))] (.inr "price") (.int (c : Int)))) = H5 at e5 h5 k5 ⊢
  refine c_taken (m := 3) h5 (by decide) (by decide) fun d6 H6 hd6 c6 h6 => ?_
  walk_at "rd"
  have e6 := c6.at e5 (nd _)
  rw [show (1 + (d6 : Int)) = ((1 + d6 : Nat) : Int) by omega]
  refine ⟨p, _, rfl, DPut.k (k := .inr "pack") e6 (by show 3 < sizeLine; decide), ?_⟩
  walk_at "rd"
  have k7 : ∀ (x : Addr) (o : HO), x ≠ p → H6 x = some o → upd H6 p (.dK (putK [(.inr "have", .int (h : Int)), (.inr "buy", .int (b : Int)), (.inr "price", .int (c : Int))] (.inr "pack") (.int ((1 + d6 : Nat) : Int)))) x = some o := fun x o n e => by rw [upd_ne n]; exact e
  have h7 := RowAt.off h6 e6 k7
  refine q h b c (1 + d6) _ p ⟨okh, okb, okc, by omega, by omega⟩ np ?_ h7 upd_same
  obtain ⟨l, hl⟩ := hR.lst
  refine ⟨⟨l, hl⟩, fun x o nx e => ?_⟩
  have xp : x ≠ p := ne_of_none e np
  exact k7 _ _ xp (c6.kp _ _ nx (k5 _ _ xp (c4.kp _ _ nx (k3 _ _ xp ((c1.tr c2).kp _ _ nx (g0 _ _ e))))))

end
section
variable {P : Program} {w : World} {K : Fr0} {mg : Str → Option Value} {base : Heap}
def spLeast (K : Fr0) : Sp := fun vs H Q _ => ∃ (p : Addr) (h b c k : Nat), vs = [.ref p] ∧ DrawAt H p h b c k ∧ Q (.int ((max 1 (h + b) : Nat) : Int)) H
theorem ok_law_least (T : Txt K mg) : Ok P w K mg base CX0 1 "_law_least" ["_law_d"] (spLeast K) := by
  refine T.d_law_least.ok sc_law_least bd_law_least (fun vs H Q E h => by obtain ⟨p, h, b, c, k, rfl, _⟩ := h; rfl) (fun cdv A outer s H vs Q E hr h => ?_)
  obtain ⟨p, h, b, c, k, rfl, hd, q⟩ := h
  obtain ⟨g1, g2, _⟩ := drawG hd
  refine ⟨_, PSs.nox (pss_one (ps_ret (pe_callB (call_max2 rfl) rfl T.b_max (by decide +kernel) (pa_cons pe_int (pa_cons (pe_op op_add (pe_dget (hu_of hr) (pv 0) pe_str (fun _ _ => rfl)) (pe_dget (hu_of hr) (pv 0) pe_str (fun _ _ => rfl))) pa_nil))))), ?_⟩
  walk_at "k0"
  walk_at "rd"
  refine ⟨p, _, rfl, g1, ?_⟩
  walk_at "rd"
  refine ⟨p, _, rfl, g2, ?_⟩
  walk_at "rd"
  refine ⟨_, _, rfl, ?_⟩
  have em : (if (1 : Int) < (h : Int) + (b : Int) then (h : Int) + (b : Int) else 1) = ((max 1 (h + b) : Nat) : Int) := by
    by_cases z : (1 : Int) < (h : Int) + (b : Int)
    · rw [if_pos z]; omega
    · rw [if_neg z]; omega
  rw [em]
  exact q

end
section
variable {P : Program} {w : World} {K : Fr0} {mg : Str → Option Value} {base : Heap}
def spMade (K : Fr0) : Sp := fun vs H Q _ => ∃ (p : Addr) (h b c k : Nat), vs = [.ref p] ∧ DrawAt H p h b c k ∧ WayOk h b c k ∧ ∀ a H', H a = none → Same H H' → WayAt K H' a h b c k → Q (.ref a) H'
theorem ok_law_made (T : Txt K mg) : Ok P w K mg base CX0 7 "_law_made" ["_law_d"] (spMade K) := by
  refine T.d_law_made.ok sc_law_made bd_law_made (fun vs H Q E h => by obtain ⟨p, h, b, c, k, rfl, _⟩ := h; rfl) (fun cdv A outer s H vs Q E hr h => ?_)
  obtain ⟨p, h, b, c, k, rfl, hd, ok, q⟩ := h
  obtain ⟨g1, g2, g3, g4⟩ := drawG hd
  refine ⟨_, PSs.nox (pss_one (ps_ret (pe_mk T.mk_Way (ok_Way_init T) (hr.mono (by decide)) passL T.g_Way (pa_cons (pe_dget (hu_of hr) (pv 0) pe_str (fun _ _ => rfl)) (pa_cons (pe_dget (hu_of hr) (pv 0) pe_str (fun _ _ => rfl)) (pa_cons (pe_dget (hu_of hr) (pv 0) pe_str (fun _ _ => rfl)) (pa_cons (pe_dget (hu_of hr) (pv 0) pe_str (fun _ _ => rfl)) pa_nil))))))), ?_⟩
  walk_at "k0"
  walk_at "rd"
  refine ⟨p, _, rfl, g1, ?_⟩
  walk_at "rd"
  refine ⟨p, _, rfl, g2, ?_⟩
  walk_at "rd"
  refine ⟨p, _, rfl, g3, ?_⟩
  walk_at "rd"
  refine ⟨p, _, rfl, g4, ?_⟩
  walk_at "rd"
  exact c_way ok q

end
section
variable {P : Program} {w : World} {K : Fr0} {mg : Str → Option Value} {base : Heap}
def spRefused (K : Fr0) : Sp := fun vs H Q _ => ∃ (f S W : Addr) (h b c k n : Nat) (l : List Nat) (u : V) (t : String), vs = [.ref f, u] ∧ FilAt K H f S W h n l ∧ WayAt K H W h b c k ∧ AnyV K H u t ∧ n ≤ 300 ∧ l.length ≤ 1000 ∧
  (((finL h n l).1.length ≤ b ∧ ∀ H', Same H H' → Q (.str "ended") H') ∨ (¬ (finL h n l).1.length ≤ b ∧ isIn 0 ((n : Int) - 1) u = false ∧ ∀ H', Same H H' → Q (.str "picture") H'))
theorem ok_law_refused (T : Txt K mg) : Ok P w K mg base CX0 8 "_law_refused" ["_law_filling", "_law_picture"] (spRefused K) := by
  refine T.d_law_refused.ok sc_law_refused bd_law_refused (fun vs H Q E h => by obtain ⟨f, S, W, h, b, c, k, n, l, u, t, rfl, _⟩ := h; rfl) (fun cdv A outer s H vs Q E hr h => ?_)
  obtain ⟨f, S, W, h, b, c, k, n, l, u, t, rfl, hf, hw, hu, hn, hl, q⟩ := h
  refine ⟨_, PSs.nox (pss_cons (ps_set (i := 2) sc_law_refused.nd rfl (Or.inl rfl) pe_non)
      (pss_cons (ps_try_many rfl rfl takes0 (fun W pn xe tk1 _ => (pss_one (ps_expr (pe_mSK (K := K) rfl (pv 0) T.cl_Filling T.m_Filling_add (ok_Filling_add T) (hr.mono (by decide)) tk1 (pa_cons (pv 1) pa_nil))))) (HdsOk.cons ⟨rfl, by decide, Or.inl T.g_BadPicture⟩ (fun a oe cls d pn hz hf => (pss_one (ps_set (i := 2) sc_law_refused.nd rfl (Or.inl rfl) pe_str))) (HdsOk.cons ⟨rfl, by decide, Or.inl T.g_Ended⟩ (fun a oe cls d pn hz hf => (pss_one (ps_set (i := 2) sc_law_refused.nd rfl (Or.inl rfl) pe_str))) HdsOk.nil)))
      (pss_one (ps_ret (pv 2))))), ?_⟩
  walk_at "k0"
  walk_at "rd"
  refine ⟨f, _, _, rfl, hf.choose_spec.choose_spec.choose_spec.1, rfl, ?_⟩
  walk_at "rd"
  rcases q with ⟨hb, q⟩ | ⟨hb, bad, q⟩
  · refine ⟨f, S, W, h, b, c, k, n, l, u, t, rfl, hf, hw, hu, hn, hl, .inl ⟨hb, fun H' s' => ?_⟩⟩
    refine ⟨false, T.e_Ended_BadPicture, fun z => (nomatch z), fun _ => ⟨true, T.e_Ended_Ended, fun _ a na => ?_, fun z => (nomatch z)⟩⟩
    walk_at "rd"
    exact q H' s'
  · refine ⟨f, S, W, h, b, c, k, n, l, u, t, rfl, hf, hw, hu, hn, hl, .inr ⟨hb, .inl ⟨bad, fun H' s' => ?_⟩⟩⟩
    refine ⟨true, T.e_BadPicture_BadPicture, fun _ a na => ?_, fun z => (nomatch z)⟩
    walk_at "rd"
    exact q H' s'

end
section
variable {P : Program} {w : World} {K : Fr0} {mg : Str → Option Value} {base : Heap}
theorem c_fillE {K : Fr0} {H : Hp} {R : Addr → Hp → Prop} {E : XK} {W : Addr} {h b c k : Nat} {u : V} {t : String} (w : WayAt K H W h b c k) (hu : AnyV K H u t) (bad : isIn ((max 1 (h + b) : Nat) : Int) 300 u = false) (rs : Raised K "BadNumber" "n" u H E) :
    ∀ x dx, H x = none → H dx = none → dx ≠ x → spFillInit K (.ref x :: [.ref W, u]) (upd (upd H dx (.own x)) x (.ins (fA K "Filling") dx [])) (fun v H2 => v = .non ∧ R x H2) E := by
  intro x dx nx nd ne
  have s0 : Same H (upd (upd H dx (.own x)) x (.ins (fA K "Filling") dx [])) := fun a o ea => by
    rw [upd_ne (ne_of_none ea nx), upd_ne (ne_of_none ea nd)]
    exact ea
  exact ⟨x, dx, W, h, b, c, k, u, t, rfl, upd_same, w.same s0, hu.same s0, .inl ⟨bad, rs.same s0⟩⟩
def spBegun (K : Fr0) : Sp := fun vs H Q _ => ∃ (W : Addr) (h b c k : Nat) (u : V) (t : String), vs = [.ref W, u] ∧ WayAt K H W h b c k ∧ AnyV K H u t ∧ isIn ((max 1 (h + b) : Nat) : Int) 300 u = false ∧ ∀ p H', H p = none → Same H H' → H' p = some (.lst [u]) → Q (.ref p) H'
theorem ok_law_begun (T : Txt K mg) : Ok P w K mg base CX0 8 "_law_begun" ["_law_way", "_law_n"] (spBegun K) := by
  refine T.d_law_begun.ok sc_law_begun bd_law_begun (fun vs H Q E h => by obtain ⟨W, h, b, c, k, u, t, rfl, _⟩ := h; rfl) (fun cdv A outer s H vs Q E hr h => ?_)
  obtain ⟨W, h, b, c, k, u, t, rfl, hw, hu, bad, q⟩ := h
  refine ⟨_, PSs.nox (pss_cons (ps_set (i := 2) sc_law_begun.nd rfl (Or.inl rfl) (pe_lst pa_nil))
      (pss_cons (ps_try_as (i := 3) rfl rfl sc_law_begun.nd rfl rfl ⟨rfl, by decide, Or.inl T.g_BadNumber⟩ takes0 (fun W pn xe tk1 _ => (pss_one (ps_expr (pe_mkSK (K := K) rfl T.mk_Filling (ok_Filling_init T) (hr.mono (by decide)) tk1 T.g_Filling (pa_cons (pv 0) (pa_cons (pv 1) pa_nil)))))) (fun a oe cls d pn hz hf => (pss_one (ps_set (i := 2) sc_law_begun.nd rfl (Or.inl rfl) (pe_lst (pa_cons (pe_xf T.x_BadNumber.rd (T.x_BadNumber.no _ (.head _)) hz hf (pv 3)) pa_nil))))))
      (pss_one (ps_ret (pv 2))))), ?_⟩
  walk_at "k0"
  walk_at "rd"
  refine ⟨Nat.zero_le _, fun p np => ?_⟩
  walk_at "rd"
  have t0 := same_new (o := .lst []) np
  refine c_fillE (hw.same t0) (hu.same t0) bad fun d H' nd s' e' => ?_
  refine ⟨true, T.e_BadNumber_BadNumber, fun _ a na => ?_, fun z => (nomatch z)⟩
  walk_at "rd"
  refine ⟨rfl, _, u, e', look1, ?_⟩
  walk_at "rd"
  refine ⟨by show 1 ≤ sizeLine; decide, fun p1 np1 => ?_⟩
  walk_at "rd"
  exact q p1 _ ((t0.trans s').free np1) (same_add (t0.trans s') np1) upd_same

end
section
variable {P : Program} {w : World} {K : Fr0} {mg : Str → Option Value} {base : Heap}
def spLeft (K : Fr0) : Sp := fun vs H Q _ => ∃ (p : Addr) (h b c k n m : Nat), vs = [.ref p, .int (n : Int), .int (m : Int)] ∧ DrawAt H p h b c k ∧ WayOk h b c k ∧ m ≤ n ∧ n ≤ 300 ∧ NewFr K H Q (toPay n b c k m)
theorem smL_upK (n b i k : Nat) : (smL n (b + i) b).sum * ((k : Int) : Rat) + Rat.divInt ((k : Int) * (n : Int)) ((b + i + 1 : Nat) : Int) = (smL n (b + (i + 1)) b).sum * ((k : Int) : Rat) := by
  have e : (smL n (b + i) b).sum + Rat.divInt (n : Int) ((b + i + 1 : Nat) : Int) = (smL n (b + (i + 1)) b).sum := by
    have e0 := smL_hN n i b
    have e1 := smL_hN n (i + 1) b
    rw [e0, e1, show b + (i + 1) = b + i + 1 by omega, hN, divInt_nat]
    grind
  rw [← e, Rat.add_mul]
  congr 1
  rw [Rat.divInt_eq_div, Rat.divInt_eq_div, Rat.intCast_mul]
  grind
theorem ok_law_left (T : Txt K mg) : Ok P w K mg base CX0 4 "_law_left" ["_law_d", "_law_n", "_law_lacking"] (spLeft K) := by
  refine T.d_law_left.ok sc_law_left bd_law_left (fun vs H Q E h => by obtain ⟨p, h, b, c, k, n, m, rfl, _⟩ := h; rfl) (fun cdv A outer s H vs Q E hr h => ?_)
  obtain ⟨p, h, b, c, k, n, m, rfl, hd, o, hm, hn, q⟩ := h
  have o2 := o.b
  have o3 := o.c
  have o5 := o.k3
  refine ⟨_, PSs.nox (pss_cons (ps_set (i := 3) sc_law_left.nd rfl (Or.inl rfl) (pe_tup (pa_cons pe_int (pa_cons pe_int pa_nil))))
      (pss_cons (ps_for PassesOwn.never rfl (pi_range2 rfl T.b_range (pa_cons (pe_op op_add (pe_dget (hu_of hr) (pv 0) pe_str (fun _ _ => rfl)) pe_int) (pa_cons (pe_op op_add (pv 2) pe_int) pa_nil))) (pg_name (i := 4) sc_law_left.nd rfl (Or.inl rfl)) (pss_one (ps_set (i := 3) sc_law_left.nd rfl (Or.inl rfl) (pe_f (ok_law_sum T) (hr.mono (by decide)) pass0 (pa_cons (pv 3) (pa_cons (pe_f (ok_law_frac T) (hr.mono (by decide)) pass0 (pa_cons (pe_op op_mul (pe_dget (hu_of hr) (pv 0) pe_str (fun _ _ => rfl)) (pv 1)) (pa_cons (pv 4) pa_nil))) pa_nil))))))
      (pss_one (ps_ret (pe_ifExp (pt_cmpR op_gt (pv 2) (pe_dget (hu_of hr) (pv 0) pe_str (fun _ _ => rfl)) (nomark _)) (pe_f (ok_law_sum T) (hr.mono (by decide)) pass0 (pa_cons (pv 3) (pa_cons (pe_tup (pa_cons (pe_op op_mul (pe_dget (hu_of hr) (pv 0) pe_str (fun _ _ => rfl)) (pe_dget (hu_of hr) (pv 0) pe_str (fun _ _ => rfl))) (pa_cons pe_int pa_nil))) pa_nil))) (pe_tup (pa_cons pe_int (pa_cons pe_int pa_nil)))))))), ?_⟩
  walk_at "k0"
  walk_at "rd"
  refine ⟨by show 2 ≤ sizeLine; decide, fun p0 np0 => ?_⟩
  walk_at "rd"
  have s0 := same_new (o := .tup [.int 0, .int 1]) np0
  obtain ⟨g1, g2, g3, g4⟩ := drawG (hd.same s0)
  refine ⟨p, _, rfl, g2, ?_⟩
  walk_at "rd"
  refine ⟨_, _, rfl, by omega, ?_⟩
  rw [show ((m : Int) + 1 - ((b : Int) + 1)).toNat = m - b by omega]
  refine for_range (lo := (b : Int) + 1) (n := m - b) (fun i σ H' => ∃ (u : V) (x : Option V), σ = [some (.ref p), some (.int (n : Int)), some (.int (m : Int)), some u, x] ∧ Same H H' ∧ Dp K H' u (fr ((smL n (b + i) b).sum * ((k : Int) : Rat))))
    ⟨_, _, rfl, s0, by rw [Nat.add_zero, smL_self, List.sum_nil, Rat.zero_mul]; exact dp_pr (SqT.of upd_same)⟩ ?_ ?_
  · rintro i σ H1 hi ⟨u, x, rfl, s1, d1⟩
    walk_at "rd"
    rw [show (b : Int) + 1 + (i : Int) = ((b + i + 1 : Nat) : Int) by omega]
    obtain ⟨g1, g2, g3, g4⟩ := drawG (hd.same s1)
    refine ⟨p, _, rfl, g4, ?_⟩
    walk_at "rd"
    refine r_i (.inl ⟨by omega, by omega⟩) ?_
    walk_at "rd"
    have kn : k * n ≤ 3 * 300 := Nat.mul_le_mul o5 hn
    have ekn : (k : Int) * (n : Int) = ((k * n : Nat) : Int) := by rw [Int.natCast_mul]
    refine ⟨_, _, 10, rfl, by omega, by rw [ekn]; omega, by omega, by decide, fun u2 H2 s2 d2 => ?_⟩
    walk_at "rd"
    have z1 : Sz ((smL n (b + i) b).sum * ((k : Int) : Rat)) 3304 := (smL_sz (by omega) (by omega) (by omega)).mul (k_sz' o5)
    refine c_lsum2 (.of (dp_same s2 d1) z1) (.of d2 (sz_divInt (k := 10) (by omega) (by rw [ekn]; omega) (by omega))) (by decide) fun u3 H3 s3 d3 => ?_
    walk_at "rd"
    refine ⟨u3, _, rfl, s1.trans (s2.trans s3), ?_⟩
    rw [smL_upK] at d3
    exact d3
  · rintro σ H1 ⟨u, x, rfl, s1, d1⟩
    obtain ⟨g1, g2, g3, g4⟩ := drawG (hd.same s1)
    walk_at "rd"
    walk_at "if"
    refine ⟨p, _, rfl, g2, ?_⟩
    walk_at "rd"
    unfold toPay at q
    refine r_dec (fun z => ?_) (fun z => ?_)
    · have z : (b : Int) < (m : Int) := z
      rw [if_neg (by omega)] at q
      rw [show b + (m - b) = m by omega] at d1
      walk_at "rd"
      refine ⟨p, _, rfl, g2, ?_⟩
      walk_at "rd"
      refine ⟨p, _, rfl, g3, ?_⟩
      walk_at "rd"
      refine r_i (.inl ⟨by omega, by omega⟩) ?_
      walk_at "rd"
      refine ⟨by show 2 ≤ sizeLine; decide, fun p2 np2 => ?_⟩
      walk_at "rd"
      have bc : b * c ≤ 4 * 50 := Nat.mul_le_mul o2 o3
      rw [show (b : Int) * (c : Int) = ((b * c : Nat) : Int) by rw [Int.natCast_mul]]
      refine c_lsum2 (.of (dp_same (same_new np2) d1) ((smL_sz (n := n) (L := m) (b := b) (by omega) (by omega) (by omega)).mul (k_sz' o5))) (.raw (k := 10) (dp_pr (SqT.of upd_same)) (by decide) (by omega) (by decide)) (by decide) fun u3 H3 s3 d3 => ?_
      refine q u3 H3 (s1.trans ((same_new np2).trans s3)) ?_
      rw [divInt_by1] at d3
      exact d3
    · have z : ¬ (b : Int) < (m : Int) := z
      rw [if_pos (by omega)] at q
      walk_at "rd"
      refine ⟨by show 2 ≤ sizeLine; decide, fun p2 np2 => ?_⟩
      exact q _ _ (same_add s1 np2) (dp_pr (SqT.of upd_same))

end
section
variable {P : Program} {w : World} {K : Fr0} {mg : Str → Option Value} {base : Heap}
def spIs (K : Fr0) : Sp := fun vs H Q _ => ∃ (f S W p L : Addr) (h b c k n : Nat) (l : List Nat), vs = [.ref f, .ref p, .int (n : Int), .ref L] ∧ FilAt K H f S W h n l ∧ WayAt K H W h b c k ∧ DrawAt H p h b c k ∧ WayOk h b c k ∧ max 1 (h + b) ≤ n ∧ n ≤ 300 ∧ l.length ≤ 100 ∧ (∀ x ∈ l, x < n) ∧ H L = some (.lst (natsV l)) ∧ ∀ H', Same H H' → Q (.bl true) H'
theorem dpA_natsT {K : Fr0} {H : Hp} : ∀ l : List Nat, DpAll K H (natsV l) (l.map fun x : Nat => PyData.int (x : Int))
  | [] => .nil
  | a :: l => .cons (.int _) (dpA_natsT l)
theorem told_shape (l m : List Nat) (i j x : Int) : SeqAt.shaped (.list [.tuple (l.map fun x : Nat => .int (x : Int)), .int i, .int j, .tuple (m.map fun x : Nat => .int (x : Int)), .int x]) = true := by
  have lay : ∀ l : List Nat, PyData.canLayAll0 (l.map fun x : Nat => PyData.int (x : Int)) = true := fun l => lay_map (fun x : Nat => PyData.int (x : Int)) (fun _ => rfl) l
  have dep : ∀ l : List Nat, PyData.depthAll (l.map fun x : Nat => PyData.int (x : Int)) ≤ 0 := fun l => dep_map (fun x : Nat => PyData.int (x : Int)) (fun _ => by rw [PyData.depth]; exact Nat.le_refl _) l
  have d1 := dep l
  have d2 := dep m
  unfold SeqAt.shaped
  rw [Bool.and_eq_true]
  refine ⟨?_, decide_eq_true ?_⟩
  · simp only [PyData.canLay0, PyData.canLayAll0, lay, Bool.and_true, Bool.true_and, Bool.and_self]
  · simp only [PyData.depth, PyData.depthAll]
    omega
theorem r_lenSetG {K : Fr0} {ta : TE} {σ : L2.St} {H : Hp} {Q : VK} (h : ta σ H fun x H1 => ∃ (l : Addr) (ns : List Int), x = .ref l ∧ SqL K H1 l (ns.map V.int) ∧ ns.length ≤ 4000 ∧ Q (.int ((dedup ns).length : Nat)) H1) : tLenSetG K ta σ H Q := h
theorem ok_law_is (T : Txt K mg) : Ok P w K mg base CX0 9 "_law_is" ["_law_filling", "_law_d", "_law_n", "_law_log"] (spIs K) := by
  refine T.d_law_is.ok sc_law_is bd_law_is (fun vs H Q E h => by obtain ⟨f, S, W, p, L, h, b, c, k, n, l, rfl, _⟩ := h; rfl) (fun cdv A outer s H vs Q E hr h => ?_)
  obtain ⟨f, S, W, p, L, h, b, c, k, n, l, rfl, hf, hw, hd, o, n1, n3, hl, hx, hL, q⟩ := h
  obtain ⟨g1, g2, g3, g4⟩ := drawG hd
  have o1 := o.h
  have o2 := o.b
  have o3 := o.c
  have o4 := o.k1
  have o5 := o.k3
  have lenM := finL_len h n l
  have eM := fin_miss (h := h) (n := n) l
  have eD := fin_dbl (h := h) l hx
  refine ⟨_, PSs.nox (pss_cons (ps_set (i := 4) sc_law_is.nd rfl (Or.inl rfl) (pe_callTy call_tuple_of rfl T.b_tuple (by decide +kernel) (pa_cons (pe_lc (own := [("_law_one", 9)]) (g := gName 9) (tt := _) rfl sc_law_is.nd (pi_range2 rfl T.b_range (pa_cons (pe_dget (hu_of hr) (pv 1) pe_str (fun _ _ => rfl)) (pa_cons (pv 2) pa_nil))) (blkOk_by (own := [("_law_one", 9)]) (N := N_law_is) (sc := defScope s_law_is) (by decide +kernel)) (fun _ _ _ _ _ => pg_name (i := 9) sc_law_is.nd rfl (Or.inl rfl)) (fun _ _ _ _ _ => (pts_one (pt_cmpR (notInK (K := K) rfl) (pv 9) (pv 3) (by rfl)))) (fun _ _ _ _ _ => (pv 9))) pa_nil)))
      (pss_cons (ps_set (i := 5) sc_law_is.nd rfl (Or.inl rfl) (pe_cmpR op_le (pe_callB (lenK (K := K) rfl) rfl T.b_len (by decide +kernel) (pa_cons (pv 4) pa_nil)) (pe_dget (hu_of hr) (pv 1) pe_str (fun _ _ => rfl)) (nomark _)))
      (pss_cons (ps_set (i := 6) sc_law_is.nd rfl (Or.inl rfl) (pe_op op_add (pe_op op_mul (pe_callB (lenK (K := K) rfl) rfl T.b_len (by decide +kernel) (pa_cons (pv 3) pa_nil)) (pe_dget (hu_of hr) (pv 1) pe_str (fun _ _ => rfl))) (pe_op op_mul (pe_op op_mul (pe_dget (hu_of hr) (pv 1) pe_str (fun _ _ => rfl)) (pe_dget (hu_of hr) (pv 1) pe_str (fun _ _ => rfl))) (pe_callTy call_int1 rfl T.b_int (by decide +kernel) (pa_cons (pv 5) pa_nil)))))
      (pss_cons (ps_set (i := 7) sc_law_is.nd rfl (Or.inl rfl) (pe_lenSetG rfl T.b_len rfl T.b_set (pe_lc (own := [("_law_one", 9)]) (g := gName 9) (tt := _) rfl sc_law_is.nd (pi_list (pv 3)) (blkOk_by (own := [("_law_one", 9)]) (N := N_law_is) (sc := defScope s_law_is) (by decide +kernel)) (fun _ _ _ _ _ => pg_name (i := 9) sc_law_is.nd rfl (Or.inl rfl)) (fun _ _ _ _ _ => (pts_one (pt_cmpR op_ge (pv 9) (pe_dget (hu_of hr) (pv 1) pe_str (fun _ _ => rfl)) (nomark _)))) (fun _ _ _ _ _ => (pv 9)))))
      (pss_cons (ps_set (i := 8) sc_law_is.nd rfl (Or.inl rfl) (pe_lst (pa_cons (pe_prp (pv 0) T.cl_Filling T.p_Filling_missing (ok_Filling_missing T) (hr.mono (by decide)) pass0 rfl) (pa_cons (pe_prp (pv 0) T.cl_Filling T.p_Filling_doubles (ok_Filling_doubles T) (hr.mono (by decide)) pass0 rfl) (pa_cons (pe_prp (pv 0) T.cl_Filling T.p_Filling_paid (ok_Filling_paid T) (hr.mono (by decide)) pass0 rfl) (pa_cons (pe_prp (pv 0) T.cl_Filling T.p_Filling_log (ok_Filling_log T) (hr.mono (by decide)) pass0 rfl) (pa_cons (pe_callB (call_lenO T.m_Filling_len (ok_Filling_len T) (hr.mono (by decide)) pass0) rfl T.b_len (by decide +kernel) (pa_cons (pv 0) pa_nil)) pa_nil)))))))
      (pss_cons (ps_if (pt_cmpR (neDK (K := K) rfl hr.units) (pv 8) (pe_lst (pa_cons (pv 4) (pa_cons (pe_op op_sub (pe_callB (lenK (K := K) rfl) rfl T.b_len (by decide +kernel) (pa_cons (pv 3) pa_nil)) (pv 7)) (pa_cons (pv 6) (pa_cons (pe_callTy call_tuple_of rfl T.b_tuple (by decide +kernel) (pa_cons (pv 3) pa_nil)) (pa_cons (pe_callB (lenK (K := K) rfl) rfl T.b_len (by decide +kernel) (pa_cons (pv 3) pa_nil)) pa_nil)))))) (nomark _)) (pss_one (ps_ret pe_bl)) pss_nil)
      (pss_one (ps_ret (pe_and (pe_cmpR (eqDK (K := K) rfl hr.units) (pe_prp (pv 0) T.cl_Filling T.p_Filling_to_pay (ok_Filling_to_pay T) (hr.mono (by decide)) pass0 rfl) (pe_f (ok_law_left T) (hr.mono (by decide)) pass0 (pa_cons (pv 1) (pa_cons (pv 2) (pa_cons (pe_callB (lenK (K := K) rfl) rfl T.b_len (by decide +kernel) (pa_cons (pv 4) pa_nil)) pa_nil)))) (nomark _)) (pe_and (pe_cmpR (op_ownI T.m_Way_eq (fun _ _ => rfl) rfl (ok_Way_eq T) (hr.mono (by decide)) pass0) (pe_prp (pv 0) T.cl_Filling T.p_Filling_way (ok_Filling_way T) (hr.mono (by decide)) pass0 rfl) (pe_f (ok_law_made T) (hr.mono (by decide)) pass0 (pa_cons (pv 1) pa_nil)) (nomark _)) (pe_one (pe_cmpR op_eq (pe_prp (pv 0) T.cl_Filling T.p_Filling_number (ok_Filling_number T) (hr.mono (by decide)) pass0 rfl) (pv 2) (nomark _))))))))))))), ?_⟩
  walk_at "k0"
  walk_at "rd"
  refine ⟨p, _, rfl, g1, ?_⟩
  walk_at "rd"
  refine ⟨_, _, rfl, by omega, fun D nD => ?_⟩
  rw [show ((n : Int) - (h : Int)).toNat = n - h by omega]
  refine lc_filt walk_range (List.range' h (n - h)) (fun x => decide (x ∉ l)) (List.length_range' ..) (by omega) nD (fun _ _ => True.intro) y_range ?_ ?_
  · intro e H4 A' B' _ s4 kA kB
    walk_at "rd"
    refine ⟨rfl, ?_⟩
    walk_at "rd"
    refine ⟨L, _, rfl, .inl (SqL.of (s4 _ _ hL)), rfl, flat_nats _, ?_⟩
    rw [inV_nats]
    refine ⟨_, rfl, ?_⟩
    by_cases z : e ∈ l
    · rw [decide_eq_true z]
      exact iteF (kA (decide_eq_false (fun y => y z)))
    · rw [decide_eq_false z]
      refine iteT ?_
      walk_at "rd"
      exact kB (decide_eq_true z)
  intro H1 s1 hD1
  rw [← eM] at hD1
  walk_at "rd"
  refine ⟨D, _, rfl, .inl ⟨SqL.of hD1, fun M nM => ?_⟩⟩
  have s2 := same_add s1 nM (o := .tup (natsV (finL h n l).1))
  have hM := upd_same (H := H1) (a := M) (o := .tup (natsV (finL h n l).1))
  generalize upd H1 M (.tup (natsV (finL h n l).1)) = H2 at s2 hM
  walk_at "rd"
  refine ⟨M, _, rfl, .inr (SqT.of hM), ?_⟩
  rw [natsV_length]
  walk_at "rd"
  have G2 := drawG (hd.same s2)
  refine ⟨p, _, rfl, G2.2.1, ?_⟩
  walk_at "rd"
  refine ⟨L, _, rfl, .inl (SqL.of (s2 _ _ hL)), ?_⟩
  rw [natsV_length]
  walk_at "rd"
  refine ⟨p, _, rfl, G2.2.2.2, ?_⟩
  walk_at "rd"
  refine r_i (.inl ⟨by omega, by omega⟩) ?_
  walk_at "rd"
  refine ⟨p, _, rfl, G2.2.1, ?_⟩
  walk_at "rd"
  refine ⟨p, _, rfl, G2.2.2.1, ?_⟩
  walk_at "rd"
  refine r_i (.inl ⟨by omega, by omega⟩) ?_
  walk_at "rd"
  refine .inr ⟨_, rfl, ?_⟩
  refine r_i (.inr (by split <;> exact ⟨by decide, by decide⟩)) ?_
  walk_at "rd"
  have eP : (l.length : Int) * (k : Int) + (b : Int) * (c : Int) * (if decide (((finL h n l).1.length : Int) ≤ (b : Int)) = true then 1 else 0) = ((l.length * k + if (finL h n l).1.length ≤ b then b * c else 0 : Nat) : Int) := by
    by_cases z : (finL h n l).1.length ≤ b
    · rw [decide_eq_true (show ((finL h n l).1.length : Int) ≤ (b : Int) by omega), if_pos rfl, if_pos z, Int.mul_one, Int.natCast_add, Int.natCast_mul, Int.natCast_mul]
    · rw [decide_eq_false (show ¬ ((finL h n l).1.length : Int) ≤ (b : Int) by omega), if_neg (by decide), if_neg z, Int.mul_zero, Int.natCast_add, Int.natCast_mul]
      rfl
  rw [eP]
  refine r_lenSetG ?_
  walk_at "rd"
  refine ⟨⟨_, SqL.of (s2 _ _ hL)⟩, fun E nE => ?_⟩
  refine lc_filt walk_list l (fun x => decide (h ≤ x)) (natsV_length _).symm (by rw [natsV_length]; omega) nE (fun H' s' => SqL.of (s' _ _ (s2 _ _ hL))) y_nats ?_ ?_
  · intro e H4 A' B' _ s4 kA kB
    walk_at "rd"
    refine ⟨rfl, ?_⟩
    walk_at "rd"
    refine ⟨p, _, rfl, (drawG (hd.same (s2.trans s4))).1, ?_⟩
    walk_at "rd"
    refine r_dec (fun z => ?_) (fun z => kA (decide_eq_false (fun y => z (by show (h : Int) ≤ (e : Int); omega))))
    walk_at "rd"
    exact kB (decide_eq_true (by have : (h : Int) ≤ (e : Int) := z; omega))
  intro H3 s3 hE3
  walk_at "rd"
  refine ⟨E, (l.filter fun x => decide (h ≤ x)).map (fun x : Nat => (x : Int)), rfl, SqL.of (by rw [List.map_map]; exact hE3), ?_, ?_⟩
  · rw [List.length_map]
    have := List.length_filter_le (fun x => decide (h ≤ x)) l
    omega
  walk_at "rd"
  have t3 := s2.trans s3
  have hf3 := hf.same t3
  have hw3 := hw.same t3
  have ins := hf3.choose_spec.choose_spec.choose_spec.1
  refine ⟨f, _, _, rfl, ins, f, S, W, h, n, l, rfl, hf3, ?_⟩
  rintro v1 ⟨q1, rfl, hq1⟩
  walk_at "rd"
  refine ⟨f, _, _, rfl, ins, f, S, W, h, n, l, rfl, hf3, ?_⟩
  rintro v2 rfl
  walk_at "rd"
  refine ⟨f, _, _, rfl, ins, f, S, W, h, b, c, k, n, l, rfl, hf3, hw3, o, by omega, ?_⟩
  walk_at "rd"
  refine ⟨f, _, _, rfl, ins, f, S, W, h, n, l, rfl, hf3, ?_⟩
  rintro v4 ⟨q4, rfl, hq4⟩
  walk_at "rd"
  refine ⟨f, _, _, rfl, ins, f, S, W, h, n, l, rfl, hf3, l.length, rfl, by omega, ?_⟩
  walk_at "rd"
  refine ⟨by show 5 ≤ sizeLine; decide, fun R nR => ?_⟩
  walk_at "rd"
  walk_at "if"
  have sR := same_new (o := .lst [.ref q1, .int ((finL h n l).2 : Nat), .int ((l.length * k + if (finL h n l).1.length ≤ b then b * c else 0 : Nat) : Int), .ref q4, .int (l.length : Nat)]) nR
  have hR := upd_same (H := H3) (a := R) (o := .lst [.ref q1, .int ((finL h n l).2 : Nat), .int ((l.length * k + if (finL h n l).1.length ≤ b then b * c else 0 : Nat) : Int), .ref q4, .int (l.length : Nat)])
  have t4 := t3.trans sR
  have hq1' := sR _ _ hq1
  have hq4' := sR _ _ hq4
  have hM4 := (s3.trans sR) _ _ hM
  generalize upd H3 R (.lst [.ref q1, .int ((finL h n l).2 : Nat), .int ((l.length * k + if (finL h n l).1.length ≤ b then b * c else 0 : Nat) : Int), .ref q4, .int (l.length : Nat)]) = H4 at *
  refine ⟨L, _, rfl, .inl (SqL.of (t4 _ _ hL)), ?_⟩
  rw [natsV_length]
  walk_at "rd"
  rw [show (l.length : Int) - ((dedup ((l.filter fun x => decide (h ≤ x)).map fun x : Nat => (x : Int))).length : Nat) = ((finL h n l).2 : Int) by
    have : (finL h n l).2 + (dedup ((l.filter fun x => decide (h ≤ x)).map fun x : Nat => (x : Int))).length = l.length := eD
    omega]
  refine ⟨L, _, rfl, .inl ⟨SqL.of (t4 _ _ hL), fun q5 nq5 => ?_⟩⟩
  have s5 := same_new (o := .tup (natsV l)) nq5
  have hq5 := upd_same (H := H4) (a := q5) (o := .tup (natsV l))
  generalize upd H4 q5 (.tup (natsV l)) = H5 at *
  walk_at "rd"
  refine ⟨L, _, rfl, .inl (SqL.of ((t4.trans s5) _ _ hL)), ?_⟩
  rw [natsV_length]
  walk_at "rd"
  refine ⟨by show 5 ≤ sizeLine; decide, fun R6 nR6 => ?_⟩
  have s6 := same_new (o := .lst [.ref M, .int ((finL h n l).2 : Nat), .int ((l.length * k + if (finL h n l).1.length ≤ b then b * c else 0 : Nat) : Int), .ref q5, .int (l.length : Nat)]) nR6
  have hR6 := upd_same (H := H5) (a := R6) (o := .lst [.ref M, .int ((finL h n l).2 : Nat), .int ((l.length * k + if (finL h n l).1.length ≤ b then b * c else 0 : Nat) : Int), .ref q5, .int (l.length : Nat)])
  walk_at "rd"
  generalize upd H5 R6 (.lst [.ref M, .int ((finL h n l).2 : Nat), .int ((l.length * k + if (finL h n l).1.length ≤ b then b * c else 0 : Nat) : Int), .ref q5, .int (l.length : Nat)]) = H6 at *
  have t6 := t4.trans (s5.trans s6)
  refine r_neD (d := .list [.tuple ((finL h n l).1.map fun x : Nat => .int (x : Int)), .int ((finL h n l).2 : Nat), .int ((l.length * k + if (finL h n l).1.length ≤ b then b * c else 0 : Nat) : Int), .tuple (l.map fun x : Nat => .int (x : Int)), .int (l.length : Nat)])
    (.lst (SqL.of ((s5.trans s6) _ _ hR)) (.cons (.tup (SqT.of ((s5.trans s6) _ _ hq1')) (dpA_natsT _)) (.cons (.int _) (.cons (.int _) (.cons (.tup (SqT.of ((s5.trans s6) _ _ hq4')) (dpA_natsT _)) (.cons (.int _) .nil))))))
    (.lst (SqL.of hR6) (.cons (.tup (SqT.of ((s5.trans s6) _ _ hM4)) (dpA_natsT _)) (.cons (.int _) (.cons (.int _) (.cons (.tup (SqT.of (s6 _ _ hq5)) (dpA_natsT _)) (.cons (.int _) .nil))))))
    (told_shape _ _ _ _ _) ?_
  walk_at "rd"
  have hf6 := hf.same t6
  have hw6 := hw.same t6
  have ins6 := hf6.choose_spec.choose_spec.choose_spec.1
  refine ⟨f, _, _, rfl, ins6, f, S, W, h, b, c, k, n, l, rfl, hf6, hw6, o, n3, fun u7 H7 s7 d7 => ?_⟩
  walk_at "rd"
  refine ⟨M, _, rfl, .inr (SqT.of (((s5.trans s6).trans s7) _ _ hM4)), ?_⟩
  rw [natsV_length]
  walk_at "rd"
  refine ⟨p, h, b, c, k, n, (finL h n l).1.length, rfl, (hd.same t6).same s7, o, by omega, n3, fun u8 H8 s8 d8 => ?_⟩
  walk_at "rd"
  refine r_eqD (dp_same s8 d7) d8 sh_pr ?_
  walk_at "rd"
  have t8 := t6.trans (s7.trans s8)
  have hf8 := hf.same t8
  have hw8 := hw.same t8
  refine ⟨f, _, _, rfl, hf8.choose_spec.choose_spec.choose_spec.1, f, S, W, h, n, l, rfl, hf8, ?_⟩
  rintro v9 rfl
  walk_at "rd"
  refine ⟨p, h, b, c, k, rfl, hd.same t8, o, fun w2 H9 nw2 s9 hw9 => ?_⟩
  walk_at "rd"
  have hw9' := hw8.same s9
  refine ⟨W, _, _, _, rfl, hw9'.choose_spec, .base (.ins hw9.choose_spec T.cl_Way T.i_Way.ca T.i_Way.cn T.i_Way.ct T.i_Way.cm), nf_same, W, h, b, c, k, _, rfl, hw9', .inr ⟨w2, h, b, c, k, rfl, hw9, ?_⟩⟩
  rw [show sameWay h b c k h b c k = true by unfold sameWay; simp]
  walk_at "rd"
  have t9 := t8.trans s9
  have hf9 := hf.same t9
  refine ⟨f, _, _, rfl, hf9.choose_spec.choose_spec.choose_spec.1, f, S, W, h, n, l, rfl, hf9, ?_⟩
  rintro v10 rfl
  walk_at "rd"
  rw [decide_eq_true rfl]
  exact q H9 t9

end
section
variable {P : Program} {w : World} {K : Fr0} {mg : Str → Option Value} {base : Heap}
theorem nd_cases {l : List Nat} : l = [] ∨ l ≠ [] := by cases l <;> simp
/-- the row under a filling's change -/
theorem RowAt.mov {K : Fr0} {H H' : Hp} {r f S W : Addr} {h n : Nat} {l : List Nat} (a : FilAt K H f S W h n l) (m : Mov f S H H') (x : RowAt K H r) : RowAt K H' r := by
  obtain ⟨s, ns, p, z, c, h1, h2, h3⟩ := x
  obtain ⟨dx, B, ps, e1, e2, e3, e4, e5⟩ := a
  have ne1 : ps ≠ [] := fun z => by rw [z] at e4; cases e4
  obtain ⟨p0, pr, rfl⟩ : ∃ p0 pr, ps = p0 :: pr := by
    cases ps with
    | nil => exact absurd rfl ne1
    | cons a b => exact ⟨a, b, rfl⟩
  have rS : r ≠ S := by
    intro y
    rw [y, e2] at h1
    have y1 := Option.some.inj h1
    injection y1 with y1
    cases pr with
    | nil => cases y1
    | cons p1 pr => rw [List.map_cons, List.map_cons] at y1; injection y1 with _ y1; injection y1 with y1 _; cases y1
  have rf : r ≠ f := fun y => by rw [y, e1] at h1; cases h1
  refine ⟨s, ns, p, z, c, m.kp _ _ rf rS h1, ?_, h3⟩
  rcases h2 with (h2 | ⟨o, h2⟩) | h2
  · refine .inl (.inl (m.lst (fun y => ?_) h2))
    rw [y, e2] at h2
    have y1 := Option.some.inj h2
    injection y1 with y1
    cases ns with
    | nil => cases y1
    | cons a b => rw [List.map_cons, List.map_cons] at y1; injection y1 with y1 _; cases y1
  · refine .inl (.inr ⟨o, m.kp _ _ (fun y => ?_) (fun y => ?_) h2⟩)
    · rw [y, e1] at h2; cases h2
    · rw [y, e2] at h2; cases h2
  · exact .inr h2
/-- a log under a filling's change -/
theorem log_mov {K : Fr0} {H H' : Hp} {L f S W : Addr} {h n : Nat} {l m' : List Nat} (a : FilAt K H f S W h n l) (m : Mov f S H H') (x : H L = some (.lst (natsV m'))) : H' L = some (.lst (natsV m')) := by
  obtain ⟨dx, B, ps, e1, e2, e3, e4, e5⟩ := a
  refine m.lst (fun y => ?_) x
  rw [y, e2] at x
  have y1 := Option.some.inj x
  injection y1 with y1
  cases ps with
  | nil => cases e4
  | cons a b =>
    cases m' with
    | nil => cases y1
    | cons c d =>
      unfold natsV at y1
      rw [List.map_cons, List.map_cons] at y1
      injection y1 with y1 _
      cases y1
theorem row_log {K : Fr0} {H : Hp} {r L : Addr} {m : List Nat} (x : RowAt K H r) (y : H L = some (.lst (natsV m))) : L ≠ r := by
  obtain ⟨s, ns, p, z, c, h1, h2, h3⟩ := x
  intro e
  rw [e, h1] at y
  have y1 := Option.some.inj y
  injection y1 with y1
  cases m with
  | nil => cases y1
  | cons a b =>
    unfold natsV at y1
    rw [List.map_cons] at y1
    injection y1 with y1 _
    cases y1
theorem row_fil {K : Fr0} {H : Hp} {r f S W : Addr} {h n : Nat} {l : List Nat} (x : RowAt K H r) (a : FilAt K H f S W h n l) : S ≠ r := by
  obtain ⟨s, ns, p, z, c, h1, h2, h3⟩ := x
  obtain ⟨dx, B, ps, e1, e2, e3, e4, e5⟩ := a
  intro y
  rw [y, h1] at e2
  have y1 := Option.some.inj e2
  injection y1 with y1
  cases ps with
  | nil => cases e4
  | cons p0 pr =>
    cases pr with
    | nil => cases y1
    | cons p1 pr => rw [List.map_cons, List.map_cons] at y1; injection y1 with _ y1; injection y1 with y1 _; cases y1
/-- all that the law keeps -/
structure All (K : Fr0) (H : Hp) (r pd W f S g T L N : Addr) (h b c k n : Nat) (l m : List Nat) : Prop where
  row : RowAt K H r
  dr : DrawAt H pd h b c k
  way : WayAt K H W h b c k
  fil : FilAt K H f S W h n l
  twin : FilAt K H g T W h n m
  fg : f ≠ g
  st : S ≠ T
  log : H L = some (.lst (natsV l))
  kept : H N = some (.lst (natsV m))
  ll : l.length ≤ 20
  ml : m.length ≤ 20
  lx : ∀ x ∈ l, x < n
  mx : ∀ x ∈ m, x < n
theorem All.same {K : Fr0} {H H' : Hp} {r pd W f S g T L N : Addr} {h b c k n : Nat} {l m : List Nat} (a : All K H r pd W f S g T L N h b c k n l m) (s : Same H H') : All K H' r pd W f S g T L N h b c k n l m :=
  ⟨a.row.same s, a.dr.same s, a.way.same s, a.fil.same s, a.twin.same s, a.fg, a.st, s _ _ a.log, s _ _ a.kept, a.ll, a.ml, a.lx, a.mx⟩
theorem All.chg {K : Fr0} {H H' : Hp} {r pd W f S g T L N : Addr} {h b c k n : Nat} {l m : List Nat} (a : All K H r pd W f S g T L N h b c k n l m) (s : Chg r H H') (x : RowAt K H' r) : All K H' r pd W f S g T L N h b c k n l m :=
  ⟨x, a.dr.chg s, a.way.chg s, a.fil.chg s (row_fil a.row a.fil), a.twin.chg s (row_fil a.row a.twin), a.fg, a.st, s.kp _ _ (row_log a.row a.log) a.log, s.kp _ _ (row_log a.row a.kept) a.kept, a.ll, a.ml, a.lx, a.mx⟩
theorem c_pickA {K : Fr0} {H : Hp} {r pd W f S g T L N q : Addr} {h b c k n : Nat} {l m : List Nat} {xs : List V} (z : Nat) {Q : VK} {E : XK} (a : All K H r pd W f S g T L N h b c k n l m) (nb : H q = none) (h0 : 0 < z) (h1 : z < 1073741824)
    (kk : ∀ (d : Nat) (H' : Hp), d < z → All K H' r pd W f S g T L N h b c k n l m → H' q = some (.lst xs) → Q (.int d) H') : spTaken K ([.ref r, .int z] ++ []) (upd H q (.lst xs)) Q E :=
  have a' := a.same (same_new (o := .lst xs) nb)
  c_pick z a.row nb h0 h1 fun d H' hd c5 h5 hb => kk d H' hd
    ⟨h5, a.dr.chg c5, a.way.chg c5, a.fil.chg c5 (row_fil a.row a.fil), a.twin.chg c5 (row_fil a.row a.twin), a.fg, a.st, c5.kp _ _ (row_log a.row a.log) a.log, c5.kp _ _ (row_log a.row a.kept) a.kept, a.ll, a.ml, a.lx, a.mx⟩ hb
theorem c_pickB {K : Fr0} {H : Hp} {r pd W f S g T L N q : Addr} {h b c k n : Nat} {l m : List Nat} {xs : List V} (z : Nat) {Q : VK} {E : XK} (a : All K H r pd W f S g T L N h b c k n l m) (nb : H q = none) (h0 : 0 < z) (h1 : z < 1073741824)
    (kk : ∀ (d : Nat) (H' : Hp), d < z → All K H' r pd W f S g T L N h b c k n l m → Chg r (upd H q (.lst xs)) H' → H' q = some (.lst xs) → Q (.int d) H') : spTaken K ([.ref r, .int z] ++ []) (upd H q (.lst xs)) Q E := by
  have a' := a.same (same_new (o := .lst xs) nb)
  refine c_taken (m := z) a'.row h0 h1 fun d H' hd c5 h5 => kk d H' hd (a'.chg c5 h5) c5 (c5.kp _ _ (fun e => ?_) upd_same)
  obtain ⟨y, hy⟩ := a.row.lst
  rw [e, hy] at nb
  cases nb
theorem cut_last (l : List Nat) : cutV (natsV l) none (some (-1)) = natsV l.dropLast := by
  rw [cutV_map]
  congr 1
  unfold cutL
  have a1 : HT.sIx l.length 0 none = 0 := rfl
  have a2 : HT.sIx l.length l.length (some (-1)) = l.length - 1 := by
    simp only [HT.sIx]
    rw [if_pos (by decide)]
    omega
  rw [a1, a2, List.drop_zero, Nat.sub_zero, List.dropLast_eq_take]
theorem ok_law (T : Txt K mg) : Ok P w K mg base CX0 10 "law" ["_law_script"] (spLaw K) := by
  refine T.d_law.ok sc_law bd_law (fun vs H Q E h => by obtain ⟨a, ns, rfl, _⟩ := h; rfl) (fun cdv A outer s H vs Q E hr h => ?_)
  obtain ⟨a, ns, rfl, hS, hl, q⟩ := h
  refine ⟨_, PSs.nox (pss_cons (ps_set (i := 1) sc_law.nd rfl (Or.inl rfl) (pe_lst (pa_cons (pv 0) (pa_cons pe_int (pa_cons pe_int (pa_cons pe_int pa_nil))))))
      (pss_cons (ps_set (i := 2) sc_law.nd rfl (Or.inl rfl) (pe_f (ok_law_drawn T) (hr.mono (by decide)) pass0 (pa_cons (pv 1) pa_nil)))
      (pss_cons (ps_set (i := 3) sc_law.nd rfl (Or.inl rfl) (pe_op op_add (pe_f (ok_law_least T) (hr.mono (by decide)) pass0 (pa_cons (pv 2) pa_nil)) (pe_f (ok_law_taken T) (hr.mono (by decide)) pass0 (pa_cons (pv 1) (pa_cons (pe_ix (ixlK (K := K) rfl) (pe_lst (pa_cons pe_int (pa_cons pe_int pa_nil))) (pe_f (ok_law_taken T) (hr.mono (by decide)) pass0 (pa_cons (pv 1) (pa_cons pe_int pa_nil))) (fun _ _ => rfl)) pa_nil)))))
      (pss_cons (ps_asg (pe_tup (pa_cons (pe_mk T.mk_Filling (ok_Filling_init T) (hr.mono (by decide)) passL T.g_Filling (pa_cons (pe_f (ok_law_made T) (hr.mono (by decide)) pass0 (pa_cons (pv 2) pa_nil)) (pa_cons (pv 3) pa_nil))) (pa_cons (pe_lst pa_nil) pa_nil))) (pg_tup rfl (pgs_cons (pg_name (i := 4) sc_law.nd rfl (Or.inl rfl)) (pgs_cons (pg_name (i := 5) sc_law.nd rfl (Or.inr rfl)) pgs_nil))))
      (pss_cons (ps_par (i := 6) (j := 7) rfl sc_law.nd rfl rfl (by decide) rfl rfl (pa_cons (pe_m0 (pv 4) T.cl_Filling T.m_Filling_copy (ok_Filling_copy T) (hr.mono (by decide)) pass0) (pa_cons (pe_lst pa_nil) pa_nil)) (by rfl))
      (pss_cons (ps_for PassesOwn.never rfl (pi_range1 rfl T.b_range (pa_cons pe_int pa_nil)) (pg_name (i := 8) sc_law.nd rfl (Or.inl rfl)) (pss_cons (ps_setLc (i := 9) (own := [("_law_one", 13)]) (g := gName 13) (tt := _) rfl sc_law.nd rfl rfl (sw_true rfl rfl rfl (by decide +kernel)) (pi_range2 rfl T.b_range (pa_cons (pe_dget (hu_of hr) (pv 2) pe_str (fun _ _ => rfl)) (pa_cons (pv 3) pa_nil))) (blkOk_by (own := [("_law_one", 13)]) (N := N_law) (sc := defScope s_law) (by decide +kernel)) (fun _ _ _ _ _ => pg_name (i := 13) sc_law.nd rfl (Or.inl rfl)) (fun _ _ _ _ _ => (pts_one (pt_cmpR (notInK (K := K) rfl) (pv 13) (pv 5) (by rfl)))) (fun _ _ _ _ _ => (pv 13)))
      (pss_cons (ps_if (pt_cmpR op_eq (pe_f (ok_law_taken T) (hr.mono (by decide)) pass0 (pa_cons (pv 1) (pa_cons pe_int pa_nil))) pe_int (nomark _)) (pss_cons (ps_if (pt_cmpR op_ne (pe_m0 (pv 4) T.cl_Filling T.m_Filling_undo (ok_Filling_undo T) (hr.mono (by decide)) pass0) (pe_cmpR (neDK (K := K) rfl hr.units) (pv 5) (pe_lst pa_nil) (nomark _)) (nomark _)) (pss_one (ps_ret pe_bl)) pss_nil)
      (pss_one (ps_set (i := 5) sc_law.nd rfl (Or.inr rfl) (pe_slice sl_list (pv 5) po_none (po_some (pe_un un_neg pe_int)))))) (pss_one (ps_if (pt_cmpR op_le (pe_callB (lenK (K := K) rfl) rfl T.b_len (by decide +kernel) (pa_cons (pv 9) pa_nil)) (pe_dget (hu_of hr) (pv 2) pe_str (fun _ _ => rfl)) (nomark _)) (pss_one (ps_if (pt_cmpR op_ne (pe_f (ok_law_refused T) (hr.mono (by decide)) pass0 (pa_cons (pv 4) (pa_cons (pe_ix (ixlK (K := K) rfl) (pe_lst (pa_cons pe_int (pa_cons pe_non (pa_cons (pv 3) pa_nil)))) (pe_f (ok_law_taken T) (hr.mono (by decide)) pass0 (pa_cons (pv 1) (pa_cons pe_int pa_nil))) (fun _ _ => rfl)) pa_nil))) pe_str (nomark _)) (pss_one (ps_ret pe_bl)) pss_nil)) (pss_cons (ps_set (i := 10) sc_law.nd rfl (Or.inl rfl) (pe_lst (pa_cons (pe_un un_neg pe_int) (pa_cons (pv 3) (pa_cons pe_non (pa_cons pe_bl (pa_cons pe_str (pa_cons (pe_tup (pa_cons pe_int pa_nil)) pa_nil))))))))
      (pss_cons (ps_if (pt_cmpR op_ne (pe_f (ok_law_refused T) (hr.mono (by decide)) pass0 (pa_cons (pv 4) (pa_cons (pe_ix (ixlK (K := K) rfl) (pv 10) (pe_f (ok_law_taken T) (hr.mono (by decide)) pass0 (pa_cons (pv 1) (pa_cons (pe_callB (lenK (K := K) rfl) rfl T.b_len (by decide +kernel) (pa_cons (pv 10) pa_nil)) pa_nil))) (fun _ _ => rfl)) pa_nil))) pe_str (nomark _)) (pss_one (ps_ret pe_bl)) pss_nil)
      (pss_cons (ps_set (i := 11) sc_law.nd rfl (Or.inl rfl) (pe_ifExp (pt_cmpR op_eq (pe_f (ok_law_taken T) (hr.mono (by decide)) pass0 (pa_cons (pv 1) (pa_cons pe_int pa_nil))) pe_int (nomark _)) (pe_ix (ixlK (K := K) rfl) (pv 9) pe_int (fun _ _ => rfl)) (pe_f (ok_law_taken T) (hr.mono (by decide)) pass0 (pa_cons (pv 1) (pa_cons (pv 3) pa_nil)))))
      (pss_cons (ps_if (pt_cmpR op_notN (pe_m (pv 4) T.cl_Filling T.m_Filling_add (ok_Filling_add T) (hr.mono (by decide)) passL (pa_cons (pv 11) pa_nil)) pe_non (nomark _)) (pss_one (ps_ret pe_bl)) pss_nil)
      (pss_one (ps_set (i := 5) sc_law.nd rfl (Or.inr rfl) (pe_op op_cat (pv 5) (pe_lst (pa_cons (pv 11) pa_nil))))))))))))
      (pss_cons (ps_if (pt_not (pt_val (pe_f (ok_law_is T) (hr.mono (by decide)) pass0 (pa_cons (pv 4) (pa_cons (pv 2) (pa_cons (pv 3) (pa_cons (pv 5) pa_nil))))))) (pss_one (ps_ret pe_bl)) pss_nil)
      (pss_one (ps_if (pt_cmpR op_eq (pv 8) pe_int (nomark _)) (pss_one (ps_par (i := 6) (j := 7) rfl sc_law.nd rfl rfl (by decide) rfl rfl (pa_cons (pe_m0 (pv 4) T.cl_Filling T.m_Filling_copy (ok_Filling_copy T) (hr.mono (by decide)) pass0) (pa_cons (pv 5) pa_nil)) (by rfl))) pss_nil))))))
      (pss_cons (ps_if (PW.pt (pw_or (pt_not (pt_val (pe_f (ok_law_is T) (hr.mono (by decide)) pass0 (pa_cons (pv 6) (pa_cons (pv 2) (pa_cons (pv 3) (pa_cons (pv 7) pa_nil))))))) (pw_or1 (pt_not (pt_val (pe_f (ok_law_is T) (hr.mono (by decide)) pass0 (pa_cons (pv 4) (pa_cons (pv 2) (pa_cons (pv 3) (pa_cons (pv 5) pa_nil)))))))))) (pss_one (ps_ret pe_bl)) pss_nil)
      (pss_cons (ps_set (i := 12) sc_law.nd rfl (Or.inl rfl) (pe_ix (ixlK (K := K) rfl) (pe_lst (pa_cons (pe_op op_sub (pe_f (ok_law_least T) (hr.mono (by decide)) pass0 (pa_cons (pv 2) pa_nil)) pe_int) (pa_cons pe_int (pa_cons pe_non (pa_cons pe_bl (pa_cons pe_str pa_nil)))))) (pe_f (ok_law_taken T) (hr.mono (by decide)) pass0 (pa_cons (pv 1) (pa_cons pe_int pa_nil))) (fun _ _ => rfl)))
      (pss_one (ps_ret (pe_cmpR (eqDK (K := K) rfl hr.units) (pe_f (ok_law_begun T) (hr.mono (by decide)) pass0 (pa_cons (pe_f (ok_law_made T) (hr.mono (by decide)) pass0 (pa_cons (pv 2) pa_nil)) (pa_cons (pv 12) pa_nil))) (pe_lst (pa_cons (pv 12) pa_nil)) (nomark _)))))))))))), ?_⟩
  walk_at "k0"
  walk_at "rd"
  refine ⟨by show 4 ≤ sizeLine; decide, fun r nr => ?_⟩
  walk_at "rd"
  refine ⟨r, rfl, RowAt.new nr hS, fun h b c k H1 pd ok npd c1 h1 hd1 => ?_⟩
  have o := ok.way
  have oh := o.h
  have ob := o.b
  walk_at "rd"
  refine ⟨pd, h, b, c, k, rfl, hd1, ?_⟩
  walk_at "rd"
  refine ⟨by show 2 ≤ sizeLine; decide, fun p2 np2 => ?_⟩
  walk_at "rd"
  refine c_pick 2 h1 np2 (by decide) (by decide) fun d3 H3 hd3 c3 h3 hb3 => ?_
  have hdr3 := hd1.chg c3
  obtain ⟨m4, e4, m40, m41⟩ : ∃ m4 : Nat, atI [V.int 4, .int 20] (d3 : Int) = some (.int m4) ∧ 0 < m4 ∧ m4 ≤ 20 := by
    rcases nat_two hd3 with rfl | rfl
    · exact ⟨4, rfl, by decide, by decide⟩
    · exact ⟨20, rfl, by decide, by decide⟩
  refine r_ixA hb3 e4 ?_
  walk_at "rd"
  refine c_taken (m := m4) h3 m40 (by omega) fun d5 H5 hd5 c5 h5 => ?_
  have hdr5 := hdr3.chg c5
  walk_at "rd"
  rw [show ((max 1 (h + b) : Nat) : Int) + (d5 : Int) = ((max 1 (h + b) + d5 : Nat) : Int) by omega]
  have n1 : max 1 (h + b) ≤ max 1 (h + b) + d5 := by omega
  have n3 : max 1 (h + b) + d5 ≤ 40 := by omega
  generalize max 1 (h + b) + d5 = n at n1 n3
  refine ⟨pd, h, b, c, k, rfl, hdr5, o, fun W H6 nW s6 hw6 => ?_⟩
  walk_at "rd"
  refine c_fill hw6 n1 (by omega) fun f S H7 nf nS nfS s7 hf => ?_
  walk_at "rd"
  refine ⟨Nat.zero_le _, fun L nL => ?_⟩
  walk_at "rd"
  refine ⟨by show 2 ≤ sizeLine; decide, fun pt npt => ?_⟩
  walk_at "rd"
  refine r_gtup (SqT.of upd_same) rfl ?_
  walk_at "rd"
  have sL := same_new (o := .lst []) nL
  have hL0 := upd_same (H := H7) (a := L) (o := .lst [])
  have sP := same_new (o := .tup [.ref f, .ref L]) npt
  have s8 := s7.trans (sL.trans sP)
  have hf8 := hf.same (sL.trans sP)
  have hL8 := sP _ _ hL0
  have hw8 := hw6.same s8
  have hd8 := (hdr5.same s6).same s8
  have h8 := (h5.same s6).same s8
  generalize upd (upd H7 L (.lst [])) pt (.tup [.ref f, .ref L]) = H8 at *
  refine ⟨f, _, _, rfl, hf8.choose_spec.choose_spec.choose_spec.1, rfl, ?_⟩
  refine ⟨f, S, W, h, b, c, k, n, [], rfl, hf8, hw8, n1, by omega, fun g U H9 ng nU ngU s9 hg => ?_⟩
  walk_at "rd"
  refine ⟨Nat.zero_le _, fun N nN => ?_⟩
  walk_at "rd"
  have sN' := same_new (o := .lst []) nN
  have hN := upd_same (H := H9) (a := N) (o := .lst [])
  have nfg : f ≠ g := by
    obtain ⟨_, _, _, e, _⟩ := hf8
    exact ne_of_none e ng
  have nSU : S ≠ U := by
    obtain ⟨_, _, _, _, e, _⟩ := hf8
    exact ne_of_none e nU
  have s10 := s9.trans sN'
  have A0 : All K (upd H9 N (.lst [])) r pd W f S g U L N h b c k n [] [] := ⟨h8.same s10, hd8.same s10, hw8.same s10, hf8.same s10, hg.same sN', nfg, nSU, s10 _ _ hL8, hN, by decide, by decide, (fun x hx => nomatch hx), (fun x hx => nomatch hx)⟩
  refine ⟨by decide, by decide, ?_⟩
  refine for_range (lo := 0) (n := 14) (fun i σ H' => ∃ (L g U N : Addr) (l m : List Nat) (a8 a9 a10 a11 a12 a13 : Option V), σ = [some (.ref a), some (.ref r), some (.ref pd), some (.int (n : Int)), some (.ref f), some (.ref L), some (.ref g), some (.ref N), a8, a9, a10, a11, a12, a13] ∧
      All K H' r pd W f S g U L N h b c k n l m ∧ l.length ≤ i)
    ⟨L, g, U, N, [], [], _, _, _, _, _, _, rfl, A0, Nat.le_refl _⟩ ?_ ?_
  · clear A0 hN sN' nSU nfg hg s10 s9 nN ngU nU ng h8 hd8 hw8 hL8 hf8 s8 sP hL0 sL npt nL hf s7
    rintro i σ H1 hi ⟨L, g, U, N, l, m, a8, a9, a10, a11, a12, a13, rfl, A1, li⟩
    walk_at "rd"
    obtain ⟨G1, _, _, _⟩ := drawG A1.dr
    refine ⟨pd, _, rfl, G1, ?_⟩
    walk_at "rd"
    refine ⟨_, _, rfl, by omega, fun D nD => ?_⟩
    rw [show ((n : Int) - (h : Int)).toNat = n - h by omega]
    refine lc_filt walk_range (List.range' h (n - h)) (fun x => decide (x ∉ l)) (List.length_range' ..) (by omega) nD (fun _ _ => True.intro) y_range ?_ ?_
    · intro e H4 A' B' _ s4 kA kB
      walk_at "rd"
      refine ⟨rfl, ?_⟩
      walk_at "rd"
      refine ⟨L, _, rfl, .inl (SqL.of (s4 _ _ A1.log)), rfl, flat_nats _, ?_⟩
      rw [inV_nats]
      refine ⟨_, rfl, ?_⟩
      by_cases z : e ∈ l
      · rw [decide_eq_true z]
        exact iteF (kA (decide_eq_false (fun y => y z)))
      · rw [decide_eq_false z]
        refine iteT ?_
        walk_at "rd"
        exact kB (decide_eq_true z)
    intro H2 s2 hD2
    rw [← fin_miss] at hD2
    have A2 := A1.same s2
    walk_at "rd"
    refine r_viaS (fun σ' H' => ∃ (L' : Addr) (l' : List Nat) (b9 b10 b11 b12 b13 : Option V), σ' = [some (.ref a), some (.ref r), some (.ref pd), some (.int (n : Int)), some (.ref f), some (.ref L'), some (.ref g), some (.ref N), some (.int (0 + (i : Int))), b9, b10, b11, b12, b13] ∧
      All K H' r pd W f S g U L' N h b c k n l' m ∧ l'.length ≤ i + 1) (fun nx kk => ?_) ?_
    · walk_at "if"
      refine c_taken (m := 6) A2.row (by decide) (by decide) fun d3 H3 hd3 c3 h3 => ?_
      have A3 := A2.chg c3 h3
      have hD3 := c3.kp _ _ (row_log A2.row hD2) hD2
      have ins3 := A3.fil.choose_spec.choose_spec.choose_spec.1
      walk_at "rd"
      refine r_dec (fun _ => ?_) (fun _ => ?_)
      · walk_at "rd"
        walk_at "if"
        refine ⟨f, _, _, rfl, ins3, rfl, ?_⟩
        refine sp_via (fun v H' => v = .bl (!decide (l = [])) ∧ RowAt K H' r ∧ DrawAt H' pd h b c k ∧ WayAt K H' W h b c k ∧ FilAt K H' f S W h n l.dropLast ∧ FilAt K H' g U W h n m ∧ H' L = some (.lst (natsV l)) ∧ H' N = some (.lst (natsV m))) (fun Q' kk2 => ⟨f, S, W, h, n, l, rfl, A3.fil, by have := A3.ll; omega, ?_⟩) ?_
        · by_cases z : l = []
          · refine .inl ⟨z, kk2 _ _ ⟨by rw [decide_eq_true z]; rfl, A3.row, A3.dr, A3.way, ?_, A3.twin, A3.log, A3.kept⟩⟩
            rw [z, List.dropLast_nil]
            have := A3.fil
            rw [z] at this
            exact this
          · exact .inr ⟨z, fun H4 m4 f4 => kk2 _ _ ⟨by rw [decide_eq_false z]; rfl, RowAt.mov A3.fil m4 A3.row, m4.draw A3.dr, m4.way A3.way, f4, A3.twin.mov m4 A3.fg.symm A3.st.symm, log_mov A3.fil m4 A3.log, log_mov A3.fil m4 A3.kept⟩⟩
        rintro v4 H4 ⟨rfl, row4, dr4, way4, fil4, twin4, log4, kept4⟩
        walk_at "rd"
        refine ⟨Nat.zero_le _, fun pz npz => ?_⟩
        walk_at "rd"
        have sz := same_new (o := .lst []) npz
        refine r_neNl (sz _ _ log4) upd_same ?_
        refine r_neB ?_
        rw [decide_eq_true rfl]
        generalize upd H4 pz (.lst []) = H5 at sz
        walk_at "rd"
        refine r_sl (SqL.of (sz _ _ log4)) fun q6 nq6 => ?_
        rw [cut_last]
        have s6 := same_new (o := .lst (natsV l.dropLast)) nq6
        have hq6 := upd_same (H := H5) (a := q6) (o := .lst (natsV l.dropLast))
        have t6 := sz.trans s6
        have dl : ∀ x ∈ l.dropLast, x ∈ l := fun x hx => by rw [List.dropLast_eq_take] at hx; exact List.mem_of_mem_take hx
        have dln : l.dropLast.length ≤ l.length := by rw [List.length_dropLast]; omega
        refine kk _ _ ⟨q6, l.dropLast, _, _, _, _, _, rfl, ⟨row4.same t6, dr4.same t6, way4.same t6, fil4.same t6, twin4.same t6, A3.fg, A3.st, hq6, t6 _ _ kept4, ?_, A3.ml, fun x hx => A3.lx x (dl x hx), A3.mx⟩, by omega⟩
        have := A3.ll
        omega
      · walk_at "rd"
        walk_at "if"
        refine ⟨D, _, rfl, .inl (SqL.of hD3), ?_⟩
        rw [natsV_length]
        walk_at "rd"
        obtain ⟨_, G3, _, _⟩ := drawG A3.dr
        refine ⟨pd, _, rfl, G3, ?_⟩
        walk_at "rd"
        refine r_dec (fun hdone => ?_) (fun hdone => ?_)
        · have hdone : (finL h n l).1.length ≤ b := by
            have : ((finL h n l).1.length : Int) ≤ (b : Int) := hdone
            omega
          walk_at "rd"
          walk_at "if"
          refine ⟨by show 3 ≤ sizeLine; decide, fun q4 nq4 => ?_⟩
          walk_at "rd"
          refine c_pickA 3 A3 nq4 (by decide) (by decide) fun d5 H5 hd5 A5 hq5 => ?_
          obtain ⟨v, t, ev, hv⟩ : ∃ v t, atI [V.int 0, .non, .int (n : Int)] (d5 : Int) = some v ∧ AnyV K H5 v t := by
            have : d5 = 0 ∨ d5 = 1 ∨ d5 = 2 := by omega
            rcases this with rfl | rfl | rfl
            · exact ⟨_, _, rfl, .int _⟩
            · exact ⟨_, _, rfl, .non⟩
            · exact ⟨_, _, rfl, .int _⟩
          refine r_ixA hq5 ev ?_
          walk_at "rd"
          refine ⟨f, S, W, h, b, c, k, n, l, v, t, rfl, A5.fil, A5.way, hv, by omega, by have := A5.ll; omega, .inl ⟨hdone, fun H6 s6 => ?_⟩⟩
          walk_at "rd"
          rw [decide_eq_true rfl]
          walk_at "rd"
          exact kk _ _ ⟨L, l, _, _, _, _, _, rfl, A5.same s6, by omega⟩
        · have hdone : ¬ (finL h n l).1.length ≤ b := by
            intro z
            apply hdone
            show ((finL h n l).1.length : Int) ≤ (b : Int)
            omega
          walk_at "rd"
          refine ⟨by show 1 ≤ sizeLine; decide, fun qt nqt => ?_⟩
          walk_at "rd"
          have st := same_new (o := .tup [.int 0]) nqt
          have hqt := upd_same (H := H3) (a := qt) (o := .tup [.int 0])
          have A4 := A3.same st
          have hD4 := st _ _ hD3
          generalize upd H3 qt (.tup [.int 0]) = H4 at *
          refine ⟨by show 6 ≤ sizeLine; decide, fun q4 nq4 => ?_⟩
          walk_at "rd"
          walk_at "if"
          refine ⟨q4, _, rfl, .inl (SqL.of upd_same), ?_⟩
          walk_at "rd"
          have hqt4 := same_new (o := .lst [.int (-1), .int (n : Int), .non, .bl true, .str "0", .ref qt]) nq4 _ _ hqt
          have hD5a := same_new (o := .lst [.int (-1), .int (n : Int), .non, .bl true, .str "0", .ref qt]) nq4 _ _ hD4
          refine c_pickB 6 A4 nq4 (by decide) (by decide) fun d5 H5 hd5 A5 c5 hq5 => ?_
          have hqt5 := c5.at hqt4 fun _ z => (nomatch z)
          have hD5 := c5.kp _ _ (row_log (A4.same (same_new nq4)).row hD5a) hD5a
          obtain ⟨v, t, ev, hv, hbad⟩ : ∃ v t, atI [V.int (-1), .int (n : Int), .non, .bl true, .str "0", .ref qt] (d5 : Int) = some v ∧ AnyV K H5 v t ∧ isIn 0 ((n : Int) - 1) v = false := by
            rcases nat_six hd5 with rfl | rfl | rfl | rfl | rfl | rfl
            · exact ⟨_, _, rfl, .int _, rfl⟩
            · exact ⟨_, _, rfl, .int _, by unfold isIn; simp; omega⟩
            · exact ⟨_, _, rfl, .non, rfl⟩
            · exact ⟨_, _, rfl, .bl _, rfl⟩
            · exact ⟨_, _, rfl, .str _, rfl⟩
            · exact ⟨_, _, rfl, .tup (.base (.tup hqt5)), rfl⟩
          refine r_ixA hq5 ev ?_
          walk_at "rd"
          refine ⟨f, S, W, h, b, c, k, n, l, v, t, rfl, A5.fil, A5.way, hv, by omega, by have := A5.ll; omega, .inr ⟨hdone, hbad, fun H6 s6 => ?_⟩⟩
          walk_at "rd"
          rw [decide_eq_true rfl]
          have A6 := A5.same s6
          have hD6 := s6 _ _ hD5
          walk_at "rd"
          refine r_via (fun v H' => ∃ pc : Nat, v = .int (pc : Int) ∧ pc < n ∧ All K H' r pd W f S g U L N h b c k n l m) (fun Q' kk3 => ?_) ?_
          · walk_at "if"
            refine c_taken (m := 2) A6.row (by decide) (by decide) fun d7 H7 hd7 c7 h7 => ?_
            have A7 := A6.chg c7 h7
            have hD7 := c7.kp _ _ (row_log A6.row hD6) hD6
            walk_at "rd"
            refine r_dec (fun _ => ?_) (fun _ => ?_)
            · walk_at "rd"
              cases em : (finL h n l).1 with
              | nil =>
                exfalso
                rw [em] at hdone
                exact hdone (Nat.zero_le _)
              | cons x rest =>
                rw [em] at hD7
                refine r_ixA hD7 (atI_nat (j := 0) (v := V.int (x : Int)) rfl) ?_
                refine kk3 _ _ ⟨x, rfl, ?_, A7⟩
                have mx : x ∈ (finL h n l).1 := by rw [em]; exact List.mem_cons_self
                rw [fin_miss] at mx
                have := (List.mem_filter.mp mx).1
                rw [List.mem_range'_1] at this
                omega
            · walk_at "rd"
              refine c_taken (m := n) A7.row (by omega) (by omega) fun d8 H8 hd8 c8 h8 => ?_
              exact kk3 _ _ ⟨d8, rfl, hd8, A7.chg c8 h8⟩
          rintro v7 H7 ⟨pc, rfl, hpc, A7⟩
          walk_at "rd"
          walk_at "if"
          refine ⟨f, _, _, rfl, A7.fil.choose_spec.choose_spec.choose_spec.1, rfl, ?_⟩
          walk_at "rd"
          refine ⟨f, S, W, h, b, c, k, n, l, _, "int", rfl, A7.fil, A7.way, .int _, by omega, by have := A7.ll; omega, .inr ⟨hdone, .inr ⟨pc, rfl, hpc, fun H8 m8 f8 => ?_⟩⟩⟩
          walk_at "rd"
          refine ⟨rfl, ?_⟩
          rw [decide_eq_true rfl]
          walk_at "rd"
          have log8 := log_mov A7.fil m8 A7.log
          have kept8 := log_mov A7.fil m8 A7.kept
          refine ⟨by show 1 ≤ sizeLine; decide, fun q9 nq9 => ?_⟩
          walk_at "rd"
          have s9 := same_new (o := .lst [.int (pc : Int)]) nq9
          have hq9 := upd_same (H := H8) (a := q9) (o := .lst [.int (pc : Int)])
          generalize upd H8 q9 (.lst [.int (pc : Int)]) = H9 at *
          refine r_cat (s9 _ _ log8) hq9 (by rw [natsV_length]; have := A7.ll; show l.length + 1 < 100000; omega) fun q10 nq10 => ?_
          walk_at "rd"
          have s10 := s9.trans (same_new (o := .lst (natsV l ++ [.int (pc : Int)])) nq10)
          have e10 : natsV l ++ [V.int (pc : Int)] = natsV (l ++ [pc]) := by unfold natsV; rw [List.map_append]; rfl
          have hq10 : upd H9 q10 (.lst (natsV l ++ [.int (pc : Int)])) q10 = some (.lst (natsV (l ++ [pc]))) := by rw [upd_same, e10]
          have ln : (l ++ [pc]).length = l.length + 1 := by rw [List.length_append]; rfl
          refine kk _ _ ⟨q10, l ++ [pc], _, _, _, _, _, rfl, ⟨(RowAt.mov A7.fil m8 A7.row).same s10, (m8.draw A7.dr).same s10, (m8.way A7.way).same s10, f8.same s10, (A7.twin.mov m8 A7.fg.symm A7.st.symm).same s10, A7.fg, A7.st, hq10, s10 _ _ kept8, by omega, A7.ml, fun x hx => ?_, A7.mx⟩, by omega⟩
          rcases List.mem_append.mp hx with hx | hx
          · exact A7.lx x hx
          · obtain rfl : x = pc := by simpa using hx
            exact hpc
    rintro σ3 H3 ⟨L', l', b9, b10, b11, b12, b13, rfl, A3, li3⟩
    walk_at "rd"
    walk_at "if"
    refine ⟨f, S, W, pd, L', h, b, c, k, n, l', rfl, A3.fil, A3.way, A3.dr, o, n1, by omega, by have := A3.ll; omega, A3.lx, A3.log, fun H4 s4 => ?_⟩
    have A4 := A3.same s4
    walk_at "rd"
    walk_at "if"
    refine r_dec (fun _ => ?_) (fun _ => ?_)
    · walk_at "rd"
      have ins4 := A4.fil.choose_spec.choose_spec.choose_spec.1
      refine ⟨f, _, _, rfl, ins4, rfl, ?_⟩
      refine ⟨f, S, W, h, b, c, k, n, l', rfl, A4.fil, A4.way, n1, by omega, fun g2 U2 H5 ng2 nU2 ngU2 s5 hg2 => ?_⟩
      walk_at "rd"
      have fg2 : f ≠ g2 := by
        obtain ⟨_, _, _, e, _⟩ := A4.fil
        exact ne_of_none e ng2
      have st2 : S ≠ U2 := by
        obtain ⟨_, _, _, _, e, _⟩ := A4.fil
        exact ne_of_none e nU2
      have A5 := A4.same s5
      exact ⟨L', g2, U2, L', l', l', _, _, _, _, _, _, rfl, ⟨A5.row, A5.dr, A5.way, A5.fil, hg2, fg2, st2, A5.log, A5.log, A5.ll, A5.ll, A5.lx, A5.lx⟩, li3⟩
    · walk_at "rd"
      exact ⟨L', g, U, N, l', m, _, _, _, _, _, _, rfl, A4, li3⟩
  · rintro σ H1 ⟨L, g, U, N, l, m, a8, a9, a10, a11, a12, a13, rfl, A1, li⟩
    walk_at "rd"
    walk_at "if"
    refine ⟨g, U, W, pd, N, h, b, c, k, n, m, rfl, A1.twin, A1.way, A1.dr, o, n1, by omega, by have := A1.ml; omega, A1.mx, A1.kept, fun H2 s2 => ?_⟩
    have A2 := A1.same s2
    walk_at "rd"
    refine ⟨f, S, W, pd, L, h, b, c, k, n, l, rfl, A2.fil, A2.way, A2.dr, o, n1, by omega, by have := A2.ll; omega, A2.lx, A2.log, fun H3 s3 => ?_⟩
    have A3 := A2.same s3
    walk_at "rd"
    refine ⟨pd, h, b, c, k, rfl, A3.dr, ?_⟩
    walk_at "rd"
    refine ⟨by show 5 ≤ sizeLine; decide, fun q4 nq4 => ?_⟩
    walk_at "rd"
    refine c_pickA 5 A3 nq4 (by decide) (by decide) fun d5 H5 hd5 A5 hq5 => ?_
    obtain ⟨v, t, dv, ev, lf, hbad, shp⟩ : ∃ v t dv, atI [V.int (((max 1 (h + b) : Nat) : Int) - 1), .int 301, .non, .bl true, .str "9"] (d5 : Int) = some v ∧ Leaf dv v t ∧ isIn ((max 1 (h + b) : Nat) : Int) 300 v = false ∧ SeqAt.shaped (.list [dv]) = true := by
      rcases nat_five hd5 with rfl | rfl | rfl | rfl | rfl
      · exact ⟨_, _, _, rfl, .int _, by unfold isIn; simp; omega, rfl⟩
      · exact ⟨_, _, _, rfl, .int _, by unfold isIn; simp, rfl⟩
      · exact ⟨_, _, _, rfl, .non, rfl, rfl⟩
      · exact ⟨_, _, _, rfl, .bl _, rfl, rfl⟩
      · exact ⟨_, _, _, rfl, .str _, rfl, by decide +kernel⟩
    refine r_ixA hq5 ev ?_
    walk_at "rd"
    refine ⟨pd, h, b, c, k, rfl, A5.dr, o, fun w6 H6 nw6 s6 hw6 => ?_⟩
    walk_at "rd"
    refine ⟨w6, h, b, c, k, v, t, rfl, hw6, lf.any, hbad, fun p7 H7 np7 s7 hp7 => ?_⟩
    walk_at "rd"
    refine ⟨by show 1 ≤ sizeLine; decide, fun p8 np8 => ?_⟩
    walk_at "rd"
    have s8 := same_new (o := .lst [v]) np8
    refine r_eqD (d := .list [dv]) (.lst (SqL.of (s8 _ _ hp7)) (.cons lf.dp .nil)) (.lst (SqL.of upd_same) (.cons lf.dp .nil)) shp ?_
    walk_at "rd"
    exact q _

end
set_option maxHeartbeats 0
def names0 : List Str := ["AlbumError", "InvalidPart", "BadNumber", "BadPicture", "Ended", "NOUGHT", "is_whole", "is_within", "common", "fraction", "added", "product"]
def names1 : List Str := ["total", "MOST_HAVE", "MOST_BUY", "MOST_PRICE", "MOST_PACK", "Way", "need_part", "need_number", "MOST_NUMBER", "step_means", "need_album", "Filling"]
def names2 : List Str := ["is_done", "_law_taken", "_law_frac", "_law_sum", "_law_times", "_law_total", "_law_drawn", "_law_least", "_law_made", "_law_refused", "_law_begun", "_law_left"]
def names3 : List Str := ["_law_is"]
def names : List Str := names0 ++ names1 ++ names2 ++ names3
abbrev R : PySem.W.OpenRow := PySem.W.OpenLaw.row PySem.Challenge.rw_albumforms_k12_whole_fillings
abbrev hk : PySem.W.Hook := hookB 5 fs fn
def ob (s : PySem.W.SharedT) : He.AlD := lookB 5 fs fn (HandSHeadRun.getT s)
theorem ob_hook (s : PySem.W.SharedT) : ob s = hk.obs s.abs := lookB_hook (HandSHeadRun.getT_eq s)
theorem run (w : World) : HandSHeadRun.RunEq R (PySem.W.view R.prog [43]) hk ob 9000 names w := by
  intro os
  kernel_rfl
theorem ref_inj {mg : Str → Option Value} {x : Str} {a b : Addr} (h1 : mg x = some (.ref a)) (h2 : mg x = some (.ref b)) : a = b := by
  rw [h1] at h2
  injection h2 with h2
  injection h2
end Ab
open PySem PySem.W PySem.Calls PyProof.Rows
theorem PySem.Challenge.cw_albumforms_k12_whole_fillings_holds : PySem.Challenge.rw_albumforms_k12_whole_fillings.Holds := by
  w_on; o_law
  refine HandSHeadRun.head_any (r := OpenLaw.row PySem.Challenge.rw_albumforms_k12_whole_fillings) (q := view (OpenLaw.row PySem.Challenge.rw_albumforms_k12_whole_fillings).prog [43]) (H := Ab.hk) (ob := Ab.ob) (M := 9000) (loose := Ab.names)
    (d := HandSHeadRun.topDef (OpenLaw.row PySem.Challenge.rw_albumforms_k12_whole_fillings).prog 43) (kwd := []) Ab.ob_hook
    (by kernel_rfl) (fun s => by kernel_rfl) Ab.run (by kernel_rfl) (by kernel_rfl) (by kernel_rfl) (by rfl) (by first | assumption | decide +kernel) (by decide +kernel) ⟨rfl, rfl, rfl, rfl, rfl, by decide +kernel⟩ ?hw ?hc
  case hw => w_witness2
  case hc =>
    refine L2.walk_ofE (l := PySem.Challenge.rw_albumforms_k12_whole_fillings) (n := 63) (k := 10) (x := "_law_script") (CX := L2.CX0) rfl (by decide) (by kernel_rfl) ⟨rfl, by decide, by decide⟩ ?F (fun _ _ _ _ z => z)
    intro w mg fa h Y G hmg0
    obtain ⟨K, KX, c⟩ := Y
    have hmg : mg ("law" : PySem.Str) = some (.ref fa) := by
      have e : (HandSHeadRun.topDef (OpenLaw.row PySem.Challenge.rw_albumforms_k12_whole_fillings).prog 43).name = ("law" : PySem.Str) := by kernel_rfl
      rw [← e]
      exact hmg0
    have T : Ab.Txt K mg := Ab.txt_of KX G c
    obtain ⟨fd, F⟩ := T.d_law.fn
    obtain rfl : fa = Ab.fA K "law" := Ab.ref_inj hmg T.d_law.gl
    exact ⟨K, fd, Ab.spLaw K, KX, fun s u => L2.FunD.bindsA (ps := ["_law_script"]) F Ab.bd_law s [u] rfl, fun H a ns hl _ hS => ⟨a, ns, rfl, hS, hl, fun _ => rfl⟩,
      fun base _ _ => Ab.fn_of_ok (Ab.ok_law T) F⟩
#print axioms PySem.Challenge.cw_albumforms_k12_whole_fillings_holds
