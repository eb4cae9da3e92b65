import PyProof.Rows.All
import Wide.All
import OpenK.AllK
import Wide.FinOn
import PyProof.EqAt
import PyProof.EqKinds
import PyProof.TupleCall
import HandS.ForMost
import HandS.Exc
import HandS.TryOnly
import HandS.ExcOwn
import HandS.WordsExc
import HandS.IsInst
import HandS.ExcIs
import HandS.Evl
import HandS.HotCalls
import HandS.Deep
import KE.RegKIsAll
import PySem.Challenge.RW_backmarks_k04_table_by_steps
set_option Elab.async false
set_option linter.all false
set_option maxRecDepth 100000
set_option maxHeartbeats 4000000
/-! ## Common words: a def as it stands, what it promises, an error class, things that are whole numbers or not -/
namespace BM
open PySem PySem.Spec PyProof.Rows L2

/-- the def named x of the module's top -/
def Def (K : PySem.W.Frag) (mg : Str → Option Value) (x qual : Str) (st : Stmt) (ps : List Str) : Prop :=
  ∃ (f : Addr) (fd : FuncData), mg x = some (.ref f) ∧ Fun K x qual st f fd ∧ Binds K fd ps []
/-- it keeps its promise -/
def OkF (P : Program) (w : World) (K : PySem.W.Frag) (mg : Str → Option Value) (base : Heap) (x : Str) (k : Nat) (ps : List Str) (sp : Sp) : Prop :=
  ∃ (f : Addr) (fd : FuncData), mg x = some (.ref f) ∧ PySem.W.keepIn K (.ref f) = true ∧ Binds K fd ps [] ∧ FnOk P w K mg base (L2.CX P w) k f fd ps sp
/-- a class of the program's own errors, without a body of its own -/
structure XC (K : PySem.W.Frag) (mg : Str → Option Value) (n : Str) (C : Addr) : Prop where
  g : mg n = some (.ref C)
  x : PySem.W.excIn K C [.type "ValueError", .type "Exception", .type "BaseException", .type "object"] "ValueError.__new__" = true
  k : PySem.W.keepIn K (.ref C) = true
  b : PySem.W.subIn K (.ref C) (.type "BaseException") = some true
  t : PySem.W.typeIn K (.ref C) = some (.type "type")
section
variable {P : Program} {w : World} {K : PySem.W.Frag} {mg : Str → Option Value} {base : Heap}
theorem okf {x qual : Str} {st : Stmt} {N ps : List Str} {k : Nat} {sp : Sp} (D : Def K mg x qual st ps) (S : FnScope N ps (defScope st)) (len : ∀ vs H Q E, sp vs H Q E → vs.length = ps.length)
    (hbody : ∀ (f : Addr) (cdv : Value) (A : Around) (outer : List Env) (s : Shared) (H : Hp) (vs : List V) (Q : VK) (E : XK), Room k (A.deeper (envOfC qual (defScope st) s.heap.objs.size f cdv)) → sp vs H Q E →
      ∃ t, PSs (cxOf (L2.CX P w) P w K mg base N qual (defScope st) f cdv A outer s H E) (defBody st) t ∧ t { nx := fun _ H' => Q .non H', rt := Q } (start N vs) H) : OkF P w K mg base x (k + 1) ps sp := by
  obtain ⟨f, fd, hm, F, hb⟩ := D
  exact ⟨f, fd, hm, F.kp, hb, F.okX S len (fun cdv A outer s H vs Q E hr h => hbody f cdv A outer s H vs Q E hr h)⟩
theorem OkF.mono {x : Str} {j k : Nat} {ps : List Str} {sp : Sp} (F : OkF P w K mg base x j ps sp) (h : j ≤ k) : OkF P w K mg base x k ps sp := by
  obtain ⟨f, fd, hm, hk, hb, G⟩ := F
  exact ⟨f, fd, hm, hk, hb, G.mono h⟩
end
/-- a thing, and the whole number that it is (no truth value is one) -/
inductive Thg (K : PySem.W.Frag) (H : Hp) : V → Option Int → Prop where
  | int (i : Int) : Thg K H (.int i) (some i)
  | bl (b : Bool) : Thg K H (.bl b) none
  | oth {x : V} {t : Value} (ty : TyX K H x t) (ni : PySem.W.kitOne K t (.type "int") = some false) : Thg K H x none
theorem Thg.non {K : PySem.W.Frag} {H : Hp} : Thg K H .non none := .oth (.base .non) (kit_ty (by decide +kernel))
theorem Thg.str {K : PySem.W.Frag} {H : Hp} (x : Str) : Thg K H (.str x) none := .oth (.base (.str x)) (kit_ty (by decide +kernel))
theorem Thg.lst {K : PySem.W.Frag} {H : Hp} {a : Addr} {xs : List V} (e : H a = some (.lst xs)) : Thg K H (.ref a) none := .oth (.base (.lst e)) (kit_ty (by decide +kernel))
theorem Thg.tup {K : PySem.W.Frag} {H : Hp} {a : Addr} {xs : List V} (e : H a = some (.tup xs)) : Thg K H (.ref a) none := .oth (.base (.tup e)) (kit_ty (by decide +kernel))
theorem Thg.dK {K : PySem.W.Frag} {H : Hp} {a : Addr} {xs : List (Key × V)} (e : H a = some (.dK xs)) : Thg K H (.ref a) none := .oth (.base (.dK e)) (kit_ty (by decide +kernel))
theorem tyOf_same {K : PySem.W.Frag} {H H' : Hp} {x : V} {t : Value} (e : Same H H') (h : TyOf K H x t) : TyOf K H' x t := by
  cases h with
  | non => exact .non
  | bl b => exact .bl b
  | int i => exact .int i
  | str z => exact .str z
  | flt z => exact .flt z
  | lst q => exact .lst (e _ _ q)
  | frz q => exact .frz (e _ _ q)
  | tup q => exact .tup (e _ _ q)
  | dK q => exact .dK (e _ _ q)
  | dT q => exact .dT (e _ _ q)
  | ins q cl ha hn htk hm => exact .ins (e _ _ q) cl ha hn htk hm
theorem tyX_same {K : PySem.W.Frag} {H H' : Hp} {x : V} {t : Value} (e : Same H H') (h : TyX K H x t) : TyX K H' x t := by
  cases h with
  | base b => exact .base (tyOf_same e b)
  | byt b => exact .byt b
  | set q => exact .set (e _ _ q)
  | kList q c => exact .kList q c
  | kTuple q c => exact .kTuple q c
  | kDict q c => exact .kDict q c
  | fTuple q => exact .fTuple (e _ _ q)
  | fDict q => exact .fDict (e _ _ q)
theorem Thg.same {K : PySem.W.Frag} {H H' : Hp} {x : V} {o : Option Int} (e : Same H H') (h : Thg K H x o) : Thg K H' x o := by
  cases h with
  | int i => exact .int i
  | bl b => exact .bl b
  | oth ty ni => exact .oth (tyX_same e ty) ni
theorem pick {α : Type} {P : α → Prop} {xs : List α} (h : ∀ x ∈ xs, P x) {j : Nat} (hj : j < xs.length) : ∃ x, xs[j]? = some x ∧ P x := ⟨xs[j], List.getElem?_eq_getElem hj, h _ (List.getElem_mem hj)⟩
def among (o : Option Int) (lo hi : Int) : Bool := match o with
  | some i => decide (lo ≤ i) && decide (i ≤ hi)
  | none => false
def whole (o : Option Int) : Bool := o.isSome
/-- a new list, a new tuple: what stood stands, and it is there -/
def RetL (H : Hp) (xs : List V) (Q : VK) : Prop := ∀ p H', H p = none → Same H H' → H' p = some (.lst xs) → Q (.ref p) H'
def RetT (H : Hp) (xs : List V) (Q : VK) : Prop := ∀ p H', H p = none → Same H H' → H' p = some (.tup xs) → Q (.ref p) H'
theorem Same.new {H : Hp} {p : Addr} {o : HO} (h : H p = none) : Same H (upd H p o) := fun a u e => by
  rw [upd_ne (ne_of_none e h)]
  exact e
theorem Same.mut {H H' : Hp} {p : Addr} {o : HO} (e : Same H H') (h : H p = none) : Same H (upd H' p o) := fun a u ha => by
  rw [upd_ne (ne_of_none ha h)]
  exact e a u ha
theorem get_map {α β : Type} {f : α → β} {xs : List α} {i : Nat} {y : β} (h : (xs.map f)[i]? = some y) : ∃ x, xs[i]? = some x ∧ y = f x := by
  rw [List.getElem?_map] at h
  cases e : xs[i]? with
  | none =>
    rw [e] at h
    cases h
  | some x =>
    rw [e] at h
    exact ⟨x, rfl, (Option.some.inj h).symm⟩
theorem take_succ {α : Type} {l : List α} {i : Nat} {x : α} (h : l[i]? = some x) : l.take (i + 1) = l.take i ++ [x] := by
  rw [List.take_add_one, h] <;> rfl
theorem at_map {xs : List Int} {z : Int} {j : Nat} {v : Int} (e : z = (j : Int)) (h : xs[j]? = some v) : atI (xs.map V.int) z = some (V.int v) := by
  rw [e]
  refine atI_nat ?_
  rw [List.getElem?_map, h] <;> rfl
theorem sz5 {n : Nat} (h : n ≤ 100000) : n ≤ sizeLine := Nat.le_trans h (by decide)
theorem sz5' {n : Nat} (h : n < 100000) : n < sizeLine := Nat.lt_of_lt_of_le h (by decide)
theorem cx0_no {P : Program} {w : World} {H : Hp} {s : Shared} {e : Value} {s' : Shared} (h : L2.CX P w [] H s (fun _ _ _ => False) e s') : False := by
  obtain ⟨_, _, _, _, _, _, _, _, _, _, _, _, z⟩ := h
  exact z.elim
/-- the law's: a list of at most 63 whole numbers is handed in, True comes out -/
def sp_law (K : PySem.W.Frag) : Sp := fun vs H Q _ => ∃ (a : Addr) (ns : List Int), vs = [.ref a] ∧ SqL K H a (ns.map V.int) ∧ ns.length ≤ 63 ∧ ∀ H', Q (.bl true) H'
theorem law_true {K : PySem.W.Frag} {H : Hp} {a : Addr} {ns : List Int} (hS : SqL K H a (ns.map V.int)) (hl : ns.length ≤ 63) : sp_law K [.ref a] H (fun v _ => v = .bl true) (fun _ _ _ => False) := ⟨a, ns, rfl, hS, hl, fun _ => rfl⟩
/-- a remainder as a natural number -/
theorem rem_nat {z m : Int} (hm : 0 < m) : ∃ s : Nat, (s : Int) < m ∧ z % m = (s : Int) := by
  have h1 := Int.emod_nonneg z (show m ≠ 0 by omega)
  have h2 := Int.emod_lt_of_pos z hm
  exact ⟨(z % m).toNat, by omega, by omega⟩
end BM

/-! ## Data that is compared -/
namespace BM
open PySem PySem.Spec PyProof.Rows L2
def Sh (n : Nat) (d : PyData) : Prop := d.canLay0 = true ∧ d.depth ≤ n
theorem canAll : ∀ {ds : List PyData}, (∀ d ∈ ds, d.canLay0 = true) → PyData.canLayAll0 ds = true
  | [], _ => rfl
  | d :: r, h => by
    have h1 := h d List.mem_cons_self
    have h2 := canAll (ds := r) fun e he => h e (List.mem_cons_of_mem _ he)
    simp [PyData.canLayAll0, h1, h2]
theorem depAll {n : Nat} : ∀ {ds : List PyData}, (∀ d ∈ ds, d.depth ≤ n) → PyData.depthAll ds ≤ n
  | [], _ => by
    show 0 ≤ n
    omega
  | d :: r, h => by
    have h1 := h d List.mem_cons_self
    have h2 := depAll (ds := r) fun e he => h e (List.mem_cons_of_mem _ he)
    show max d.depth (PyData.depthAll r) ≤ n
    omega
theorem Sh.non {n : Nat} : Sh n .none := ⟨rfl, Nat.zero_le _⟩
theorem Sh.bl {n : Nat} (b : Bool) : Sh n (.bool b) := ⟨rfl, Nat.zero_le _⟩
theorem Sh.int {n : Nat} (i : Int) : Sh n (.int i) := ⟨rfl, Nat.zero_le _⟩
theorem Sh.str {n : Nat} {x : Str} (h : (PyData.str x).canLay0 = true) : Sh n (.str x) := ⟨h, Nat.zero_le _⟩
theorem Sh.lst {n : Nat} {ds : List PyData} (h : ∀ d ∈ ds, Sh n d) : Sh (n + 1) (.list ds) :=
  ⟨canAll fun d hd => (h d hd).1, by
    have := depAll fun d hd => (h d hd).2
    show PyData.depthAll ds + 1 ≤ n + 1
    omega⟩
theorem Sh.tup {n : Nat} {ds : List PyData} (h : ∀ d ∈ ds, Sh n d) : Sh (n + 1) (.tuple ds) :=
  ⟨canAll fun d hd => (h d hd).1, by
    have := depAll fun d hd => (h d hd).2
    show PyData.depthAll ds + 1 ≤ n + 1
    omega⟩
theorem Sh.shaped {n : Nat} {d : PyData} (h : Sh n d) (hn : n ≤ 64) : SeqAt.shaped d = true := by
  unfold SeqAt.shaped
  rw [h.1, Bool.true_and]
  exact decide_eq_true (Nat.le_trans h.2 hn)
theorem Sh.refl {n : Nat} {d : PyData} (h : Sh n d) : PyData.eqv d d = true := SeqAt.eqv_refl d h.1
theorem sh_ints {n : Nat} (ns : List Int) : Sh (n + 1) (.list (ns.map PyData.int)) := .lst fun d hd => by
  obtain ⟨i, _, rfl⟩ := List.mem_map.mp hd
  exact .int i
/-- values paired with data, by place -/
theorem dp_all {K : PySem.W.Frag} {H : Hp} : ∀ {vs : List V} {ds : List PyData}, vs.length = ds.length → (∀ (i : Nat) (v : V) (d : PyData), vs[i]? = some v → ds[i]? = some d → Dp K H v d) → DpAll K H vs ds
  | [], [], _, _ => .nil
  | [], _ :: _, h, _ => by simp at h
  | _ :: _, [], h, _ => by simp at h
  | v :: vs, d :: ds, h, k => .cons (k 0 v d rfl rfl) (dp_all (by simpa using h) fun i w e hw he => k (i + 1) w e hw he)
theorem dp_ints {K : PySem.W.Frag} {H : Hp} : ∀ ns : List Int, DpAll K H (ns.map V.int) (ns.map PyData.int)
  | [] => .nil
  | i :: r => .cons (.int i) (dp_ints r)
theorem atI_end {α : Type} {xs : List α} {v : α} (h : xs[xs.length - 1]? = some v) : atI xs (-1) = some v := by
  obtain ⟨hl, e⟩ := List.getElem?_eq_some_iff.mp h
  unfold atI ixN
  rw [if_neg (by decide), if_pos (by omega)]
  have e1 : ((-1 : Int) + (xs.length : Int)).toNat = xs.length - 1 := by omega
  rw [e1]
  exact h
def rListOf (K : PySem.W.Frag) : List V → Hp → VK → Prop := fun xs H Q => ∃ p ys, xs = [.ref p] ∧ (SqL K H p ys ∨ SqT K H p ys) ∧ ∀ l, H l = none → Q (.ref l) (upd H l (.lst ys))
end BM

/-! ## A def that is called with the caught error, in the suite that holds it: nothing leaves it -/
namespace BM
open PySem PySem.Spec PyProof.Rows L2
abbrev SpE := Addr → Value → Option Addr → List V → Hp → VK → Prop
structure FnE (P : Program) (w : World) (K : PySem.W.Frag) (mg : Str → Option Value) (base : Heap) (k : Nat) (f : Addr) (fd : FuncData) (ps : List Str) (sp : SpE) : Prop where
  len : ∀ a c d vs H Q, sp a c d vs H Q → vs.length = ps.length
  go : ∀ (A : Around) (outer : List Env) (s : Shared) (H : Hp) (args : Args) (us : List Value) (vs : List V) (Q : VK) (p : Addr × Obj) (c : Value) (d : Option Addr), Zc c d p.2 → (∃ ws, p.2.data = .fields ws) →
    L2H.RoomH k A → L2H.PinOk outer H s p → Env0 P w K mg base A outer s H → BindsTo s fd args (ps.zip us) → Vals vs us → sp p.1 c d vs H Q → codeAny (model P w) A (.call (.ref f) args) (CR CX0 outer P w H s Q E0) s
theorem cells_ok {scope : Scope} {n : Nat} {ps : List Str} {us : List Value} (par : ∀ x ∈ ps, scope.names.lookup x = some .local ∨ scope.names.lookup x = some .cell) :
    ∀ y ∈ ps.zip us, scope.names.lookup y.1 = some .local ∨ (scope.names.lookup y.1 = some .cell ∧ ((cellsFrom n scope.names []).lookup y.1).isSome = true) := by
  intro y hy
  obtain ⟨x, v⟩ := y
  have hx := par x (List.of_mem_zip hy).1
  cases hx with
  | inl q => exact Or.inl q
  | inr q => exact Or.inr ⟨q, PySem.W.cellsFrom_some _ _ _ (Or.inl q)⟩
theorem fn_ofE {P : Program} {w : World} {K : PySem.W.Frag} {mg : Str → Option Value} {base : Heap} {k : Nat} {x qual : Str} {st : Stmt} {f : Addr} {fd : FuncData} {N ps : List Str} {sp : SpE}
    (F : Fun K x qual st f fd) (S : FnScope N ps (defScope st)) (len : ∀ a c d vs H Q, sp a c d vs H Q → vs.length = ps.length)
    (body : ∀ (cdv : Value) (A : Around) (outer : List Env) (s : Shared) (H : Hp) (vs : List V) (Q : VK) (p : Addr × Obj) (c : Value) (d : Option Addr), Zc c d p.2 → (∃ ws, p.2.data = .fields ws) →
      L2H.RoomH k (A.deeper (envOfC qual (defScope st) s.heap.objs.size f cdv)) → sp p.1 c d vs H Q →
      ∃ t, PSs (L2H.cxH CX0 P w K mg base N qual (defScope st) f cdv A outer s H E0 p) (defBody st) t ∧ t { nx := fun _ H' => Q .non H', rt := Q } (L2.start N vs) H) :
    FnE P w K mg base (k + 1) f fd ps sp := by
  obtain ⟨oc, od, kV, doc, pm, an, cdv, ct, osl, e0, lk, hcd⟩ := F.ex
  subst e0
  refine ⟨len, ?_⟩
  intro A outer s H args us vs Q p c d hz hf hr hpin ev hb r hsp
  have hl := len _ _ _ _ _ _ hsp
  have kin : K.In s.heap := ev.mod.kin.keeps (fun b o q => (ev.bs b o q).1)
  have nol : s.heap.NoLimit := ev.mod.nolimit.keeps (fun b o q => (ev.bs b o q).1)
  refine codeAny_call_function hr.depth (kin _ _ lk) rfl S.co S.gen rfl
    (PySem.W.codeRec_of kin hcd) (hb _ _ _ _ ?_)
  refine wpAny_newFunctionEnv_cells S.kind (cells_ok S.par)
    fun env he t1 y => ?_
  cases he
  refine ⟨nol.keeps y.toInCall.keep, codeAny_func ?_⟩
  obtain ⟨t, ht, hq⟩ := body cdv A outer s H vs Q p c d hz hf (hr.deeper _) hsp
  have I := L2H.inv_startH (CX := CX0) (E := E0) S hpin ev hl r y
  refine wpAny_mono (ht.run [] t1 _ H _ I hq) (fun fl s' hs => ?_) (fun _ _ z => z)
  match fl, hs with
  | .ret u, hs =>
    obtain ⟨v, σ', H', J, rv, q⟩ := hs
    exact ⟨v, H', J.os, J.bare, J.base, J.hok, rv, q⟩
  | .next, hs =>
    obtain ⟨σ', H', J, q⟩ := hs
    exact ⟨V.non, H', J.os, J.bare, J.base, J.hok, rfl, q⟩
  | .brk, hs =>
    obtain ⟨_, _, _, q⟩ := hs
    exact q.elim
  | .cont, hs =>
    obtain ⟨_, _, _, q⟩ := hs
    exact q.elim
section
variable {X : Cx}
/-- the call, from the suite -/
theorem pe_hotE {k : Nat} {f a : Addr} {fd : FuncData} {ps : List Str} {sp : SpE} {x : Str} {q pos : Pos} {e : Expr} {es : List Expr} {t : TA} {oe : Obj} {c : Value} {d : Option Addr} {pn : List (Addr × Obj)}
    (F : FnE X.prog X.w X.K X.mg X.base k f fd ps sp) (hr : Room k X.A) (hz : Zc c d oe) (hf : ∃ ws, oe.data = .fields ws) (hg : Gl X x) (hm : X.mg x = some (.ref f)) (hk : PySem.W.keepIn X.K (.ref f) = true) (hb : Binds X.K fd ps [])
    (ha : PA (X.suite a ((a, oe) :: pn)) (e :: es) t) (hdb : (x == ("__debug__" : Str)) = false := by decide) (he : starEach (e :: es) X.env = (false, eval e X.env) :: starEach es X.env := by rfl) (hpl : (backTo pos (starEach es X.env)).any (·.1) = false := by rfl) :
    PE (X.suite a ((a, oe) :: pn)) (.Call (.Name x q) (e :: es) [] pos) (fun σ H Q => t σ H fun vs H1 => sp a c d vs H1 Q) := by
  refine ⟨fun pins s σ H Q I h => ?_⟩
  refine wpAny_Call_Name_kw (ld_glob I hg hm ?_ hdb)
  refine PySem.W.callWith_K (h₀ := X.base) I.ok.mod.kin hk (thn (ha.run pos pins s σ H _ I h) ?_) he hpl
  intro us s1 ⟨vs, H1, I1, r, hs⟩
  refine ⟨I1.kIn, ?_⟩
  have hl : us.length = ps.length := by
    rw [← r.length]
    exact F.len _ _ _ _ _ _ hs
  have b := hb s1 us I1.kIn (by rw [List.append_nil]; exact hl)
  rw [List.append_nil] at b
  have P1 := I1.pin (a, oe) (List.mem_append_left _ List.mem_cons_self)
  have hpin : L2H.PinOk X.stack H1 s1 (a, oe) := ⟨P1.1, P1.2.1, fun z => (List.mem_cons.mp (I1.stkSub a z)).elim P1.2.2.1 P1.2.2.2.1, P1.2.2.2.2⟩
  have hr' : L2H.RoomH k (X.suite a ((a, oe) :: pn)).A := ⟨hr.dp, hr.un⟩
  refine wpAny_call (codeAny_mono (F.go _ X.stack s1 H1 ⟨us, []⟩ us vs Q (a, oe) c d hz hf hr' hpin I1.env0 b r hs) ?_)
  intro res s' hq
  match res, hq with
  | .error e, hq => exact hq.elim
  | .ok (.ret u), hq => exact I1.after hq
  | .ok .next, hq => exact hq.elim
  | .ok .brk, hq => exact hq.elim
  | .ok .cont, hq => exact hq.elim
/-- isinstance(e, C), e the pinned error -/
def rIsP (K : PySem.W.Frag) (a : Addr) (cls : Value) (d : Option Addr) : List V → Hp → VK → Prop := fun xs H Q => ∃ (D : Addr) (c : V) (cv : Value) (b : Bool), cls = .ref D ∧ d = none ∧ ExcC K D ∧ xs = [.ref a, c] ∧ (∀ u, RelV c u → u = cv) ∧ PySem.W.kitOne K (.ref D) cv = some b ∧ Q (.bl b) H
theorem call_isP {p : Addr × Obj} {cls : Value} {d : Option Addr} (hp : p ∈ X.pn) (hz : Zc cls d p.2) (hf : ∃ ws, p.2.data = .fields ws) : CallR X (.builtin "isinstance") (rIsP X.K p.1 cls d) := by
  intro pins s σ H xs us Q I r h
  obtain ⟨D, c, cv, b, rfl, rfl, C, rfl, hcv, e, q⟩ := h
  match us, r with
  | [_, u2], .cons rx (.cons rt .nil) =>
    cases rx
    have ec : u2 = cv := hcv _ rt
    cases ec
    obtain ⟨hget, _⟩ := I.pin p (List.mem_append.mpr (Or.inl hp))
    obtain ⟨ws, hv⟩ := hf
    have J : PySem.W.InstAt s.heap p.1 p.2 D none := by
      obtain ⟨pa, ⟨oc, od, oda, osl⟩⟩ := p
      obtain ⟨g1, g2⟩ := hz
      dsimp only at g1 g2 hv
      cases g1
      cases g2
      cases hv
      exact ⟨hget, rfl, rfl, trivial⟩
    refine PySem.W.kia_one (PySem.W.handS_kitx_exc C.hg C.hk C.hs C.hd C.ha C.hn C.ht C.hm) I.kIn J e (fun z => nomatch z) ?_
    intro tk
    exact ⟨.bl b, H, I.kept (t' := tk) (fun _ _ z => z), rfl, q⟩
theorem countP_vals {y : V} : ∀ {ys : List V} {us : List Value}, Vals ys us → ys.all flatV = true → us.countP (eqU y) = ys.countP fun z => eqV z y
  | _, _, .nil, _ => rfl
  | z :: zs, u :: us, .cons r t, f => by
    rw [List.all_cons, Bool.and_eq_true] at f
    rw [List.countP_cons, List.countP_cons, countP_vals t f.2, eqU_of r f.1]
/-- xs.count(y), flat things -/
theorem mt_countV : MtR X "list.count" (fun x xs H Q => ∃ (p : Addr) (ys : List V) (y : V), x = .ref p ∧ xs = [y] ∧ SqL X.K H p ys ∧ flatV y = true ∧ ys.all flatV = true ∧ Q (.int ((ys.countP fun z => eqV z y : Nat) : Int)) H) := by
  intro pins s σ H x xs v us Q I rx rxs h
  obtain ⟨a, ys, y, rfl, rfl, hs, fy, fys, q⟩ := h
  cases rx
  match us, rxs with
  | [uy], .cons ry .nil =>
    obtain ⟨its, rv, ⟨⟨cls, dd, data, sl⟩, n, ho, hc, hdn, hd⟩, hlen⟩ := I.list hs
    cases hc
    cases hd
    refine call_meets PySem.F.slot_list_count ⟨_, ho, rfl⟩ PySem.F.entry_list_count (PySem.F.args_list_count_2 _ _)
      (SeqAt.list_countAt a its.toArray n dd sl uy (eqU y)) ⟨ho, fun u' hu' => mem_eqAt ry fy rv fys u' (by simpa using hu'), ?_⟩
    have ec := countP_vals (y := y) rv fys
    refine ⟨.int ((ys.countP fun z => eqV z y : Nat) : Int), H, I.tok _, ⟨s.toks, ?_⟩, q⟩
    show Value.int ((its.toArray.toList.countP (eqU y) : Nat) : Int) s.toks = _
    rw [← ec]
end
/-! ### the law's own classes of errors -/
def words8 : List Str := ["count", "rule", "deed", "full", "twice", "notkept", "atend", "notwanted"]
/-- the class D is the i-th of the eight -/
structure Kind (K : PySem.W.Frag) (c : Nat → Addr) (D : Addr) (i : Nat) : Prop where
  lt : i < 8
  is : ∀ j, j < 8 → PySem.W.kitOne K (.ref D) (.ref (c j)) = some (decide (j = i))
  ve : PySem.W.kitOne K (.ref D) (.type "ValueError") = some true
  ex : ExcC K D
/-- what the law is told of an error -/
def sp_class (K : PySem.W.Frag) (c : Nat → Addr) : SpE := fun a cls d vs H Q => vs = [.ref a] ∧ ∃ (D : Addr) (i : Nat), cls = .ref D ∧ d = none ∧ Kind K c D i ∧ RetT H [.str "refused", .str (words8.getD i "")] Q
theorem eight {P : Nat → Prop} {i : Nat} (h : i < 8) (h0 : P 0) (h1 : P 1) (h2 : P 2) (h3 : P 3) (h4 : P 4) (h5 : P 5) (h6 : P 6) (h7 : P 7) : P i := by
  match i, h with
  | 0, _ => exact h0
  | 1, _ => exact h1
  | 2, _ => exact h2
  | 3, _ => exact h3
  | 4, _ => exact h4
  | 5, _ => exact h5
  | 6, _ => exact h6
  | 7, _ => exact h7
end BM

/-! ## The tables, in plain Lean -/
namespace BM
open PySem PySem.Spec PyProof.Rows L2
def choStep (m : Nat) (f t : Nat) : Nat := f * (m - t) / (t + 1)
def choN (m c : Nat) : Nat := (List.range c).foldl (choStep m) 1
def waysN (r t : Nat) : Nat := choN (r + t) r
def oftGo (s r : Nat) : Nat → Nat → Nat
  | 0, t => t
  | n + 1, t => if waysN r t ≤ s then oftGo s r n (t + 1) else t
/-- how often -/
def oftN (s r : Nat) : Nat := oftGo s r 101 0
def costN (s r : Nat) : Int := if oftN s r = 0 then 0 else (oftN s r : Int) * ((s : Int) + 1) - (waysN (r + 1) (oftN s r - 1) : Int)
theorem choN_succ (m c : Nat) : choN m (c + 1) = choStep m (choN m c) c := by
  unfold choN
  rw [List.range_succ, List.foldl_append] <;> rfl
theorem ways_far : ∀ r, r < 14 → 1 ≤ r → 100 < waysN r 101 := by decide +kernel
theorem oftGo_le {s r : Nat} : ∀ n t, oftGo s r n t ≤ n + t
  | 0, t => by
    show t ≤ 0 + t
    omega
  | n + 1, t => by
    have h := oftGo_le (s := s) (r := r) n (t + 1)
    show (if waysN r t ≤ s then oftGo s r n (t + 1) else t) ≤ n + 1 + t
    split <;> omega
theorem oftN_le (s r : Nat) : oftN s r ≤ 101 := oftGo_le 101 0
theorem oft_yes {s r n t : Nat} (h : waysN r t ≤ s) : oftGo s r (n + 1) t = oftGo s r n (t + 1) := if_pos h
theorem oft_no {s r n t : Nat} (h : ¬ waysN r t ≤ s) : oftGo s r n t = t := by
  cases n with
  | zero => rfl
  | succ n => exact if_neg h
def goodC (o1 o2 : Option Int) : Bool := among o1 0 100 && among o2 1 12
/-- the best of the marks met so far -/
def bestStep (above found : List Int) (many : Nat) (b : Option Int) (j : Nat) : Option Int :=
  let w := ((j : Int) + 1) + above.getD (many - (j + 1)) 0 + found.getD j 0
  match b with
  | none => some w
  | some v => if w < v then some w else some v
def bestN (above found : List Int) (many : Nat) (j : Nat) : Option Int := (List.range j).foldl (bestStep above found many) none
def nextN (above : List Int) : Nat → List Int
  | 0 => [0]
  | n + 1 => nextN above n ++ [(bestN above (nextN above n) (n + 1) (n + 1)).getD 0]
theorem nextN_len (above : List Int) : ∀ n, (nextN above n).length = n + 1
  | 0 => rfl
  | n + 1 => by
    show (nextN above n ++ [_]).length = n + 1 + 1
    rw [List.length_append, nextN_len above n] <;> rfl
theorem bestN_succ (above found : List Int) (many j : Nat) : bestN above found many (j + 1) = bestStep above found many (bestN above found many j) j := by
  unfold bestN
  rw [List.range_succ, List.foldl_append] <;> rfl
theorem bestStep_some (above found : List Int) (many : Nat) (b : Option Int) (j : Nat) : ∃ v, bestStep above found many b j = some v := by
  unfold bestStep
  cases b with
  | none => exact ⟨_, rfl⟩
  | some v =>
    dsimp only
    split
    · exact ⟨_, rfl⟩
    · exact ⟨_, rfl⟩
def lineOne (n : Nat) : List Int := (List.range (n + 1)).map fun (m : Nat) => ((m : Int) * ((m : Int) + 1)) / 2
def tableN (n : Nat) : Nat → List (List Int)
  | 0 => [lineOne n]
  | r + 1 => tableN n r ++ [nextN ((tableN n r).getLastD []) n]
def oV : Option Int → V
  | none => .non
  | some i => .int i
theorem tableN_len (n : Nat) : ∀ r, (tableN n r).length = r + 1
  | 0 => rfl
  | r + 1 => by
    show (tableN n r ++ [_]).length = r + 1 + 1
    rw [List.length_append, tableN_len n r] <;> rfl
end BM
namespace BM
open PySem PySem.Spec PyProof.Rows L2
def lineK (n : Nat) : Nat → List Int
  | 0 => lineOne n
  | k + 1 => nextN (lineK n k) n
theorem lineK_len (n : Nat) : ∀ k, (lineK n k).length = n + 1
  | 0 => by
    show (lineOne n).length = n + 1
    unfold lineOne
    rw [List.length_map, List.length_range]
  | k + 1 => nextN_len _ n
/-- the rows stand at these places -/
structure Rows (H : Hp) (as : List Addr) (r : Nat) (f : Nat → List Int) : Prop where
  len : as.length = r
  at' : ∀ i a, as[i]? = some a → H a = some (.lst ((f i).map V.int))
def RetRows (H : Hp) (r : Nat) (f : Nat → List Int) (Q : VK) : Prop :=
  ∀ p as H', H p = none → (∀ a ∈ as, H a = none) → Same H H' → H' p = some (.lst (as.map V.ref)) → Rows H' as r f → Q (.ref p) H'
theorem lineOne_take (m : Nat) : (((List.range m).map fun (m : Nat) => ((m : Int) * ((m : Int) + 1)) / 2).map V.int) ++ [V.int (((m : Int) * ((m : Int) + 1)) / 2)] = ((List.range (m + 1)).map fun (m : Nat) => ((m : Int) * ((m : Int) + 1)) / 2).map V.int := by
  rw [List.range_succ, List.map_append, List.map_append] <;> rfl
end BM

/-! ## The least cost: as a greatest of straight lines -/
namespace BM
theorem ways_zero : ∀ r, r < 15 → waysN r 0 = 1 := by decide +kernel
theorem ways_nil : ∀ t, t < 104 → waysN 0 t = 1 := by decide +kernel
theorem pascal' : ((List.range 13).all fun r => (List.range 103).all fun t => waysN (r + 1) (t + 1) == waysN (r + 1) t + waysN r (t + 1)) = true := by decide +kernel
theorem pascal {r t : Nat} (hr : r < 13) (ht : t < 103) : waysN (r + 1) (t + 1) = waysN (r + 1) t + waysN r (t + 1) :=
  eq_of_beq (List.all_eq_true.mp (List.all_eq_true.mp pascal' r (List.mem_range.mpr hr)) t (List.mem_range.mpr ht))
theorem ways_pos : ∀ r t, r < 14 → t < 104 → 1 ≤ waysN r t
  | 0, t, _, ht => by rw [ways_nil t ht]; omega
  | r + 1, 0, hr, _ => by rw [ways_zero (r + 1) (by omega)]; omega
  | r + 1, t + 1, hr, ht => by
    have h := ways_pos (r + 1) t hr (by omega)
    rw [pascal (by omega) (by omega)]
    omega
theorem ways_up {r t : Nat} (hr : r < 13) (ht : t < 103) : waysN (r + 1) t < waysN (r + 1) (t + 1) := by
  have h := ways_pos r (t + 1) (by omega) (by omega)
  rw [pascal hr ht]
  omega
theorem ways_mono {r t : Nat} (h1 : 1 ≤ r) (hr : r < 14) : ∀ d, t + d < 104 → waysN r t + d ≤ waysN r (t + d)
  | 0, _ => Nat.le_refl _
  | d + 1, h => by
    have i := ways_mono (t := t) h1 hr d (by omega)
    obtain ⟨q, rfl⟩ : ∃ q, r = q + 1 := ⟨r - 1, by omega⟩
    have u := ways_up (r := q) (t := t + d) (by omega) (by omega)
    show waysN (q + 1) t + (d + 1) ≤ waysN (q + 1) (t + d + 1)
    omega
theorem ways_lt {r a b : Nat} (h1 : 1 ≤ r) (hr : r < 14) (hb : b < 104) (h : a ≤ b) : waysN r a + (b - a) ≤ waysN r b := by
  have := ways_mono (t := a) h1 hr (b - a) (by omega)
  have e : a + (b - a) = b := by omega
  rw [e] at this
  exact this
theorem ways_ge {r t : Nat} (h1 : 1 ≤ r) (hr : r < 14) (ht : t < 104) : t + 1 ≤ waysN r t := by
  have := ways_lt (a := 0) (b := t) h1 hr ht (Nat.zero_le _)
  rw [ways_zero r (by omega)] at this
  omega
theorem oftGo_spec {s r : Nat} : ∀ n t, (∀ u, u < t → waysN r u ≤ s) → (s < waysN r (n + t)) → (∀ u, u < oftGo s r n t → waysN r u ≤ s) ∧ s < waysN r (oftGo s r n t)
  | 0, t, h, hs => by
    rw [Nat.zero_add] at hs
    exact ⟨h, hs⟩
  | n + 1, t, h, hs => by
    by_cases c : waysN r t ≤ s
    · rw [oft_yes c]
      refine oftGo_spec n (t + 1) (fun u hu => ?_) (by rw [show n + (t + 1) = n + 1 + t by omega]; exact hs)
      by_cases e : u = t
      · rw [e]
        exact c
      · exact h u (by omega)
    · rw [oft_no c]
      exact ⟨h, by omega⟩
theorem oft_spec {s r : Nat} (hs : s ≤ 101) (h1 : 1 ≤ r) (hr : r < 14) : (∀ u, u < oftN s r → waysN r u ≤ s) ∧ s < waysN r (oftN s r) := by
  refine oftGo_spec 101 0 (fun u hu => by omega) ?_
  show s < waysN r 101
  have := ways_ge (t := 101) h1 hr (by omega)
  omega
theorem oft_le {s r : Nat} (hs : s ≤ 101) (h1 : 1 ≤ r) (hr : r < 14) : oftN s r ≤ s := by
  have h := (oft_spec hs h1 hr).1
  by_cases c : oftN s r ≤ s
  · exact c
  · have q := h s (by omega)
    have := ways_ge (t := s) h1 hr (by omega)
    omega
def phi (r s t : Nat) : Int := if t = 0 then 0 else (t : Int) * ((s : Int) + 1) - (waysN (r + 1) (t - 1) : Int)
theorem cost_phi (s r : Nat) : costN s r = phi r s (oftN s r) := rfl
theorem phi_step {r s t : Nat} (hr : r < 13) (ht : t < 103) : phi r s (t + 1) = phi r s t + ((s : Int) + 1) - (waysN r t : Int) := by
  cases t with
  | zero =>
    show (if (0 + 1 : Nat) = 0 then (0 : Int) else ((0 + 1 : Nat) : Int) * ((s : Int) + 1) - (waysN (r + 1) 0 : Int)) = 0 + ((s : Int) + 1) - (waysN r 0 : Int)
    rw [if_neg (by omega), ways_zero (r + 1) (by omega), ways_zero r (by omega)]
    omega
  | succ t =>
    have p := pascal (r := r) (t := t) hr (by omega)
    show (if (t + 1 + 1 : Nat) = 0 then (0 : Int) else ((t + 1 + 1 : Nat) : Int) * ((s : Int) + 1) - (waysN (r + 1) (t + 1) : Int)) = (if (t + 1 : Nat) = 0 then (0 : Int) else ((t + 1 : Nat) : Int) * ((s : Int) + 1) - (waysN (r + 1) t : Int)) + ((s : Int) + 1) - (waysN r (t + 1) : Int)
    rw [if_neg (by omega), if_neg (by omega), p]
    have e : ((t + 1 + 1 : Nat) : Int) * ((s : Int) + 1) = ((t + 1 : Nat) : Int) * ((s : Int) + 1) + ((s : Int) + 1) := by
      rw [Int.natCast_add (t + 1) 1, Int.add_mul]
      show _ + (1 : Int) * _ = _
      rw [Int.one_mul]
    rw [e, Int.natCast_add]
    omega
/-- the least cost is the greatest of the lines -/
theorem phi_le {r s t : Nat} (hs : s ≤ 101) (h1 : 1 ≤ r) (hr : r < 13) (ht : t ≤ 103) : phi r s t ≤ costN s r := by
  obtain ⟨a, b⟩ := oft_spec (s := s) (r := r) hs h1 (by omega)
  have o := oft_le (s := s) (r := r) hs h1 (by omega)
  rw [cost_phi]
  have up : ∀ d, d ≤ oftN s r → phi r s (oftN s r - d) ≤ phi r s (oftN s r) := by
    intro d
    induction d with
    | zero => intro _; exact Int.le_refl _
    | succ d ih =>
      intro hd
      have i := ih (by omega)
      have st := phi_step (r := r) (s := s) (t := oftN s r - (d + 1)) (by omega) (by omega)
      have w := a (oftN s r - (d + 1)) (by omega)
      have e : oftN s r - (d + 1) + 1 = oftN s r - d := by omega
      rw [e] at st
      omega
  have down : ∀ d, oftN s r + d ≤ 103 → phi r s (oftN s r + d) ≤ phi r s (oftN s r) := by
    intro d
    induction d with
    | zero => intro _; exact Int.le_refl _
    | succ d ih =>
      intro hd
      have i := ih (by omega)
      have st := phi_step (r := r) (s := s) (t := oftN s r + d) (by omega) (by omega)
      have w := ways_lt (r := r) (a := oftN s r) (b := oftN s r + d) h1 (by omega) (by omega) (by omega)
      rw [show oftN s r + (d + 1) = oftN s r + d + 1 by omega]
      omega
  by_cases c : t ≤ oftN s r
  · have := up (oftN s r - t) (by omega)
    rw [show oftN s r - (oftN s r - t) = t by omega] at this
    exact this
  · have := down (t - oftN s r) (by omega)
    rw [show oftN s r + (t - oftN s r) = t by omega] at this
    exact this
theorem cost_nonneg {s r : Nat} (hs : s ≤ 101) (h1 : 1 ≤ r) (hr : r < 13) : 0 ≤ costN s r := phi_le (t := 0) hs h1 hr (by omega)
/-- no mark does better -/
theorem cost_mark {s r m : Nat} (hs : s ≤ 101) (h1 : 1 ≤ r) (hr : r < 12) (hm : 1 ≤ m) (hms : m ≤ s) : costN s (r + 1) ≤ (m : Int) + costN (s - m) r + costN (m - 1) (r + 1) := by
  rw [cost_phi s (r + 1)]
  have o := oft_le (s := s) (r := r + 1) hs (by omega) (by omega)
  cases e : oftN s (r + 1) with
  | zero =>
    have a := cost_nonneg (s := s - m) (r := r) (by omega) h1 (by omega)
    have b := cost_nonneg (s := m - 1) (r := r + 1) (by omega) (by omega) (by omega)
    show (0 : Int) ≤ _
    omega
  | succ t =>
    rw [e] at o
    have a := phi_le (s := s - m) (r := r) (t := t + 1) (by omega) h1 (by omega) (by omega)
    have b := phi_le (s := m - 1) (r := r + 1) (t := t) (by omega) (by omega) (by omega) (by omega)
    have e1 : phi (r + 1) s (t + 1) = ((t + 1 : Nat) : Int) * ((s : Int) + 1) - (waysN (r + 1 + 1) t : Int) := by
      show (if (t + 1 : Nat) = 0 then (0 : Int) else _) = _
      rw [if_neg (by omega)] <;> rfl
    have e2 : phi r (s - m) (t + 1) = ((t + 1 : Nat) : Int) * (((s - m : Nat) : Int) + 1) - (waysN (r + 1) t : Int) := by
      show (if (t + 1 : Nat) = 0 then (0 : Int) else _) = _
      rw [if_neg (by omega)] <;> rfl
    have q1 : ((t + 1 : Nat) : Int) * (((s - m : Nat) : Int) + 1) + ((t + 1 : Nat) : Int) * (m : Int) = ((t + 1 : Nat) : Int) * ((s : Int) + 1) := by
      rw [← Int.mul_add]
      congr 1
      omega
    have e3 : phi (r + 1) (m - 1) t = (t : Int) * (m : Int) - (if t = 0 then 0 else (waysN (r + 1 + 1) (t - 1) : Int)) := by
      show (if t = 0 then (0 : Int) else (t : Int) * (((m - 1 : Nat) : Int) + 1) - _) = _
      by_cases c : t = 0
      · rw [if_pos c, if_pos c, c]
        show (0 : Int) = 0 * (m : Int) - 0
        rw [Int.zero_mul] <;> rfl
      · rw [if_neg c, if_neg c, show (((m - 1 : Nat) : Int) + 1) = (m : Int) by omega]
    have q2 : ((t + 1 : Nat) : Int) * (m : Int) = (t : Int) * (m : Int) + (m : Int) := by
      rw [Int.natCast_add t 1, Int.add_mul]
      show _ + (1 : Int) * _ = _
      rw [Int.one_mul]
    have p : (waysN (r + 1 + 1) t : Int) = (if t = 0 then 0 else (waysN (r + 1 + 1) (t - 1) : Int)) + (waysN (r + 1) t : Int) := by
      cases t with
      | zero =>
        rw [if_pos rfl, ways_zero (r + 1 + 1) (by omega), ways_zero (r + 1) (by omega)] <;> rfl
      | succ t =>
        rw [if_neg (by omega), pascal (r := r + 1) (t := t) (by omega) (by omega), Int.natCast_add] <;> rfl
    omega
/-- one room more never costs more -/
theorem cost_room {s r : Nat} (hs : s ≤ 101) (h1 : 1 ≤ r) (hr : r < 12) : costN s (r + 1) ≤ costN s r := by
  rw [cost_phi s (r + 1)]
  have o := oft_le (s := s) (r := r + 1) hs (by omega) (by omega)
  refine Int.le_trans ?_ (phi_le (t := oftN s (r + 1)) hs h1 (by omega) (by omega))
  unfold phi
  by_cases c : oftN s (r + 1) = 0
  · rw [if_pos c, if_pos c]
    exact Int.le_refl _
  · rw [if_neg c, if_neg c]
    have : waysN (r + 1) (oftN s (r + 1) - 1) ≤ waysN (r + 1 + 1) (oftN s (r + 1) - 1) := by
      have hu : oftN s (r + 1) - 1 < 103 := by omega
      generalize oftN s (r + 1) - 1 = u at hu ⊢
      cases u with
      | zero => rw [ways_zero (r + 1) (by omega), ways_zero (r + 1 + 1) (by omega)]; omega
      | succ t =>
        rw [pascal (r := r + 1) (t := t) (by omega) (by omega)]
        omega
    omega
end BM

/-! ## The table's lines tell the least cost -/
namespace BM
def markN (s r : Nat) : Nat := min (waysN r (oftN s r - 1)) (s + 1 - waysN (r - 1) (oftN s r - 1))
def markOk (s r : Nat) : Bool := s == 0 || (decide (1 ≤ markN s (r + 1)) && decide (markN s (r + 1) ≤ s) && decide (costN s (r + 1) = (markN s (r + 1) : Int) + costN (s - markN s (r + 1)) r + costN (markN s (r + 1) - 1) (r + 1)))
theorem markOk1 : ((List.range 101).all fun s => (List.range 2).all fun r => markOk s (r + 1)) = true := by decide +kernel
theorem markOk2 : ((List.range 101).all fun s => (List.range 4).all fun r => markOk s (r + 3)) = true := by decide +kernel
theorem markOk3 : ((List.range 101).all fun s => (List.range 5).all fun r => markOk s (r + 7)) = true := by decide +kernel
theorem mark_ok {s r : Nat} (hs : s ≤ 100) (h0 : 1 ≤ s) (h1 : 1 ≤ r) (hr : r < 12) : 1 ≤ markN s (r + 1) ∧ markN s (r + 1) ≤ s ∧ costN s (r + 1) = (markN s (r + 1) : Int) + costN (s - markN s (r + 1)) r + costN (markN s (r + 1) - 1) (r + 1) := by
  have h : markOk s r = true := by
    by_cases c : r < 3
    · have := List.all_eq_true.mp (List.all_eq_true.mp markOk1 s (List.mem_range.mpr (by omega))) (r - 1) (List.mem_range.mpr (by omega))
      rw [show r - 1 + 1 = r by omega] at this
      exact this
    · by_cases c2 : r < 7
      · have := List.all_eq_true.mp (List.all_eq_true.mp markOk2 s (List.mem_range.mpr (by omega))) (r - 3) (List.mem_range.mpr (by omega))
        rw [show r - 3 + 3 = r by omega] at this
        exact this
      · have := List.all_eq_true.mp (List.all_eq_true.mp markOk3 s (List.mem_range.mpr (by omega))) (r - 7) (List.mem_range.mpr (by omega))
        rw [show r - 7 + 7 = r by omega] at this
        exact this
  unfold markOk at h
  rw [Bool.or_eq_true] at h
  rcases h with h | h
  · have := eq_of_beq h
    omega
  · simp only [Bool.and_eq_true, decide_eq_true_eq] at h
    exact ⟨h.1.1, h.1.2, h.2⟩
theorem one_ok : ((List.range 101).all fun s => decide (costN s 1 = ((s : Int) * ((s : Int) + 1)) / 2)) = true := by decide +kernel
theorem cost_one {s : Nat} (hs : s ≤ 100) : costN s 1 = ((s : Int) * ((s : Int) + 1)) / 2 :=
  of_decide_eq_true (List.all_eq_true.mp one_ok s (List.mem_range.mpr (by omega)))
theorem best_min {above found : List Int} {many : Nat} {w : Nat → Int} (hw : ∀ j, j < many → ((j : Int) + 1) + above.getD (many - (j + 1)) 0 + found.getD j 0 = w j) :
    ∀ j, j ≤ many → (bestN above found many j = none ∧ j = 0) ∨ ∃ v, bestN above found many j = some v ∧ (∃ i, i < j ∧ v = w i) ∧ ∀ i, i < j → v ≤ w i
  | 0, _ => .inl ⟨rfl, rfl⟩
  | j + 1, h => by
    have e := bestN_succ above found many j
    have ew := hw j (by omega)
    have st : ∀ b, bestStep above found many b j = match b with | none => some (w j) | some v => if w j < v then some (w j) else some v := by
      intro b
      unfold bestStep
      rw [ew]
    rw [st] at e
    rcases best_min hw j (by omega) with ⟨h0, rfl⟩ | ⟨v, hv, ⟨i, hi, hvi⟩, hm⟩
    · rw [h0] at e
      refine .inr ⟨w 0, e, ⟨0, by omega, rfl⟩, fun i hi => ?_⟩
      rw [show i = 0 by omega]
      exact Int.le_refl _
    · rw [hv] at e
      by_cases c : w j < v
      · have e' : bestN above found many (j + 1) = some (w j) := e.trans (if_pos c)
        refine .inr ⟨w j, e', ⟨j, by omega, rfl⟩, fun i' hi' => ?_⟩
        by_cases q : i' = j
        · rw [q]
          exact Int.le_refl _
        · have := hm i' (by omega)
          omega
      · have e' : bestN above found many (j + 1) = some v := e.trans (if_neg c)
        refine .inr ⟨v, e', ⟨i, by omega, hvi⟩, fun i' hi' => ?_⟩
        by_cases q : i' = j
        · rw [q]
          omega
        · exact hm i' (by omega)
def lineC (n r : Nat) : List Int := (List.range (n + 1)).map fun m => costN m r
theorem lineC_get {n r j : Nat} (h : j ≤ n) : (lineC n r).getD j 0 = costN j r := by
  unfold lineC
  rw [List.getD_eq_getElem?_getD, List.getElem?_map, List.getElem?_range (by omega)] <;> rfl
theorem next_line {n r : Nat} (h1 : 1 ≤ r) (hr : r < 12) : ∀ k, k ≤ n → n ≤ 100 → nextN (lineC n r) k = lineC k (r + 1)
  | 0, _, _ => by
    show [(0 : Int)] = [costN 0 (r + 1)]
    have o := oft_le (s := 0) (r := r + 1) (by omega) (by omega) (by omega)
    have e : costN 0 (r + 1) = 0 := by
      unfold costN
      rw [if_pos (by omega)]
    rw [e]
  | k + 1, hk, hn => by
    have ih := next_line h1 hr k (by omega) hn
    have e : lineC (k + 1) (r + 1) = lineC k (r + 1) ++ [costN (k + 1) (r + 1)] := by
      unfold lineC
      rw [List.range_succ (n := k + 1), List.map_append] <;> rfl
    show nextN (lineC n r) k ++ [(bestN (lineC n r) (nextN (lineC n r) k) (k + 1) (k + 1)).getD 0] = _
    rw [ih, e]
    have hw : ∀ j, j < k + 1 → ((j : Int) + 1) + (lineC n r).getD (k + 1 - (j + 1)) 0 + (lineC k (r + 1)).getD j 0 = ((j : Int) + 1) + costN (k + 1 - (j + 1)) r + costN j (r + 1) := fun j hj => by
      rw [lineC_get (by omega), lineC_get (by omega)]
    rcases best_min hw (k + 1) (Nat.le_refl _) with ⟨_, h0⟩ | ⟨v, hv, ⟨i, hi, hvi⟩, hm⟩
    · omega
    · rw [hv]
      obtain ⟨m1, m2, m3⟩ := mark_ok (s := k + 1) (r := r) (by omega) (by omega) h1 hr
      have a := hm (markN (k + 1) (r + 1) - 1) (by omega)
      have b := cost_mark (s := k + 1) (r := r) (m := i + 1) (by omega) h1 hr (by omega) (by omega)
      rw [show markN (k + 1) (r + 1) - 1 + 1 = markN (k + 1) (r + 1) by omega] at a
      rw [show i + 1 - 1 = i by omega] at b
      have ev : v = costN (k + 1) (r + 1) := by omega
      rw [ev] <;> rfl
theorem lineK_eq {n : Nat} (hn : n ≤ 100) : ∀ k, k < 12 → lineK n k = lineC n (k + 1)
  | 0, _ => by
    show lineOne n = lineC n 1
    unfold lineOne lineC
    refine List.map_congr_left fun m hm => ?_
    exact (cost_one (by have := List.mem_range.mp hm; omega)).symm
  | k + 1, hk => by
    show nextN (lineK n k) n = lineC n (k + 1 + 1)
    rw [lineK_eq hn k (by omega)]
    exact next_line (by omega) (by omega) n (Nat.le_refl _) hn
end BM

namespace BM
/-- the law's own entry -/
def entN (w : Nat → Int) (last : Int) (j : Nat) : Int := (List.range j).foldl (fun v i => if w i < v then w i else v) last
theorem entN_succ (w : Nat → Int) (last : Int) (j : Nat) : entN w last (j + 1) = if w j < entN w last j then w j else entN w last j := by
  unfold entN
  rw [List.range_succ, List.foldl_append] <;> rfl
theorem entN_min (w : Nat → Int) (last : Int) : ∀ j, entN w last j ≤ last ∧ (∀ i, i < j → entN w last j ≤ w i) ∧ (entN w last j = last ∨ ∃ i, i < j ∧ entN w last j = w i)
  | 0 => ⟨Int.le_refl _, fun i hi => by omega, .inl rfl⟩
  | j + 1 => by
    obtain ⟨a, b, c⟩ := entN_min w last j
    rw [entN_succ]
    by_cases q : w j < entN w last j
    · rw [if_pos q]
      refine ⟨by omega, fun i hi => ?_, .inr ⟨j, by omega, rfl⟩⟩
      by_cases e : i = j
      · rw [e]
        exact Int.le_refl _
      · have := b i (by omega)
        omega
    · rw [if_neg q]
      refine ⟨a, fun i hi => ?_, ?_⟩
      · by_cases e : i = j
        · rw [e]
          omega
        · exact b i (by omega)
      · rcases c with c | ⟨i, hi, c⟩
        · exact .inl c
        · exact .inr ⟨i, by omega, c⟩
/-- it is the next line's entry -/
theorem ent_cost {n r many : Nat} (h1 : 1 ≤ r) (hr : r < 12) (hn : n ≤ 100) (hm : 1 ≤ many) (hmn : many ≤ n) :
    entN (fun i => ((i : Int) + 1) + costN (many - (i + 1)) r + costN i (r + 1)) ((many : Int) + costN 0 r + costN (many - 1) (r + 1)) (many - 1) = costN many (r + 1) := by
  obtain ⟨a, b, c⟩ := entN_min (fun i => ((i : Int) + 1) + costN (many - (i + 1)) r + costN i (r + 1)) ((many : Int) + costN 0 r + costN (many - 1) (r + 1)) (many - 1)
  obtain ⟨m1, m2, m3⟩ := mark_ok (s := many) (r := r) (by omega) hm h1 hr
  have lo : costN many (r + 1) ≤ entN (fun i => ((i : Int) + 1) + costN (many - (i + 1)) r + costN i (r + 1)) ((many : Int) + costN 0 r + costN (many - 1) (r + 1)) (many - 1) := by
    rcases c with c | ⟨i, hi, c⟩
    · rw [c]
      have := cost_mark (s := many) (r := r) (m := many) (by omega) h1 hr hm (Nat.le_refl _)
      rw [Nat.sub_self] at this
      exact this
    · rw [c]
      have := cost_mark (s := many) (r := r) (m := i + 1) (by omega) h1 hr (by omega) (by omega)
      rw [show i + 1 - 1 = i by omega] at this
      show costN many (r + 1) ≤ ((i : Int) + 1) + costN (many - (i + 1)) r + costN i (r + 1)
      omega
  have hi : entN (fun i => ((i : Int) + 1) + costN (many - (i + 1)) r + costN i (r + 1)) ((many : Int) + costN 0 r + costN (many - 1) (r + 1)) (many - 1) ≤ costN many (r + 1) := by
    rw [m3]
    by_cases e : markN many (r + 1) = many
    · rw [e, Nat.sub_self]
      exact a
    · have := b (markN many (r + 1) - 1) (by omega)
      have e2 : markN many (r + 1) - 1 + 1 = markN many (r + 1) := by omega
      have this' : _ ≤ (((markN many (r + 1) - 1 : Nat) : Int) + 1) + costN (many - (markN many (r + 1) - 1 + 1)) r + costN (markN many (r + 1) - 1) (r + 1) := this
      rw [e2] at this'
      omega
  omega
end BM

namespace BM
open PySem PySem.Spec PyProof.Rows L2
def top (i : Nat) : Stmt := PySem.Challenge.pw_backmarks_k04_table_by_steps.main.body.getD i (.Pass ⟨0, 0, 0, 0⟩)
abbrev s_is_among : Stmt := top 12
abbrev s_need_counts : Stmt := top 15
abbrev s_choices : Stmt := top 16
abbrev s_ways : Stmt := top 17
abbrev s_often : Stmt := top 18
abbrev s_cost : Stmt := top 19
abbrev s_least : Stmt := top 20
abbrev s_next_line : Stmt := top 21
abbrev s_table : Stmt := top 22
abbrev s_l_cell_at : Stmt := top 24
abbrev s_l_number : Stmt := top 25
abbrev s_l_whole : Stmt := top 26
abbrev s_l_class : Stmt := top 27
abbrev s_l_entry : Stmt := top 28
abbrev s_l_good : Stmt := top 29
abbrev s_l_told : Stmt := top 30
abbrev s_law : Stmt := top 31
/-- what the top has left -/
structure Txt (K : PySem.W.Frag) (mg : Str → Option Value) : Type where
  aBadCount : Addr
  aBadRule : Addr
  aBadDeed : Addr
  aFull : Addr
  aTwice : Addr
  aNotKept : Addr
  aAtEnd : Addr
  aNotWanted : Addr
  aMarkError : Addr
  d_is_among : Def K mg "is_among" "is_among" s_is_among ["thing", "low", "high"]
  d_need_counts : Def K mg "need_counts" "need_counts" s_need_counts ["steps", "room"]
  d_choices : Def K mg "choices" "choices" s_choices ["many", "chosen"]
  d_ways : Def K mg "ways" "ways" s_ways ["room", "times"]
  d_often : Def K mg "often" "often" s_often ["steps", "room"]
  d_cost : Def K mg "cost" "cost" s_cost ["steps", "room"]
  d_least : Def K mg "least" "least" s_least ["steps", "room"]
  d_next_line : Def K mg "next_line" "next_line" s_next_line ["above", "steps"]
  d_table : Def K mg "table" "table" s_table ["steps", "room"]
  d_l_cell_at : Def K mg "_law_cell_at" "_law_cell_at" s_l_cell_at ["_law_script", "_law_k"]
  d_l_whole : Def K mg "_law_whole" "_law_whole" s_l_whole ["_law_found"]
  d_l_class : Def K mg "_law_class" "_law_class" s_l_class ["_law_e"]
  d_l_entry : Def K mg "_law_entry" "_law_entry" s_l_entry ["_law_above", "_law_own", "_law_many"]
  d_l_good : Def K mg "_law_good" "_law_good" s_l_good ["_law_found", "_law_steps", "_law_room"]
  d_l_told : Def K mg "_law_told" "_law_told" s_l_told ["_law_steps", "_law_room", "_law_way"]
  d_law : Def K mg "law" "law" s_law ["_law_script"]
  c_MOST_STEPS : ∃ t, mg "MOST_STEPS" = some (.int 100 t)
  c_MOST_ROOM : ∃ t, mg "MOST_ROOM" = some (.int 12 t)
  n_isinstance : mg "isinstance" = none
  n_bool : mg "bool" = none
  n_int : mg "int" = none
  n_range : mg "range" = none
  n_len : mg "len" = none
  n_ValueError : mg "ValueError" = none
  n_min : mg "min" = none
  n_list : mg "list" = none
  n_all : mg "all" = none
  n_zip : mg "zip" = none
  x_BadCount : XC K mg "BadCount" aBadCount
  x_BadRule : XC K mg "BadRule" aBadRule
  x_BadDeed : XC K mg "BadDeed" aBadDeed
  x_Full : XC K mg "Full" aFull
  x_Twice : XC K mg "Twice" aTwice
  x_NotKept : XC K mg "NotKept" aNotKept
  x_AtEnd : XC K mg "AtEnd" aAtEnd
  x_NotWanted : XC K mg "NotWanted" aNotWanted
  x_MarkError : XC K mg "MarkError" aMarkError
  q_BadCount : Kind K (fun j => [aBadCount, aBadRule, aBadDeed, aFull, aTwice, aNotKept, aAtEnd, aNotWanted].getD j 0) aBadCount 0
  e_BadCount : PySem.W.exmOne K (.ref aBadCount) (.ref aMarkError) = some true
def Txt.c8 {K : PySem.W.Frag} {mg : Str → Option Value} (T : Txt K mg) : Nat → Addr := fun j => [T.aBadCount, T.aBadRule, T.aBadDeed, T.aFull, T.aTwice, T.aNotKept, T.aAtEnd, T.aNotWanted].getD j 0
theorem sc_is_among : FnScope ["thing", "low", "high"] ["thing", "low", "high"] (defScope s_is_among) := ⟨rfl, rfl, rfl, by decide +kernel, rfl, by decide +kernel, by decide +kernel⟩
theorem sc_need_counts : FnScope ["steps", "room"] ["steps", "room"] (defScope s_need_counts) := ⟨rfl, rfl, rfl, by decide +kernel, rfl, by decide +kernel, by decide +kernel⟩
theorem sc_choices : FnScope ["many", "chosen", "found", "turn"] ["many", "chosen"] (defScope s_choices) := ⟨rfl, rfl, rfl, by decide +kernel, rfl, by decide +kernel, by decide +kernel⟩
theorem sc_ways : FnScope ["room", "times"] ["room", "times"] (defScope s_ways) := ⟨rfl, rfl, rfl, by decide +kernel, rfl, by decide +kernel, by decide +kernel⟩
theorem sc_often : FnScope ["steps", "room", "times"] ["steps", "room"] (defScope s_often) := ⟨rfl, rfl, rfl, by decide +kernel, rfl, by decide +kernel, by decide +kernel⟩
theorem sc_cost : FnScope ["steps", "room", "times"] ["steps", "room"] (defScope s_cost) := ⟨rfl, rfl, rfl, by decide +kernel, rfl, by decide +kernel, by decide +kernel⟩
theorem sc_least : FnScope ["steps", "room"] ["steps", "room"] (defScope s_least) := ⟨rfl, rfl, rfl, by decide +kernel, rfl, by decide +kernel, by decide +kernel⟩
theorem sc_next_line : FnScope ["above", "steps", "found", "many", "best", "mark", "whole"] ["above", "steps"] (defScope s_next_line) := ⟨rfl, rfl, rfl, by decide +kernel, rfl, by decide +kernel, by decide +kernel⟩
theorem sc_table : FnScope ["steps", "room", "found", "turn", "many"] ["steps", "room"] (defScope s_table) := ⟨rfl, rfl, rfl, by decide +kernel, rfl, by decide +kernel, by decide +kernel⟩
theorem sc_l_cell_at : FnScope ["_law_script", "_law_k"] ["_law_script", "_law_k"] (defScope s_l_cell_at) := ⟨rfl, rfl, rfl, by decide +kernel, rfl, by decide +kernel, by decide +kernel⟩
theorem sc_l_whole : FnScope ["_law_found"] ["_law_found"] (defScope s_l_whole) := ⟨rfl, rfl, rfl, by decide +kernel, rfl, by decide +kernel, by decide +kernel⟩
theorem sc_l_class : FnScope ["_law_e", "_law_kinds", "_law_words"] ["_law_e"] (defScope s_l_class) := ⟨rfl, rfl, rfl, by decide +kernel, rfl, by decide +kernel, by decide +kernel⟩
theorem sc_l_entry : FnScope ["_law_above", "_law_own", "_law_many", "_law_whole_here", "_law_mark"] ["_law_above", "_law_own", "_law_many"] (defScope s_l_entry) := ⟨rfl, rfl, rfl, by decide +kernel, rfl, by decide +kernel, by decide +kernel⟩
theorem sc_l_good : FnScope ["_law_found", "_law_steps", "_law_room", "_law_line", "_law_many", "_law_above", "_law_own", "_law_price"] ["_law_found", "_law_steps", "_law_room"] (defScope s_l_good) := ⟨rfl, rfl, rfl, by decide +kernel, rfl, by decide +kernel, by decide +kernel⟩
theorem sc_l_told : FnScope ["_law_steps", "_law_room", "_law_way", "_law_e"] ["_law_steps", "_law_room", "_law_way"] (defScope s_l_told) := ⟨rfl, rfl, rfl, by decide +kernel, rfl, by decide +kernel, by decide +kernel⟩
theorem sc_law : FnScope ["_law_script", "_law_cell", "_law_steps", "_law_room", "_law_spoilt", "_law_found", "_law_last", "_law_kept", "_law_line", "_law_way"] ["_law_script"] (defScope s_law) := ⟨rfl, rfl, rfl, by decide +kernel, rfl, by decide +kernel, by decide +kernel⟩
section
variable {P : Program} {w : World} {K : PySem.W.Frag} {mg : Str → Option Value} {base : Heap}
/-- is_among(thing, low, high) -/
def sp_is_among (K : PySem.W.Frag) : Sp := fun vs H Q _ => ∃ (x : V) (lo hi : Int) (o : Option Int), vs = [x, .int lo, .int hi] ∧ Thg K H x o ∧ Q (.bl (among o lo hi)) H
theorem ok_is_among (T : Txt K mg) : OkF P w K mg base "is_among" 1 ["thing", "low", "high"] (sp_is_among K) := by
  refine okf T.d_is_among sc_is_among (fun vs H Q E h => ?_) (fun f cdv A outer s H vs Q E hr h => ?_)
  · obtain ⟨x, lo, hi, o, rfl, th, k⟩ := h
    rfl
  · obtain ⟨x, lo, hi, o, rfl, th, k⟩ := h
    refine ⟨_, (pss_one (ps_ret (pe_and (pe_callB call_isi (by rfl) T.n_isinstance (by decide +kernel) (pa_cons (pv 0) (pa_cons (pe_bltn (v := .ty "int") (by rfl) T.n_int (by decide +kernel) rfl) pa_nil))) (pe_and (pe_not (pe_callB call_isi (by rfl) T.n_isinstance (by decide +kernel) (pa_cons (pv 0) (pa_cons (pe_bltn (v := .ty "bool") (by rfl) T.n_bool (by decide +kernel) rfl) pa_nil)))) (pe_one (pe_chain op_le op_le (pv 1) (pv 0) (pv 2))))))), ?_⟩
    refine ⟨_, rfl, ?_⟩
    cases th with
    | int i =>
      refine ⟨_, _, _, _, true, rfl, .ty "int", .base (.int i), kit_ty (by decide +kernel), true, rfl, iteT ?_⟩
      refine ⟨_, rfl, _, _, _, _, false, rfl, .ty "bool", .base (.int i), kit_ty (by decide +kernel), false, rfl, true, rfl, iteT ?_⟩
      refine ⟨_, rfl, _, rfl, _, _, rfl, rfl, _, rfl, ?_⟩
      refine ite2 (fun c => ?_) (fun c => ?_)
      · refine ⟨_, rfl, _, _, rfl, rfl, ?_⟩
        have e : among (some i) lo hi = decide (i ≤ hi) := by
          show (decide (lo ≤ i) && decide (i ≤ hi)) = decide (i ≤ hi)
          rw [c, Bool.true_and]
        rw [e] at k
        exact k
      · have e : among (some i) lo hi = false := by
          show (decide (lo ≤ i) && decide (i ≤ hi)) = false
          rw [Bool.eq_false_iff.mpr c, Bool.false_and]
        rw [e] at k
        exact k
    | bl b =>
      refine ⟨_, _, _, _, true, rfl, .ty "int", .base (.bl b), kit_ty (by decide +kernel), true, rfl, iteT ?_⟩
      refine ⟨_, rfl, _, _, _, _, true, rfl, .ty "bool", .base (.bl b), kit_ty (by decide +kernel), true, rfl, false, rfl, iteF ?_⟩
      exact k
    | oth ty ni =>
      refine ⟨_, _, _, _, false, rfl, .ty "int", ty, ni, false, rfl, iteF ?_⟩
      exact k
def sp_need_counts (K : PySem.W.Frag) (C : Addr) : Sp := fun vs H Q E => ∃ (x y : V) (o1 o2 : Option Int), vs = [x, y] ∧ Thg K H x o1 ∧ Thg K H y o2 ∧ (goodC o1 o2 = true → Q .non H) ∧ (goodC o1 o2 = false → E (.ref C) none H)
theorem ok_need_counts (T : Txt K mg) : OkF P w K mg base "need_counts" 2 ["steps", "room"] (sp_need_counts K T.aBadCount) := by
  obtain ⟨f_is_among, fd_is_among, m_is_among, k_is_among, b_is_among, G_is_among⟩ := ok_is_among (P := P) (w := w) (base := base) T
  refine okf T.d_need_counts sc_need_counts (fun vs H Q E h => ?_) (fun f cdv A outer s H vs Q E hr h => ?_)
  · obtain ⟨x, y, o1, o2, rfl, t1, t2, kg, kb⟩ := h
    rfl
  · obtain ⟨x, y, o1, o2, rfl, t1, t2, kg, kb⟩ := h
    refine ⟨_, (pss_cons (ps_if (pt_not (pt_val (pe_call G_is_among (hr.mono (by decide)) (by rfl) m_is_among k_is_among b_is_among .nil passL (pa_cons (pv 0) (pa_cons pe_int (pa_cons (pe_glob (v := .int 100) (by rfl) T.c_MOST_STEPS.choose_spec ⟨_, rfl⟩) pa_nil))))))
        (pss_one (ps_raise rfl (takes_of rfl rfl rfl rfl) (pmk_own PySem.F.excBase_ValueError T.x_BadCount.x T.x_BadCount.g T.x_BadCount.k (raises_own T.x_BadCount.b T.x_BadCount.t) rfl)))
        pss_nil)
        (pss_one (ps_if (pt_not (pt_val (pe_call G_is_among (hr.mono (by decide)) (by rfl) m_is_among k_is_among b_is_among .nil passL (pa_cons (pv 1) (pa_cons pe_int (pa_cons (pe_glob (v := .int 12) (by rfl) T.c_MOST_ROOM.choose_spec ⟨_, rfl⟩) pa_nil))))))
        (pss_one (ps_raise rfl (takes_of rfl rfl rfl rfl) (pmk_own PySem.F.excBase_ValueError T.x_BadCount.x T.x_BadCount.g T.x_BadCount.k (raises_own T.x_BadCount.b T.x_BadCount.t) rfl)))
        pss_nil))), ?_⟩
    refine ⟨_, rfl, x, 0, 100, o1, rfl, t1, _, rfl, ?_⟩
    cases c1 : among o1 0 100 with
    | false =>
      refine iteT ?_
      refine kb ?_
      unfold goodC
      rw [c1, Bool.false_and]
    | true =>
      refine iteF ?_
      refine ⟨_, rfl, y, 1, 12, o2, rfl, t2, _, rfl, ?_⟩
      cases c2 : among o2 1 12 with
      | false =>
        refine iteT ?_
        refine kb ?_
        unfold goodC
        rw [c1, c2, Bool.true_and]
      | true =>
        refine iteF ?_
        refine kg ?_
        unfold goodC
        rw [c1, c2, Bool.true_and]
def sp_choices : Sp := fun vs H Q _ => ∃ m c : Nat, vs = [.int (m : Int), .int (c : Int)] ∧ c ≤ m ∧ m ≤ 1000 ∧ Q (.int (choN m c : Int)) H
theorem ok_choices (T : Txt K mg) : OkF P w K mg base "choices" 1 ["many", "chosen"] (sp_choices) := by
  refine okf T.d_choices sc_choices (fun vs H Q E h => ?_) (fun f cdv A outer s H vs Q E hr h => ?_)
  · obtain ⟨m, c, rfl, hc, hm, k⟩ := h
    rfl
  · obtain ⟨m, c, rfl, hc, hm, k⟩ := h
    refine ⟨_, (pss_cons (ps_set (i := 2) sc_choices.nd rfl (Or.inl rfl) pe_int)
        (pss_cons (ps_for (passes_of rfl) rfl (pi_range1 (by rfl) T.n_range (pa_cons (pv 1) pa_nil)) (pg_name (i := 3) sc_choices.nd rfl (Or.inl rfl))
        (pss_one (ps_set (i := 2) sc_choices.nd rfl (Or.inl rfl) (pe_op op_fdiv (pe_op op_mul (pv 2) (pe_op op_sub (pv 0) (pv 3))) (pe_op op_add (pv 3) pe_int)))))
        (pss_one (ps_ret (pv 2))))), ?_⟩
    refine ⟨_, rfl, _, rfl, by omega, by omega, ?_⟩
    refine for_range (lo := 0) (n := (c : Int).toNat) (fun i σ H' => H' = H ∧ ∃ v, σ = [some (.int (m : Int)), some (.int (c : Int)), some (.int (choN m i : Int)), v]) ⟨rfl, none, rfl⟩ ?_ ?_
    · rintro i σ H' hi ⟨rfl, v, rfl⟩
      rw [Int.toNat_natCast] at hi
      refine ⟨_, rfl, _, rfl, _, rfl, _, _, rfl, rfl, _, _, rfl, rfl, .inr ⟨by show -(2 ^ 64 : Int) < (m : Int) - (0 + (i : Int)); omega, by show (m : Int) - (0 + (i : Int)) < 2 ^ 64; omega⟩, _, rfl, _, _, rfl, rfl, _, _, rfl, rfl, ⟨by show (0 : Int) < 0 + (i : Int) + 1; omega, by show (0 : Int) + (i : Int) + 1 < 1073741824; omega⟩, ?_⟩
      refine ⟨rfl, some (.int (0 + (i : Int))), ?_⟩
      have e1 : ((m : Int) - (0 + (i : Int))) = ((m - i : Nat) : Int) := by omega
      have e2 : ((0 : Int) + (i : Int) + 1) = ((i + 1 : Nat) : Int) := by omega
      have e : ((choN m i : Int) * ((m : Int) - (0 + (i : Int)))) / (0 + (i : Int) + 1) = (choN m (i + 1) : Int) := by
        rw [e1, e2, choN_succ]
        show _ = ((choN m i * (m - i) / (i + 1) : Nat) : Int)
        rw [Int.natCast_ediv, Int.natCast_mul]
      show [some (V.int (m : Int)), some (V.int (c : Int)), some (V.int (((choN m i : Int) * ((m : Int) - (0 + (i : Int)))) / (0 + (i : Int) + 1))), some (V.int (0 + (i : Int)))] = _
      rw [e]
    · rintro σ H' ⟨rfl, v, rfl⟩
      rw [Int.toNat_natCast]
      exact ⟨_, rfl, k⟩
def sp_ways : Sp := fun vs H Q _ => ∃ r t : Nat, vs = [.int (r : Int), .int (t : Int)] ∧ r + t ≤ 1000 ∧ Q (.int (waysN r t : Int)) H
theorem ok_ways (T : Txt K mg) : OkF P w K mg base "ways" 2 ["room", "times"] (sp_ways) := by
  obtain ⟨f_choices, fd_choices, m_choices, k_choices, b_choices, G_choices⟩ := ok_choices (P := P) (w := w) (base := base) T
  refine okf T.d_ways sc_ways (fun vs H Q E h => ?_) (fun f cdv A outer s H vs Q E hr h => ?_)
  · obtain ⟨r, t, rfl, hb, k⟩ := h
    rfl
  · obtain ⟨r, t, rfl, hb, k⟩ := h
    refine ⟨_, (pss_one (ps_ret (pe_call G_choices (hr.mono (by decide)) (by rfl) m_choices k_choices b_choices .nil passL (pa_cons (pe_op op_add (pv 0) (pv 1)) (pa_cons (pv 0) pa_nil))))), ?_⟩
    exact ⟨_, rfl, _, rfl, _, _, rfl, rfl, _, rfl, r + t, r, by rw [Int.natCast_add] <;> rfl, Nat.le_add_right _ _, hb, k⟩
def sp_often : Sp := fun vs H Q _ => ∃ s r : Nat, vs = [.int (s : Int), .int (r : Int)] ∧ s ≤ 100 ∧ 1 ≤ r ∧ r ≤ 12 ∧ Q (.int (oftN s r : Int)) H
theorem ok_often (T : Txt K mg) : OkF P w K mg base "often" 3 ["steps", "room"] (sp_often) := by
  obtain ⟨f_ways, fd_ways, m_ways, k_ways, b_ways, G_ways⟩ := ok_ways (P := P) (w := w) (base := base) T
  refine okf T.d_often sc_often (fun vs H Q E h => ?_) (fun f cdv A outer s H vs Q E hr h => ?_)
  · obtain ⟨s', r, rfl, hs, h1, h2, k⟩ := h
    rfl
  · obtain ⟨s', r, rfl, hs, h1, h2, k⟩ := h
    refine ⟨_, (pss_cons (ps_set (i := 2) sc_often.nd rfl (Or.inl rfl) pe_int)
        (pss_cons (ps_while (passes_of rfl) (pt_cmpR op_le (pe_call G_ways (hr.mono (by decide)) (by rfl) m_ways k_ways b_ways .nil passL (pa_cons (pv 1) (pa_cons (pv 2) pa_nil))) (pv 0) (nomark _))
        (pss_one (ps_set (i := 2) sc_often.nd rfl (Or.inl rfl) (pe_op op_add (pv 2) pe_int))))
        (pss_one (ps_ret (pv 2))))), ?_⟩
    refine ⟨fun n σ H' => ∃ t : Nat, t + n = 101 ∧ H' = H ∧ σ = [some (.int (s' : Int)), some (.int (r : Int)), some (.int (t : Int))] ∧ oftGo s' r n t = oftN s' r, ⟨101, 0, rfl, rfl, rfl, rfl⟩, ?_⟩
    rintro n σ H' ⟨t, ht, rfl, rfl, e⟩
    refine ⟨_, rfl, _, rfl, r, t, rfl, by omega, _, rfl, _, _, rfl, rfl, _, rfl, ?_⟩
    refine ite2 (fun c => ?_) (fun c => ?_)
    · have c' : waysN r t ≤ s' := by
        have := of_decide_eq_true c
        omega
      cases n with
      | zero =>
        have f := ways_far r (by omega) h1
        have z : t = 101 := by omega
        rw [z] at c'
        omega
      | succ n =>
        rw [oft_yes c'] at e
        refine ⟨fun σ' H'' => ∃ t : Nat, t + n = 101 ∧ H'' = H' ∧ σ' = [some (.int (s' : Int)), some (.int (r : Int)), some (.int (t : Int))] ∧ oftGo s' r n t = oftN s' r, fun σ' H'' q => ⟨n, Nat.lt_succ_self n, q⟩, ?_⟩
        exact ⟨_, rfl, _, _, rfl, rfl, t + 1, by omega, rfl, rfl, e⟩
    · have c' : ¬ waysN r t ≤ s' := fun z => c (decide_eq_true (by omega))
      rw [oft_no c'] at e
      rw [← e] at k
      exact ⟨_, rfl, k⟩
def sp_cost : Sp := fun vs H Q _ => ∃ s r : Nat, vs = [.int (s : Int), .int (r : Int)] ∧ s ≤ 100 ∧ 1 ≤ r ∧ r ≤ 12 ∧ Q (.int (costN s r)) H
theorem ok_cost (T : Txt K mg) : OkF P w K mg base "cost" 4 ["steps", "room"] (sp_cost) := by
  obtain ⟨f_often, fd_often, m_often, k_often, b_often, G_often⟩ := ok_often (P := P) (w := w) (base := base) T
  obtain ⟨f_ways, fd_ways, m_ways, k_ways, b_ways, G_ways⟩ := ok_ways (P := P) (w := w) (base := base) T
  refine okf T.d_cost sc_cost (fun vs H Q E h => ?_) (fun f cdv A outer s H vs Q E hr h => ?_)
  · obtain ⟨s', r, rfl, hs, h1, h2, k⟩ := h
    rfl
  · obtain ⟨s', r, rfl, hs, h1, h2, k⟩ := h
    refine ⟨_, (pss_cons (ps_set (i := 2) sc_cost.nd rfl (Or.inl rfl) (pe_call G_often (hr.mono (by decide)) (by rfl) m_often k_often b_often .nil passL (pa_cons (pv 0) (pa_cons (pv 1) pa_nil))))
        (pss_cons (ps_if (pt_cmpR op_eq (pv 2) pe_int (nomark _))
        (pss_one (ps_ret pe_int))
        pss_nil)
        (pss_one (ps_ret (pe_op op_sub (pe_op op_mul (pv 2) (pe_op op_add (pv 0) pe_int)) (pe_call G_ways (hr.mono (by decide)) (by rfl) m_ways k_ways b_ways .nil passL (pa_cons (pe_op op_add (pv 1) pe_int) (pa_cons (pe_op op_sub (pv 2) pe_int) pa_nil)))))))), ?_⟩
    refine ⟨_, rfl, _, rfl, s', r, rfl, hs, h1, h2, ?_⟩
    refine ⟨_, rfl, rfl, _, rfl, ?_⟩
    have lb := oftN_le s' r
    refine ite2 (fun c => ?_) (fun c => ?_)
    · have c' : oftN s' r = 0 := by
        have := V.int.inj (of_decide_eq_true c)
        omega
      unfold costN at k
      rw [if_pos c'] at k
      exact k
    · have c' : ¬ oftN s' r = 0 := fun z => c (decide_eq_true (by rw [z] <;> rfl))
      unfold costN at k
      rw [if_neg c'] at k
      refine ⟨_, rfl, _, rfl, _, _, rfl, rfl, _, _, rfl, rfl, .inl ⟨by omega, by omega⟩, _, rfl, _, _, rfl, rfl, _, rfl, _, _, rfl, rfl, r + 1, oftN s' r - 1, ?_, by omega, _, _, rfl, rfl, k⟩
      have e : ((oftN s' r : Int) - 1) = ((oftN s' r - 1 : Nat) : Int) := by omega
      show [V.int ((r : Int) + 1), V.int ((oftN s' r : Int) - 1)] = _
      rw [e] <;> rfl
def sp_least (K : PySem.W.Frag) (C : Addr) : Sp := fun vs H Q E => (∃ s r : Nat, vs = [.int (s : Int), .int (r : Int)] ∧ s ≤ 100 ∧ 1 ≤ r ∧ r ≤ 12 ∧ Q (.int (costN s r)) H) ∨
  (∃ (x y : V) (o1 o2 : Option Int), vs = [x, y] ∧ Thg K H x o1 ∧ Thg K H y o2 ∧ goodC o1 o2 = false ∧ E (.ref C) none H)
theorem good_ok {s r : Nat} (h1 : s ≤ 100) (h2 : 1 ≤ r) (h3 : r ≤ 12) : goodC (some (s : Int)) (some (r : Int)) = true := by
  show ((decide ((0 : Int) ≤ (s : Int)) && decide ((s : Int) ≤ 100)) && (decide ((1 : Int) ≤ (r : Int)) && decide ((r : Int) ≤ 12))) = true
  simp only [Bool.and_eq_true, decide_eq_true_eq]
  omega
theorem good_nums {K : PySem.W.Frag} {H : Hp} {x y : V} {o1 o2 : Option Int} (t1 : Thg K H x o1) (t2 : Thg K H y o2) (g : goodC o1 o2 = true) : ∃ s r : Nat, s ≤ 100 ∧ 1 ≤ r ∧ r ≤ 12 ∧ x = .int (s : Int) ∧ y = .int (r : Int) := by
  unfold goodC at g
  obtain ⟨g1, g2⟩ := (Bool.and_eq_true _ _ ▸ g : _ ∧ _)
  cases t1 with
  | int i =>
    cases t2 with
    | int j =>
      have g1' : (decide ((0 : Int) ≤ i) && decide (i ≤ 100)) = true := g1
      have g2' : (decide ((1 : Int) ≤ j) && decide (j ≤ 12)) = true := g2
      simp only [Bool.and_eq_true, decide_eq_true_eq] at g1' g2'
      exact ⟨i.toNat, j.toNat, by omega, by omega, by omega, by rw [Int.toNat_of_nonneg g1'.1], by rw [Int.toNat_of_nonneg (by omega)]⟩
    | bl b => exact absurd (show false = true from g2) (by decide)
    | oth _ _ => exact absurd (show false = true from g2) (by decide)
  | bl b => exact absurd (show false = true from g1) (by decide)
  | oth _ _ => exact absurd (show false = true from g1) (by decide)
theorem ok_least (T : Txt K mg) : OkF P w K mg base "least" 5 ["steps", "room"] (sp_least K T.aBadCount) := by
  obtain ⟨f_need_counts, fd_need_counts, m_need_counts, k_need_counts, b_need_counts, G_need_counts⟩ := ok_need_counts (P := P) (w := w) (base := base) T
  obtain ⟨f_cost, fd_cost, m_cost, k_cost, b_cost, G_cost⟩ := ok_cost (P := P) (w := w) (base := base) T
  refine okf T.d_least sc_least (fun vs H Q E h => ?_) (fun f cdv A outer s H vs Q E hr h => ?_)
  · rcases h with ⟨s', r, rfl, h1, h2, h3, k⟩ | ⟨x, y, o1, o2, rfl, t1, t2, g, k⟩ <;> rfl
  · skip
    refine ⟨_, (pss_cons (ps_expr (pe_call G_need_counts (hr.mono (by decide)) (by rfl) m_need_counts k_need_counts b_need_counts .nil (passes_call (W := fun cls d _ H => E cls d H) (takes_of rfl rfl rfl rfl) (fun _ _ _ _ h => h)) (pa_cons (pv 0) (pa_cons (pv 1) pa_nil))))
        (pss_one (ps_ret (pe_call G_cost (hr.mono (by decide)) (by rfl) m_cost k_cost b_cost .nil passL (pa_cons (pv 0) (pa_cons (pv 1) pa_nil)))))), ?_⟩
    rcases h with ⟨s', r, rfl, h1, h2, h3, k⟩ | ⟨x, y, o1, o2, rfl, t1, t2, g, k⟩
    · refine ⟨_, rfl, _, rfl, _, _, _, _, rfl, .int _, .int _, fun _ => ?_, fun z => absurd (good_ok h1 h2 h3) (by rw [z]; decide)⟩
      exact ⟨_, rfl, _, rfl, s', r, rfl, h1, h2, h3, k⟩
    · exact ⟨_, rfl, _, rfl, x, y, o1, o2, rfl, t1, t2, fun z => absurd g (by rw [z]; decide), fun _ => k⟩
def sp_next_line (K : PySem.W.Frag) : Sp := fun vs H Q _ => ∃ (a : Addr) (row : List Int) (n : Nat), vs = [.ref a, .int (n : Int)] ∧ SqL K H a (row.map V.int) ∧ n ≤ 100 ∧ row.length = n + 1 ∧ RetL H ((nextN row n).map V.int) Q
theorem ok_next_line (T : Txt K mg) : OkF P w K mg base "next_line" 1 ["above", "steps"] (sp_next_line K) := by
  refine okf T.d_next_line sc_next_line (fun vs H Q E h => ?_) (fun f cdv A outer s H vs Q E hr h => ?_)
  · obtain ⟨a, row, n, rfl, hS, hn, hl, k⟩ := h
    rfl
  · obtain ⟨a, row, n, rfl, hS, hn, hl, k⟩ := h
    refine ⟨_, (pss_cons (ps_set (i := 2) sc_next_line.nd rfl (Or.inl rfl) (pe_lst (pa_cons pe_int pa_nil)))
        (pss_cons (ps_for (passes_of rfl) rfl (pi_range2 (by rfl) T.n_range (pa_cons pe_int (pa_cons (pe_op op_add (pv 1) pe_int) pa_nil))) (pg_name (i := 3) sc_next_line.nd rfl (Or.inl rfl))
        (pss_cons (ps_set (i := 4) sc_next_line.nd rfl (Or.inl rfl) pe_non)
        (pss_cons (ps_for (passes_of rfl) rfl (pi_range2 (by rfl) T.n_range (pa_cons pe_int (pa_cons (pe_op op_add (pv 3) pe_int) pa_nil))) (pg_name (i := 5) sc_next_line.nd rfl (Or.inl rfl))
        (pss_cons (ps_set (i := 6) sc_next_line.nd rfl (Or.inl rfl) (pe_op op_add (pe_op op_add (pv 5) (pe_ix ix_list (pv 0) (pe_op op_sub (pv 3) (pv 5)) (fun _ _ => rfl))) (pe_ix ix_list (pv 2) (pe_op op_sub (pv 5) pe_int) (fun _ _ => rfl))))
        (pss_one (ps_if (PW.pt (pw_or (pt_cmpR op_isN (pv 4) pe_non (nomark _)) (pw_or1 (pt_cmpR op_lt (pv 6) (pv 4) (nomark _)))))
        (pss_one (ps_set (i := 4) sc_next_line.nd rfl (Or.inl rfl) (pv 6)))
        pss_nil))))
        (pss_one (ps_expr (pe_bm PySem.F.plainAttrs_list PySem.F.slot_list_append PySem.F.type_list_append mt_append (pv 2) (pa_cons (pv 4) pa_nil)))))))
        (pss_one (ps_ret (pv 2))))), ?_⟩
    refine ⟨by show 1 ≤ sizeLine; decide, fun p hp => ?_⟩
    refine ⟨_, rfl, _, _, rfl, rfl, _, _, rfl, by omega, ?_⟩
    have e0 : ((n : Int) + 1 - 1).toNat = n := by omega
    refine for_range (lo := 1) (n := ((n : Int) + 1 - 1).toNat) (fun i σ H' => ∃ u b m w, σ = [some (.ref a), some (.int (n : Int)), some (.ref p), u, b, m, w] ∧ Same H H' ∧ H' p = some (.lst ((nextN row i).map V.int))) ⟨none, none, none, none, rfl, Same.new hp, upd_same⟩ ?_ ?_
    · rintro i σ H' hi ⟨u, b, m, w, rfl, sm, hP⟩
      rw [e0] at hi
      refine ⟨_, rfl, _, _, rfl, rfl, _, _, rfl, by omega, ?_⟩
      have e1 : ((1 : Int) + (i : Int) + 1 - 1).toNat = i + 1 := by omega
      refine for_range (lo := 1) (n := ((1 : Int) + (i : Int) + 1 - 1).toNat) (fun j σ H2 => ∃ m w, σ = [some (.ref a), some (.int (n : Int)), some (.ref p), some (.int (1 + (i : Int))), some (oV (bestN row (nextN row i) (i + 1) j)), m, w] ∧ H2 = H') ⟨_, _, rfl, rfl⟩ ?_ ?_
      · rintro j σ H2 hj ⟨m, w, rfl, rfl⟩
        rw [e1] at hj
        have q1 : (1 : Int) + (i : Int) - (1 + (j : Int)) = ((i + 1 - (j + 1) : Nat) : Int) := by omega
        have q2 : (1 : Int) + (j : Int) - 1 = ((j : Nat) : Int) := by omega
        have r1 : row[i + 1 - (j + 1)]? = some (row.getD (i + 1 - (j + 1)) 0) := by
          rw [List.getElem?_eq_getElem (by omega), List.getD_eq_getElem?_getD, List.getElem?_eq_getElem (by omega)] <;> rfl
        have r2 : (nextN row i)[j]? = some ((nextN row i).getD j 0) := by
          rw [List.getElem?_eq_getElem (by rw [nextN_len]; omega), List.getD_eq_getElem?_getD, List.getElem?_eq_getElem (by rw [nextN_len]; omega)] <;> rfl
        refine ⟨_, rfl, _, rfl, _, rfl, _, rfl, _, _, rfl, rfl, a, _, _, _, rfl, rfl, sm.seq hS, at_map q1 r1, _, _, rfl, rfl, _, rfl, _, rfl, _, _, rfl, rfl, p, _, _, _, rfl, rfl, SqL.of hP, at_map q2 r2, _, _, rfl, rfl, ?_⟩
        have ew : (1 : Int) + (j : Int) + row.getD (i + 1 - (j + 1)) 0 + (nextN row i).getD j 0 = ((j : Int) + 1) + row.getD (i + 1 - (j + 1)) 0 + (nextN row i).getD j 0 := by omega
        have eb := bestN_succ row (nextN row i) (i + 1) j
        refine ⟨_, rfl, rfl, _, rfl, ?_⟩
        cases eo : bestN row (nextN row i) (i + 1) j with
        | none =>
          refine iteT (iteT ?_)
          rw [eo] at eb
          have eb' : bestN row (nextN row i) (i + 1) (j + 1) = some ((1 : Int) + (j : Int) + row.getD (i + 1 - (j + 1)) 0 + (nextN row i).getD j 0) := by
            rw [eb, ew] <;> rfl
          rw [eb']
          exact ⟨_, rfl, _, _, rfl, rfl⟩
        | some v =>
          refine iteF ?_
          refine ⟨_, rfl, _, rfl, _, _, rfl, rfl, _, rfl, ?_⟩
          rw [eo] at eb
          have eb' : bestN row (nextN row i) (i + 1) (j + 1) = if (1 : Int) + (j : Int) + row.getD (i + 1 - (j + 1)) 0 + (nextN row i).getD j 0 < v then some ((1 : Int) + (j : Int) + row.getD (i + 1 - (j + 1)) 0 + (nextN row i).getD j 0) else some v := by
            rw [eb, ew] <;> rfl
          refine ite2 (fun c => ?_) (fun c => ?_)
          · rw [if_pos (of_decide_eq_true c)] at eb'
            rw [eb']
            exact ⟨_, rfl, _, _, rfl, rfl⟩
          · rw [if_neg (fun z => c (decide_eq_true z))] at eb'
            rw [eb']
            exact ⟨_, _, rfl, rfl⟩
      · rintro σ H2 ⟨m, w, rfl, rfl⟩
        rw [e1]
        obtain ⟨v, hv⟩ : ∃ v, bestN row (nextN row i) (i + 1) (i + 1) = some v := by
          rw [bestN_succ]
          exact bestStep_some _ _ _ _ _
        have ln := nextN_len row i
        refine ⟨_, rfl, .inl ⟨rfl, _, SqL.of hP⟩, _, rfl, p, _, _, rfl, rfl, hP, sz5' (by rw [List.length_map]; omega), ?_⟩
        refine ⟨_, _, _, _, rfl, Same.mut sm hp, ?_⟩
        rw [upd_same, hv]
        show _ = some (HO.lst ((nextN row i ++ [(bestN row (nextN row i) (i + 1) (i + 1)).getD 0]).map V.int))
        rw [hv, List.map_append] <;> rfl
    · rintro σ H' ⟨u, b, m, w, rfl, sm, hP⟩
      rw [e0] at hP
      exact ⟨_, rfl, k p H' hp sm hP⟩
theorem Rows.same {H H' : Hp} {as : List Addr} {r : Nat} {f : Nat → List Int} (e : Same H H') (R : Rows H as r f) : Rows H' as r f := ⟨R.len, fun i a h => e _ _ (R.at' i a h)⟩
def sp_table (K : PySem.W.Frag) (C : Addr) : Sp := fun vs H Q E => (∃ s r : Nat, vs = [.int (s : Int), .int (r : Int)] ∧ s ≤ 100 ∧ 1 ≤ r ∧ r ≤ 12 ∧ RetRows H r (lineK s) Q) ∨
  (∃ (x y : V) (o1 o2 : Option Int), vs = [x, y] ∧ Thg K H x o1 ∧ Thg K H y o2 ∧ goodC o1 o2 = false ∧ E (.ref C) none H)
theorem ok_table (T : Txt K mg) : OkF P w K mg base "table" 3 ["steps", "room"] (sp_table K T.aBadCount) := by
  obtain ⟨f_need_counts, fd_need_counts, m_need_counts, k_need_counts, b_need_counts, G_need_counts⟩ := ok_need_counts (P := P) (w := w) (base := base) T
  obtain ⟨f_next_line, fd_next_line, m_next_line, k_next_line, b_next_line, G_next_line⟩ := ok_next_line (P := P) (w := w) (base := base) T
  refine okf T.d_table sc_table (fun vs H Q E h => ?_) (fun f cdv A outer s H vs Q E hr h => ?_)
  · rcases h with ⟨s', r, rfl, h1, h2, h3, k⟩ | ⟨x, y, o1, o2, rfl, t1, t2, g, k⟩ <;> rfl
  · skip
    refine ⟨_, (pss_cons (ps_expr (pe_call G_need_counts (hr.mono (by decide)) (by rfl) m_need_counts k_need_counts b_need_counts .nil (passes_call (W := fun cls d _ H => E cls d H) (takes_of rfl rfl rfl rfl) (fun _ _ _ _ h => h)) (pa_cons (pv 0) (pa_cons (pv 1) pa_nil))))
        (pss_cons (ps_set (i := 2) sc_table.nd rfl (Or.inl rfl) (pe_lst (pa_cons (pe_lc (own := [("many", 4)]) rfl sc_table.nd (pi_range1 (by rfl) T.n_range (pa_cons (pe_op op_add (pv 0) pe_int) pa_nil)) (blkOk_by (own := [("many", 4)]) (N := ["steps", "room", "found", "turn", "many"]) (sc := defScope s_table) (by decide +kernel)) (fun _ _ _ _ _ => (pg_name (i := 4) sc_table.nd rfl (Or.inl rfl))) (fun _ _ _ _ _ => pts_nil) (fun _ _ _ _ _ => (pe_op op_fdiv (pe_op op_mul (pv 4) (pe_op op_add (pv 4) pe_int)) pe_int))) pa_nil)))
        (pss_cons (ps_for (passes_of rfl) rfl (pi_range2 (by rfl) T.n_range (pa_cons pe_int (pa_cons (pv 1) pa_nil))) (pg_name (i := 3) sc_table.nd rfl (Or.inl rfl))
        (pss_one (ps_expr (pe_bm PySem.F.plainAttrs_list PySem.F.slot_list_append PySem.F.type_list_append mt_append (pv 2) (pa_cons (pe_call G_next_line (hr.mono (by decide)) (by rfl) m_next_line k_next_line b_next_line .nil passL (pa_cons (pe_ix ix_list (pv 2) (pe_un un_neg pe_int) (fun _ _ => rfl)) (pa_cons (pv 0) pa_nil))) pa_nil)))))
        (pss_one (ps_ret (pv 2)))))), ?_⟩
    rcases h with ⟨n, r, rfl, h1, h2, h3, k⟩ | ⟨x, y, o1, o2, rfl, t1, t2, g, k⟩
    case inr => exact ⟨_, rfl, _, rfl, x, y, o1, o2, rfl, t1, t2, fun z => absurd g (by rw [z]; decide), fun _ => k⟩
    refine ⟨_, rfl, _, rfl, _, _, _, _, rfl, .int _, .int _, fun _ => ?_, fun z => absurd (good_ok h1 h2 h3) (by rw [z]; decide)⟩
    refine ⟨_, rfl, _, _, rfl, rfl, _, rfl, by omega, by omega, fun D hD => ?_⟩
    have e0 : ((n : Int) + 1).toNat = n + 1 := by omega
    refine lc_range (lo := 0) (n := ((n : Int) + 1).toNat) (fun i H' => Same H H' ∧ H' D = some (.lst (((List.range i).map fun (m : Nat) => ((m : Int) * ((m : Int) + 1)) / 2).map V.int))) ⟨Same.new hD, upd_same⟩ ?_ ?_
    · rintro i H' hi ⟨sm, hP⟩
      rw [e0] at hi
      have ei : (0 : Int) + (i : Int) = (i : Int) := Int.zero_add _
      refine ⟨rfl, ?_⟩
      refine ⟨_, rfl, _, rfl, _, _, rfl, rfl, _, _, rfl, rfl, .inl ⟨by show -(2 ^ 64 : Int) < 0 + (i : Int); omega, by show 0 + (i : Int) < 2 ^ 64; omega⟩, _, _, rfl, rfl, ⟨by decide, by decide⟩, _, hP, sz5' (by rw [List.length_map, List.length_map, List.length_range]; omega), Same.mut sm hD, ?_⟩
      rw [upd_same, ← lineOne_take i, ei]
    · rintro H1 ⟨sm, hP⟩
      rw [e0] at hP
      refine ⟨by show 1 ≤ sizeLine; decide, fun p hp => ?_⟩
      refine ⟨_, rfl, _, _, rfl, by omega, ?_⟩
      have e1 : ((r : Int) - 1).toNat = r - 1 := by omega
      have npD : D ≠ p := ne_of_none hP hp
      have hp0 : H p = none := sm.free hp
      refine for_range (lo := 1) (n := ((r : Int) - 1).toNat) (fun i σ H' => ∃ (as : List Addr) (u : Option V), σ = [some (.int (n : Int)), some (.int (r : Int)), some (.ref p), u, none] ∧ (∀ a ∈ as, H a = none) ∧ Same H H' ∧ H' p = some (.lst (as.map V.ref)) ∧ Rows H' as (i + 1) (lineK n)) ⟨[D], none, rfl, fun a ha => ?_, sm.trans (Same.new hp), upd_same, rfl, fun i a ha => ?_⟩ ?_ ?_
      · rw [List.mem_singleton.mp ha]
        exact hD
      · cases i with
        | succ i => simp at ha
        | zero =>
          have ea : D = a := Option.some.inj ha
          rw [← ea, upd_ne npD]
          exact hP
      · rintro i σ H' hi ⟨as, u, rfl, ha, sm', hP', R⟩
        rw [e1] at hi
        obtain ⟨al, hal⟩ : ∃ al, as[i]? = some al := ⟨as[i]'(by rw [R.len]; omega), List.getElem?_eq_getElem _⟩
        refine ⟨_, rfl, .inl ⟨rfl, _, SqL.of hP'⟩, _, rfl, _, rfl, p, _, _, _, rfl, rfl, SqL.of hP', atI_end (v := .ref al) ?_, _, rfl, ?_⟩
        · rw [List.length_map, R.len, List.getElem?_map, show i + 1 - 1 = i from rfl, hal] <;> rfl
        refine ⟨al, lineK n i, n, rfl, SqL.of (R.at' i al hal), h1, lineK_len n i, fun q H2 hq sm2 hQ => ?_⟩
        have npq : p ≠ q := ne_of_none hP' hq
        refine ⟨p, _, _, rfl, rfl, sm2 _ _ hP', sz5' (by rw [List.length_map, R.len]; omega), ?_⟩
        refine ⟨as ++ [q], _, rfl, fun a hm => ?_, Same.mut (sm'.trans sm2) hp0, ?_, by rw [List.length_append, R.len] <;> rfl, fun j a hj => ?_⟩
        · rcases List.mem_append.mp hm with z | z
          · exact ha a z
          · rw [List.mem_singleton.mp z]
            exact sm'.free hq
        · rw [upd_same, List.map_append] <;> rfl
        · have hne : a ≠ p := fun z => by
            by_cases hj2 : j < as.length
            · rw [List.getElem?_append_left hj2] at hj
              have w := R.at' j a hj
              rw [z, hP'] at w
              have w' := congrArg List.head? (HO.lst.inj (Option.some.inj w))
              have l2 := lineK_len n j
              cases e5 : lineK n j with
              | nil =>
                rw [e5] at l2
                simp at l2
              | cons c cs =>
                cases as with
                | nil => simp at hj2
                | cons a0 as0 =>
                  rw [e5] at w'
                  have w2 : some (V.ref a0) = some (V.int c) := w'
                  cases w2
            · rw [List.getElem?_append_right (by omega)] at hj
              have : j - as.length = 0 := by
                have := (List.getElem?_eq_some_iff.mp hj).1
                simp at this
                omega
              rw [this] at hj
              have : q = a := Option.some.inj hj
              exact npq (this.trans z).symm
          rw [upd_ne hne]
          by_cases hj2 : j < as.length
          · rw [List.getElem?_append_left hj2] at hj
            exact sm2 _ _ (R.at' j a hj)
          · rw [List.getElem?_append_right (by omega)] at hj
            have e7 : j - as.length = 0 := by
              have := (List.getElem?_eq_some_iff.mp hj).1
              simp at this
              omega
            rw [e7] at hj
            have e8 : q = a := Option.some.inj hj
            have e9 : j = i + 1 := by
              have := R.len
              omega
            rw [← e8, e9]
            exact hQ
      · rintro σ H' ⟨as, u, rfl, ha, sm', hP', R⟩
        rw [e1] at R
        have e2 : r - 1 + 1 = r := by omega
        rw [e2] at R
        exact ⟨_, rfl, k p as H' hp0 ha sm' hP' R⟩

/-- _law_cell_at(script, k): the k-th number, or 0 -/
def cellAt (ns : List Int) (k : Nat) : Int := ns.getD k 0
def sp_l_cell_at (K : PySem.W.Frag) : Sp := fun vs H Q _ => ∃ (a : Addr) (ns : List Int) (j : Nat), vs = [.ref a, .int (j : Int)] ∧ SqL K H a (ns.map V.int) ∧ Q (.int (cellAt ns j)) H
theorem ok_l_cell_at (T : Txt K mg) : OkF P w K mg base "_law_cell_at" 1 ["_law_script", "_law_k"] (sp_l_cell_at K) := by
  refine okf T.d_l_cell_at sc_l_cell_at (fun vs H Q E h => ?_) (fun f cdv A outer s H vs Q E hr h => ?_)
  · obtain ⟨a, ns, j, rfl, hS, k⟩ := h
    rfl
  · obtain ⟨a, ns, j, rfl, hS, k⟩ := h
    refine ⟨_, (pss_cons (ps_if (pt_cmpR op_lt (pv 1) (pe_callB call_len_seq (by rfl) T.n_len PySem.boot_len (pa_cons (pv 0) pa_nil)) (nomark _))
        (pss_one (ps_ret (pe_ix ix_list (pv 0) (pv 1) (fun _ _ => rfl))))
        pss_nil)
        (pss_one (ps_ret pe_int))), ?_⟩
    refine ⟨_, rfl, _, rfl, a, _, rfl, .inl hS, _, _, rfl, rfl, _, rfl, ?_⟩
    refine ite2 (fun c => ?_) (fun c => ?_)
    · have c' := of_decide_eq_true c
      rw [List.length_map] at c'
      have hj : j < ns.length := by omega
      refine ⟨_, rfl, _, rfl, a, _, _, .int (cellAt ns j), rfl, rfl, hS, ?_, k⟩
      refine at_map rfl ?_
      unfold cellAt
      rw [List.getElem?_eq_getElem hj, List.getD_eq_getElem?_getD, List.getElem?_eq_getElem hj] <;> rfl
    · have c' : ¬ ((j : Int) < ((ns.map V.int).length : Int)) := fun z => c (decide_eq_true z)
      rw [List.length_map] at c'
      have e : cellAt ns j = 0 := by
        unfold cellAt
        rw [List.getD_eq_getElem?_getD, List.getElem?_eq_none (by omega)] <;> rfl
      rw [e] at k
      exact k

def sp_l_whole (K : PySem.W.Frag) : Sp := fun vs H Q _ => ∃ (x : V) (o : Option Int), vs = [x] ∧ Thg K H x o ∧ Q (.bl (whole o)) H
theorem ok_l_whole (T : Txt K mg) : OkF P w K mg base "_law_whole" 1 ["_law_found"] (sp_l_whole K) := by
  refine okf T.d_l_whole sc_l_whole (fun vs H Q E h => ?_) (fun f cdv A outer s H vs Q E hr h => ?_)
  · obtain ⟨x, o, rfl, th, k⟩ := h
    rfl
  · obtain ⟨x, o, rfl, th, k⟩ := h
    refine ⟨_, (pss_one (ps_ret (pe_and (pe_callB call_isi (by rfl) T.n_isinstance (by decide +kernel) (pa_cons (pv 0) (pa_cons (pe_bltn (v := .ty "int") (by rfl) T.n_int (by decide +kernel) rfl) pa_nil))) (pe_one (pe_not (pe_callB call_isi (by rfl) T.n_isinstance (by decide +kernel) (pa_cons (pv 0) (pa_cons (pe_bltn (v := .ty "bool") (by rfl) T.n_bool (by decide +kernel) rfl) pa_nil)))))))), ?_⟩
    refine ⟨_, rfl, ?_⟩
    cases th with
    | int i =>
      refine ⟨_, _, _, _, true, rfl, .ty "int", .base (.int i), kit_ty (by decide +kernel), true, rfl, iteT ?_⟩
      exact ⟨_, rfl, _, _, _, _, false, rfl, .ty "bool", .base (.int i), kit_ty (by decide +kernel), false, rfl, k⟩
    | bl b =>
      refine ⟨_, _, _, _, true, rfl, .ty "int", .base (.bl b), kit_ty (by decide +kernel), true, rfl, iteT ?_⟩
      exact ⟨_, rfl, _, _, _, _, true, rfl, .ty "bool", .base (.bl b), kit_ty (by decide +kernel), true, rfl, k⟩
    | oth ty ni =>
      refine ⟨_, _, _, _, false, rfl, .ty "int", ty, ni, false, rfl, iteF ?_⟩
      exact k
def kinds8 (i : Nat) : List V := [.bl (decide (0 = i)), .bl (decide (1 = i)), .bl (decide (2 = i)), .bl (decide (3 = i)), .bl (decide (4 = i)), .bl (decide (5 = i)), .bl (decide (6 = i)), .bl (decide (7 = i))]
theorem kinds_count {i : Nat} (h : i < 8) : ((kinds8 i).countP fun z => eqV z (.bl true)) = 1 := eight (P := fun i => ((kinds8 i).countP fun z => eqV z (.bl true)) = 1) h rfl rfl rfl rfl rfl rfl rfl rfl
theorem kinds_at {i : Nat} (h : i < 8) : (kinds8 i)[i]? = some (.bl true) := eight (P := fun i => (kinds8 i)[i]? = some (.bl true)) h rfl rfl rfl rfl rfl rfl rfl rfl
theorem kinds_ahead {i m : Nat} (h : i < 8) (hm : m < i) : (kinds8 i)[m]? = some (.bl false) := by
  have g : ∀ i, i < 8 → ∀ m, m < i → (kinds8 i)[m]? = some (.bl false) := by decide
  exact g i h m hm
theorem words_at {i : Nat} (h : i < 8) : (words8.map V.str)[i]? = some (.str (words8.getD i "")) := eight (P := fun i => (words8.map V.str)[i]? = some (.str (words8.getD i ""))) h rfl rfl rfl rfl rfl rfl rfl rfl
theorem ok_l_class (T : Txt K mg) : ∃ (f : Addr) (fd : FuncData), mg "_law_class" = some (.ref f) ∧ PySem.W.keepIn K (.ref f) = true ∧ Binds K fd ["_law_e"] [] ∧ FnE P w K mg base 1 f fd ["_law_e"] (sp_class K T.c8) := by
  obtain ⟨f, fd, hm, F, hb⟩ := T.d_l_class
  refine ⟨f, fd, hm, F.kp, hb, fn_ofE F sc_l_class (fun a c d vs H Q h => ?_) (fun cdv A outer s H vs Q p c d hz hf hr h => ?_)⟩
  · obtain ⟨rfl, _⟩ := h
    rfl
  · obtain ⟨rfl, D, i, rfl, rfl, KD, k⟩ := h
    refine ⟨_, (pss_cons (ps_set (i := 1) sc_l_class.nd rfl (Or.inl rfl) (pe_lst (pa_cons (pe_callB (call_isP (List.mem_singleton_self _) hz hf) (by rfl) T.n_isinstance (by decide +kernel) (pa_cons (pv 0) (pa_cons (pe_glob (v := .ref T.aBadCount) (by rfl) T.x_BadCount.g rfl) pa_nil))) (pa_cons (pe_callB (call_isP (List.mem_singleton_self _) hz hf) (by rfl) T.n_isinstance (by decide +kernel) (pa_cons (pv 0) (pa_cons (pe_glob (v := .ref T.aBadRule) (by rfl) T.x_BadRule.g rfl) pa_nil))) (pa_cons (pe_callB (call_isP (List.mem_singleton_self _) hz hf) (by rfl) T.n_isinstance (by decide +kernel) (pa_cons (pv 0) (pa_cons (pe_glob (v := .ref T.aBadDeed) (by rfl) T.x_BadDeed.g rfl) pa_nil))) (pa_cons (pe_callB (call_isP (List.mem_singleton_self _) hz hf) (by rfl) T.n_isinstance (by decide +kernel) (pa_cons (pv 0) (pa_cons (pe_glob (v := .ref T.aFull) (by rfl) T.x_Full.g rfl) pa_nil))) pa_nil))))))
    (pss_cons (ps_set (i := 1) sc_l_class.nd rfl (Or.inl rfl) (pe_op op_cat (pv 1) (pe_lst (pa_cons (pe_callB (call_isP (List.mem_singleton_self _) hz hf) (by rfl) T.n_isinstance (by decide +kernel) (pa_cons (pv 0) (pa_cons (pe_glob (v := .ref T.aTwice) (by rfl) T.x_Twice.g rfl) pa_nil))) (pa_cons (pe_callB (call_isP (List.mem_singleton_self _) hz hf) (by rfl) T.n_isinstance (by decide +kernel) (pa_cons (pv 0) (pa_cons (pe_glob (v := .ref T.aNotKept) (by rfl) T.x_NotKept.g rfl) pa_nil))) (pa_cons (pe_callB (call_isP (List.mem_singleton_self _) hz hf) (by rfl) T.n_isinstance (by decide +kernel) (pa_cons (pv 0) (pa_cons (pe_glob (v := .ref T.aAtEnd) (by rfl) T.x_AtEnd.g rfl) pa_nil))) (pa_cons (pe_callB (call_isP (List.mem_singleton_self _) hz hf) (by rfl) T.n_isinstance (by decide +kernel) (pa_cons (pv 0) (pa_cons (pe_glob (v := .ref T.aNotWanted) (by rfl) T.x_NotWanted.g rfl) pa_nil))) pa_nil)))))))
    (pss_cons (ps_if (PW.pt (pw_or (pt_cmpR op_ne (pe_bm PySem.F.plainAttrs_list PySem.F.slot_list_count PySem.F.type_list_count mt_countV (pv 1) (pa_cons pe_bl pa_nil)) pe_int (nomark _)) (pw_or1 (pt_not (pt_val (pe_callB (call_isP (List.mem_singleton_self _) hz hf) (by rfl) T.n_isinstance (by decide +kernel) (pa_cons (pv 0) (pa_cons (pe_bltn (v := .ty "ValueError") (by rfl) T.n_ValueError (by decide +kernel) rfl) pa_nil))))))))
    (pss_one (ps_ret (pe_tup (pa_cons pe_str (pa_cons pe_str pa_nil)))))
    pss_nil)
    (pss_cons (ps_set (i := 2) sc_l_class.nd rfl (Or.inl rfl) (pe_lst (pa_cons pe_str (pa_cons pe_str (pa_cons pe_str (pa_cons pe_str (pa_cons pe_str (pa_cons pe_str (pa_cons pe_str (pa_cons pe_str pa_nil))))))))))
    (pss_one (ps_ret (pe_tup (pa_cons pe_str (pa_cons (pe_ix ix_list (pv 2) (pe_bm PySem.F.plainAttrs_list PySem.F.slot_list_index PySem.F.type_list_index mt_index (pv 1) (pa_cons pe_bl pa_nil)) (fun _ _ => rfl)) pa_nil))))))))), ?_⟩
    refine ⟨_, rfl, D, .ref _, .ref _, _, rfl, rfl, KD.ex, rfl, fun u r => r, KD.is 0 (by decide), _, rfl, D, .ref _, .ref _, _, rfl, rfl, KD.ex, rfl, fun u r => r, KD.is 1 (by decide), _, rfl, D, .ref _, .ref _, _, rfl, rfl, KD.ex, rfl, fun u r => r, KD.is 2 (by decide), _, rfl, D, .ref _, .ref _, _, rfl, rfl, KD.ex, rfl, fun u r => r, KD.is 3 (by decide), by show 4 ≤ sizeLine; decide, fun p1 h1 => ?_⟩
    refine ⟨_, rfl, ?_⟩
    refine ⟨_, rfl, D, .ref _, .ref _, _, rfl, rfl, KD.ex, rfl, fun u r => r, KD.is 4 (by decide), _, rfl, D, .ref _, .ref _, _, rfl, rfl, KD.ex, rfl, fun u r => r, KD.is 5 (by decide), _, rfl, D, .ref _, .ref _, _, rfl, rfl, KD.ex, rfl, fun u r => r, KD.is 6 (by decide), _, rfl, D, .ref _, .ref _, _, rfl, rfl, KD.ex, rfl, fun u r => r, KD.is 7 (by decide), by show 4 ≤ sizeLine; decide, fun p2 h2 => ?_⟩
    have n12 : p1 ≠ p2 := ne_of_none upd_same h2
    refine ⟨p1, p2, _, _, rfl, rfl, by rw [upd_ne n12]; exact upd_same, upd_same, by show 8 ≤ sizeLine; decide, fun p3 h3 => ?_⟩
    have sm := fun (o : HO) => ((Same.new h1).trans (Same.new h2)).trans (Same.new (o := o) h3)
    -- the two refusals of the shape
    refine ⟨_, rfl, .inl ⟨rfl, _, SqL.of upd_same⟩, p3, kinds8 i, .bl true, rfl, rfl, SqL.of upd_same, rfl, rfl, ?_⟩
    rw [kinds_count KD.lt]
    refine ⟨rfl, _, rfl, iteNS rfl ?_⟩
    refine ⟨_, rfl, D, .ty "ValueError", .type "ValueError", _, rfl, rfl, KD.ex, rfl, fun u r => r, KD.ve, _, rfl, iteF ?_⟩
    refine ⟨by show 8 ≤ sizeLine; decide, fun p4 h4 => ?_⟩
    have n34 : p3 ≠ p4 := ne_of_none upd_same h4
    refine ⟨_, rfl, _, rfl, .inl ⟨rfl, _, SqL.of (by rw [upd_ne n34]; exact upd_same)⟩, p3, kinds8 i, .bl true, i, .bl true, rfl, rfl, SqL.of (by rw [upd_ne n34]; exact upd_same), rfl, rfl, kinds_at KD.lt, rfl, fun m z' hm hz' => ?_, ?_⟩
    · rw [kinds_ahead KD.lt hm] at hz'
      cases hz'
      rfl
    refine ⟨p4, words8.map V.str, _, _, rfl, rfl, SqL.of upd_same, atI_nat (words_at KD.lt), by show 2 ≤ sizeLine; decide, fun t ht => ?_⟩
    exact k t _ (((sm _).trans (Same.new h4)).free ht) (((sm _).trans (Same.new h4)).trans (Same.new ht)) upd_same

theorem lineC_len (n r : Nat) : (lineC n r).length = n + 1 := by
  unfold lineC
  rw [List.length_map, List.length_range]
theorem lineC_at {n r j : Nat} (h : j ≤ n) : (lineC n r)[j]? = some (costN j r) := by
  unfold lineC
  rw [List.getElem?_map, List.getElem?_range (by omega)] <;> rfl
def sp_l_entry (K : PySem.W.Frag) : Sp := fun vs H Q _ => ∃ (a b : Addr) (n r many : Nat), vs = [.ref a, .ref b, .int (many : Int)] ∧ SqL K H a ((lineC n r).map V.int) ∧ SqL K H b ((lineC n (r + 1)).map V.int) ∧ 1 ≤ r ∧ r < 12 ∧ n ≤ 100 ∧ 1 ≤ many ∧ many ≤ n ∧ Q (.int (costN many (r + 1))) H
theorem ok_l_entry (T : Txt K mg) : OkF P w K mg base "_law_entry" 1 ["_law_above", "_law_own", "_law_many"] (sp_l_entry K) := by
  refine okf T.d_l_entry sc_l_entry (fun vs H Q E h => ?_) (fun f cdv A outer s H vs Q E hr h => ?_)
  · obtain ⟨a, b, n, r, many, rfl, hA, hB, h1, h2, h3, h4, h5, k⟩ := h
    rfl
  · obtain ⟨a, b, n, r, many, rfl, hA, hB, h1, h2, h3, h4, h5, k⟩ := h
    refine ⟨_, (pss_cons (ps_set (i := 3) sc_l_entry.nd rfl (Or.inl rfl) (pe_op op_add (pe_op op_add (pv 2) (pe_ix ix_list (pv 0) pe_int (fun _ _ => rfl))) (pe_ix ix_list (pv 1) (pe_op op_sub (pv 2) pe_int) (fun _ _ => rfl))))
        (pss_cons (ps_for (passes_of rfl) rfl (pi_range2 (by rfl) T.n_range (pa_cons pe_int (pa_cons (pv 2) pa_nil))) (pg_name (i := 4) sc_l_entry.nd rfl (Or.inl rfl))
        (pss_one (ps_set (i := 3) sc_l_entry.nd rfl (Or.inl rfl) (pe_callB (call_min2 rfl) (by rfl) T.n_min (by decide +kernel) (pa_cons (pv 3) (pa_cons (pe_op op_add (pe_op op_add (pv 4) (pe_ix ix_list (pv 0) (pe_op op_sub (pv 2) (pv 4)) (fun _ _ => rfl))) (pe_ix ix_list (pv 1) (pe_op op_sub (pv 4) pe_int) (fun _ _ => rfl))) pa_nil))))))
        (pss_one (ps_ret (pv 3))))), ?_⟩
    refine ⟨_, rfl, _, rfl, a, _, _, .int (costN 0 r), rfl, rfl, hA, at_map (j := 0) rfl (lineC_at (by omega)), _, _, rfl, rfl, _, rfl, _, rfl, _, _, rfl, rfl, b, _, _, .int (costN (many - 1) (r + 1)), rfl, rfl, hB, at_map (j := many - 1) (by omega) (lineC_at (by omega)), _, _, rfl, rfl, ?_⟩
    refine ⟨_, rfl, _, _, rfl, by omega, ?_⟩
    have e1 : ((many : Int) - 1).toNat = many - 1 := by omega
    have ec := ent_cost (n := n) (r := r) (many := many) h1 h2 h3 h4 h5
    refine for_range (lo := 1) (n := ((many : Int) - 1).toNat) (fun j σ H' => H' = H ∧ ∃ u, σ = [some (.ref a), some (.ref b), some (.int (many : Int)), some (.int (entN (fun i => ((i : Int) + 1) + costN (many - (i + 1)) r + costN i (r + 1)) ((many : Int) + costN 0 r + costN (many - 1) (r + 1)) j)), u]) ⟨rfl, none, rfl⟩ ?_ ?_
    · rintro j σ H' hj ⟨rfl, u, rfl⟩
      rw [e1] at hj
      refine ⟨_, rfl, _, rfl, _, rfl, _, rfl, _, rfl, _, _, rfl, rfl, a, _, _, .int (costN (many - (j + 1)) r), rfl, rfl, hA, at_map (j := many - (j + 1)) (by omega) (lineC_at (by omega)), _, _, rfl, rfl, _, rfl, _, rfl, _, _, rfl, rfl, b, _, _, .int (costN j (r + 1)), rfl, rfl, hB, at_map (j := j) (by omega) (lineC_at (by omega)), _, _, rfl, rfl, _, _, rfl, ?_⟩
      refine ⟨rfl, some (.int (1 + (j : Int))), ?_⟩
      rw [entN_succ, show ((j : Int) + 1) = 1 + (j : Int) from Int.add_comm _ _] <;> rfl
    · rintro σ H' ⟨rfl, u, rfl⟩
      rw [e1, ec]
      exact ⟨_, rfl, k⟩
theorem for_zipS {K : PySem.W.Frag} {a b : Addr} {xs ys : List V} {g : TG} {tb : TS} {D : Ends} {σ : L2.St} {H : Hp} (hl : ys.length ≤ xs.length) (Pv : Nat → L2.St → Hp → Prop) (h0 : Pv 0 σ H)
    (hq : ∀ i σ H, Pv i σ H → SqL K H a xs ∧ SqL K H b ys)
    (hs : ∀ (i : Nat) (x y : V) (T : Addr) (σ : L2.St) (H : Hp), xs[i]? = some x → ys[i]? = some y → Pv i σ H → H T = none →
      g (.ref T) σ (upd H T (.tup [x, y])) fun σ2 H2 => tb { D with nx := Pv (i + 1), ct := Pv (i + 1), bk := D.nx } σ2 H2)
    (hd : ∀ σ H, Pv ys.length σ H → D.nx σ H) :
    ∃ W : Nat → Nat → L2.St → Hp → Prop, (∃ m, W 0 m σ H) ∧ ∀ i m σ H, W i m σ H → ((Itz K a b).stop i H ∧ D.nx σ H) ∨
      ((Itz K a b).go i H ∧ ∃ N : L2.St → Hp → Prop, (∀ σ' H', N σ' H' → ∃ m', m' < m ∧ W (i + 1) m' σ' H') ∧
        ∀ v H', (Itz K a b).yld i H v H' → g v σ H' fun σ2 H2 => tb { D with nx := N, ct := N, bk := D.nx } σ2 H2) := by
  refine ⟨fun i m σ H => m + i = ys.length ∧ Pv i σ H, ⟨ys.length, rfl, h0⟩, ?_⟩
  intro i m σ H ⟨hi, p⟩
  obtain ⟨qx, qy⟩ := hq i σ H p
  cases m with
  | zero =>
    have e : i = ys.length := by omega
    rw [e] at p
    exact Or.inl ⟨⟨xs, ys, qx, qy, Or.inr (by omega)⟩, hd σ H p⟩
  | succ m =>
    obtain ⟨x, hx⟩ : ∃ x, xs[i]? = some x := ⟨xs[i]'(by omega), List.getElem?_eq_getElem _⟩
    obtain ⟨y, hy⟩ : ∃ y, ys[i]? = some y := ⟨ys[i]'(by omega), List.getElem?_eq_getElem _⟩
    refine Or.inr ⟨⟨xs, ys, x, y, qx, qy, hx, hy⟩, Pv (i + 1), fun σ' H' p' => ⟨m, Nat.lt_succ_self m, by omega, p'⟩, ?_⟩
    intro v H' z
    obtain ⟨T, x', y', rfl, hT, rfl, f1, f2⟩ := z
    exact hs i x' y' T σ H (f1 xs qx) (f2 ys qy) p hT
theorem cut1 (xs : List V) (h : 1 ≤ xs.length) : cutV xs (some 1) none = xs.drop 1 := by
  unfold cutV
  have e1 : HT.sIx xs.length 0 (some 1) = 1 := by
    unfold HT.sIx
    first | rfl | (simp; omega) | (split <;> omega)
  have e2 : HT.sIx xs.length xs.length none = xs.length := by
    unfold HT.sIx
    rfl
  rw [e1, e2, List.take_of_length_le (by rw [List.length_drop]; omega)]
def sp_l_good (K : PySem.W.Frag) : Sp := fun vs H Q _ => ∃ (p : Addr) (as : List Addr) (n r : Nat), vs = [.ref p, .int (n : Int), .int (r : Int)] ∧ n ≤ 100 ∧ 1 ≤ r ∧ r ≤ 12 ∧ H p = some (.lst (as.map V.ref)) ∧ Rows H as r (lineK n) ∧ ∀ H', Same H H' → Q (.bl true) H'
theorem ok_l_good (T : Txt K mg) : OkF P w K mg base "_law_good" 2 ["_law_found", "_law_steps", "_law_room"] (sp_l_good K) := by
  obtain ⟨f_l_whole, fd_l_whole, m_l_whole, k_l_whole, b_l_whole, G_l_whole⟩ := ok_l_whole (P := P) (w := w) (base := base) T
  obtain ⟨f_l_entry, fd_l_entry, m_l_entry, k_l_entry, b_l_entry, G_l_entry⟩ := ok_l_entry (P := P) (w := w) (base := base) T
  refine okf T.d_l_good sc_l_good (fun vs H Q E h => ?_) (fun f cdv A outer s H vs Q E hr h => ?_)
  · obtain ⟨p, as, n, r, rfl, h1, h2, h3, hP, R, k⟩ := h
    rfl
  · obtain ⟨p, as, n, r, rfl, h1, h2, h3, hP, R, k⟩ := h
    refine ⟨_, (pss_cons (ps_if (PW.pt (pw_or (pt_not (pt_val (pe_callB call_isi (by rfl) T.n_isinstance (by decide +kernel) (pa_cons (pv 0) (pa_cons (pe_bltn (v := .ty "list") (by rfl) T.n_list (by decide +kernel) rfl) pa_nil))))) (pw_or1 (pt_cmpR op_ne (pe_callB call_len_seq (by rfl) T.n_len PySem.boot_len (pa_cons (pv 0) pa_nil)) (pv 2) (nomark _)))))
        (pss_one (ps_ret pe_bl))
        pss_nil)
        (Evl.pss_cut (ps_for (passes_of rfl) rfl (pi_list (pv 0)) (pg_name (i := 3) sc_l_good.nd rfl (Or.inl rfl))
        (pss_cons (ps_if (PW.pt (pw_or (pt_not (pt_val (pe_callB call_isi (by rfl) T.n_isinstance (by decide +kernel) (pa_cons (pv 3) (pa_cons (pe_bltn (v := .ty "list") (by rfl) T.n_list (by decide +kernel) rfl) pa_nil))))) (pw_or (pt_cmpR op_ne (pe_callB call_len_seq (by rfl) T.n_len PySem.boot_len (pa_cons (pv 3) pa_nil)) (pe_op op_add (pv 1) pe_int) (nomark _)) (pw_or1 (pt_not (pt_val (pe_callB (cr_all rfl) (by rfl) T.n_all (by decide +kernel) (pa_cons (pe_lc (own := [("_law_price", 7)]) rfl sc_l_good.nd (pi_list (pv 3)) (blkOk_by (own := [("_law_price", 7)]) (N := ["_law_found", "_law_steps", "_law_room", "_law_line", "_law_many", "_law_above", "_law_own", "_law_price"]) (sc := defScope s_l_good) (by decide +kernel)) (fun _ _ _ _ _ => (pg_name (i := 7) sc_l_good.nd rfl (Or.inl rfl))) (fun _ _ _ _ _ => pts_nil) (fun _ _ _ _ _ => (pe_call G_l_whole (hr.mono (by decide)) (by rfl) m_l_whole k_l_whole b_l_whole .nil passL (pa_cons (pv 7) pa_nil)))) pa_nil))))))))
        (pss_one (ps_ret pe_bl))
        pss_nil)
        (pss_one (ps_if (pt_cmpR op_ne (pe_ix ix_list (pv 3) pe_int (fun _ _ => rfl)) pe_int (nomark _))
        (pss_one (ps_ret pe_bl))
        pss_nil))))
        (Evl.pss_cut (ps_for (passes_of rfl) rfl (pi_range1 (by rfl) T.n_range (pa_cons (pe_op op_add (pv 1) pe_int) pa_nil)) (pg_name (i := 4) sc_l_good.nd rfl (Or.inl rfl))
        (pss_one (ps_if (pt_cmpR op_ne (pe_ix ix_list (pe_ix ix_list (pv 0) pe_int (fun _ _ => rfl)) (pv 4) (fun _ _ => rfl)) (pe_op op_fdiv (pe_op op_mul (pv 4) (pe_op op_add (pv 4) pe_int)) pe_int) (nomark _))
        (pss_one (ps_ret pe_bl))
        pss_nil)))
        (pss_cons (ps_for (passes_of rfl) rfl (pi_zip (by rfl) T.n_zip (pa_cons (pv 0) (pa_cons (pe_slice sl_list (pv 0) (po_some pe_int) po_none) pa_nil))) (pg_tup rfl (pgs_cons (pg_name (i := 5) sc_l_good.nd rfl (Or.inl rfl)) (pgs_cons (pg_name (i := 6) sc_l_good.nd rfl (Or.inl rfl)) pgs_nil)))
        (pss_one (ps_for (passes_of rfl) rfl (pi_range2 (by rfl) T.n_range (pa_cons pe_int (pa_cons (pe_op op_add (pv 1) pe_int) pa_nil))) (pg_name (i := 4) sc_l_good.nd rfl (Or.inl rfl))
        (pss_one (ps_if (pt_cmpR op_ne (pe_ix ix_list (pv 6) (pv 4) (fun _ _ => rfl)) (pe_call G_l_entry (hr.mono (by decide)) (by rfl) m_l_entry k_l_entry b_l_entry .nil passL (pa_cons (pv 5) (pa_cons (pv 6) (pa_cons (pv 4) pa_nil)))) (nomark _))
        (pss_one (ps_ret pe_bl))
        pss_nil)))))
        (pss_one (ps_ret pe_bl)))))), ?_⟩
    have Rl : ∀ i a, as[i]? = some a → i < r ∧ H a = some (.lst ((lineC n (i + 1)).map V.int)) := fun i a ha => by
      have hl := (List.getElem?_eq_some_iff.mp ha).1
      rw [R.len] at hl
      have := R.at' i a ha
      rw [lineK_eq h1 i (by omega)] at this
      exact ⟨hl, this⟩
    refine ⟨_, rfl, .ref p, _, _, _, true, rfl, .ty "list", .base (.lst hP), kit_ty (by decide +kernel), true, rfl, iteF ?_⟩
    refine ⟨_, rfl, p, _, rfl, .inl (SqL.of hP), _, rfl, rfl, _, rfl, iteNS ?_ ?_⟩
    · rw [List.length_map, R.len]
    refine ⟨fun σ H' => Same H H' ∧ ∃ l, σ = [some (.ref p), some (.int (n : Int)), some (.int (r : Int)), l, none, none, none, none], ?_, ?_⟩
    · refine ⟨_, rfl, p, rfl, ⟨_, SqL.of hP⟩, ?_⟩
      refine for_list (K := K) (a := p) (xs := as.map V.ref) (fun i σ H' => Same H H' ∧ ∃ l, σ = [some (.ref p), some (.int (n : Int)), some (.int (r : Int)), l, none, none, none, none]) ⟨Same.refl _, none, rfl⟩ (fun i σ H' _ ⟨s1, _⟩ => SqL.of (s1 _ _ hP)) ?_ (fun σ H' h => h)
      rintro i y σ H' hi ⟨s1, l, rfl⟩
      obtain ⟨a, ha, rfl⟩ := get_map hi
      obtain ⟨hir, hA⟩ := Rl i a ha
      have hA1 := s1 _ _ hA
      refine ⟨_, rfl, .ref a, _, _, _, true, rfl, .ty "list", .base (.lst hA1), kit_ty (by decide +kernel), true, rfl, iteF ?_⟩
      refine ⟨_, rfl, a, _, rfl, .inl (SqL.of hA1), _, rfl, _, _, rfl, rfl, rfl, _, rfl, iteNS ?_ ?_⟩
      · rw [List.length_map, lineC_len] <;> rfl
      refine ⟨_, rfl, a, rfl, ⟨_, SqL.of hA1⟩, fun D hD => ?_⟩
      refine lc_list (K := K) (a := a) (xs := (lineC n (i + 1)).map V.int) (fun j H2 => Same H' H2 ∧ H2 D = some (.lst ((List.replicate j true).map V.bl))) ⟨Same.new hD, upd_same⟩ (fun j H2 _ ⟨s2, _⟩ => SqL.of (s2 _ _ hA1)) ?_ ?_
      · rintro j y H2 hj ⟨s2, hQ⟩
        obtain ⟨z, hz, rfl⟩ := get_map hj
        have hzl := (List.getElem?_eq_some_iff.mp hz).1
        rw [lineC_len] at hzl
        refine ⟨rfl, ?_⟩
        refine ⟨_, rfl, .int z, some z, rfl, .int z, _, hQ, sz5' (by rw [List.length_map, List.length_replicate]; omega), Same.mut s2 hD, ?_⟩
        rw [upd_same, List.replicate_succ', List.map_append] <;> rfl
      · rintro H2 ⟨s2, hQ⟩
        refine ⟨D, _, rfl, SqL.of hQ, _, rfl, ?_⟩
        have e : (List.replicate ((lineC n (i + 1)).map V.int).length true).all id = true := by
          refine List.all_eq_true.mpr fun b hb => ?_
          rw [(List.mem_replicate.mp hb).2] <;> rfl
        rw [e]
        refine iteF ?_
        have s12 := s1.trans s2
        refine ⟨_, rfl, a, _, _, .int (costN 0 (i + 1)), rfl, rfl, SqL.of (s12 _ _ hA), at_map (j := 0) rfl (lineC_at (by omega)), rfl, _, rfl, iteNS ?_ ?_⟩
        · have o := oft_le (s := 0) (r := i + 1) (by omega) (by omega) (by omega)
          unfold costN
          rw [if_pos (by omega)]
        · exact ⟨s12, _, rfl⟩
    rintro σ H' ⟨s1, l, rfl⟩
    refine ⟨fun σ H' => Same H H' ∧ ∃ l m, σ = [some (.ref p), some (.int (n : Int)), some (.int (r : Int)), l, m, none, none, none], ?_, ?_⟩
    · refine ⟨_, rfl, _, _, rfl, rfl, _, rfl, by omega, by omega, ?_⟩
      have e0 : ((n : Int) + 1).toNat = n + 1 := by omega
      refine for_range (lo := 0) (n := ((n : Int) + 1).toNat) (fun i σ H2 => H2 = H' ∧ ∃ l m, σ = [some (.ref p), some (.int (n : Int)), some (.int (r : Int)), l, m, none, none, none]) ⟨rfl, l, none, rfl⟩ ?_ ?_
      · rintro i σ H2 hi ⟨rfl, l, m, rfl⟩
        rw [e0] at hi
        obtain ⟨a0, ha0⟩ : ∃ a, as[0]? = some a := ⟨as[0]'(by rw [R.len]; omega), List.getElem?_eq_getElem _⟩
        obtain ⟨_, hA⟩ := Rl 0 a0 ha0
        have ei : (0 : Int) + (i : Int) = (i : Int) := Int.zero_add _
        refine ⟨_, rfl, p, _, _, .ref a0, rfl, rfl, SqL.of (s1 _ _ hP), at_of (j := 0) rfl (by rw [List.getElem?_map, ha0] <;> rfl), _, rfl, a0, _, _, .int (costN i 1), rfl, rfl, SqL.of (s1 _ _ hA), at_map (j := i) ei (lineC_at (by omega)), ?_⟩
        refine ⟨_, rfl, _, rfl, _, _, rfl, rfl, _, _, rfl, rfl, .inl ⟨by omega, by omega⟩, _, _, rfl, rfl, ⟨by decide, by decide⟩, rfl, _, rfl, iteNS ?_ ?_⟩
        · rw [cost_one (by omega)]
          rw [ei]
        · exact ⟨rfl, _, _, rfl⟩
      · rintro σ H2 ⟨rfl, l, m, rfl⟩
        exact ⟨s1, l, m, rfl⟩
    rintro σ H2 ⟨s2, l, m, rfl⟩
    refine ⟨_, rfl, _, rfl, _, rfl, p, _, rfl, SqL.of (s2 _ _ hP), fun q hq => ?_⟩
    have npq : p ≠ q := ne_of_none (s2 _ _ hP) hq
    rw [cut1 _ (by rw [List.length_map, R.len]; omega), ← List.map_drop]
    refine ⟨p, q, as.map V.ref, (as.drop 1).map V.ref, rfl, SqL.of (by rw [upd_ne npq]; exact s2 _ _ hP), SqL.of upd_same, ?_⟩
    have s3 := s2.trans (Same.new (o := .lst ((as.drop 1).map V.ref)) hq)
    refine for_zipS (K := K) (a := p) (b := q) (xs := as.map V.ref) (ys := (as.drop 1).map V.ref) (by rw [List.length_map, List.length_map, List.length_drop]; omega)
      (fun i σ H3 => Same (upd H2 q (.lst ((as.drop 1).map V.ref))) H3 ∧ ∃ l m u v, σ = [some (.ref p), some (.int (n : Int)), some (.int (r : Int)), l, m, u, v, none]) ⟨Same.refl _, l, m, none, none, rfl⟩
      (fun i σ H3 ⟨s4, _⟩ => ⟨SqL.of (s4 _ _ (by rw [upd_ne npq]; exact s2 _ _ hP)), SqL.of (s4 _ _ upd_same)⟩) ?_ ?_
    · rintro i x y T2 σ H3 hx hy ⟨s4, l, m, u, v, rfl⟩ hT
      obtain ⟨a, ha, rfl⟩ := get_map hx
      obtain ⟨b, hb, rfl⟩ := get_map hy
      rw [List.getElem?_drop] at hb
      obtain ⟨_, hA⟩ := Rl i a ha
      obtain ⟨hir, hB⟩ := Rl (1 + i) b hb
      have s5 := (s3.trans s4).trans (Same.new (o := .tup [V.ref a, V.ref b]) hT)
      refine ⟨T2, _, rfl, SqT.of upd_same, rfl, _, _, rfl, _, _, rfl, rfl, ?_⟩
      refine ⟨_, rfl, _, _, rfl, rfl, _, _, rfl, by omega, ?_⟩
      have e1 : ((n : Int) + 1 - 1).toNat = n := by omega
      refine for_range (lo := 1) (n := ((n : Int) + 1 - 1).toNat) (fun j σ H4 => H4 = upd H3 T2 (.tup [V.ref a, V.ref b]) ∧ ∃ l m, σ = [some (.ref p), some (.int (n : Int)), some (.int (r : Int)), l, m, some (.ref a), some (.ref b), none]) ⟨rfl, l, m, rfl⟩ ?_ ?_
      · rintro j σ H4 hj ⟨rfl, l, m, rfl⟩
        rw [e1] at hj
        rw [show 1 + i + 1 = i + 1 + 1 by omega] at hB
        refine ⟨_, rfl, _, rfl, b, _, _, .int (costN (j + 1) (i + 1 + 1)), rfl, rfl, SqL.of (s5 _ _ hB), at_map (j := j + 1) (by omega) (lineC_at (by omega)), ?_⟩
        refine ⟨_, rfl, _, rfl, _, rfl, a, b, n, i + 1, j + 1, ?_, SqL.of (s5 _ _ hA), SqL.of (s5 _ _ hB), by omega, by omega, h1, by omega, by omega, rfl, _, rfl, iteNS rfl ?_⟩
        · rw [Int.add_comm (1 : Int) (j : Int)] <;> rfl
        · exact ⟨rfl, _, _, rfl⟩
      · rintro σ H4 ⟨rfl, l, m, rfl⟩
        exact ⟨s4.trans (Same.new hT), _, _, _, _, rfl⟩
    · rintro σ H3 ⟨s4, l, m, u, v, rfl⟩
      exact k H3 (s3.trans s4)
def sp_l_told (K : PySem.W.Frag) : Sp := fun vs H Q _ => ∃ (x y : V) (o1 o2 : Option Int) (w : Int), vs = [x, y, .int w] ∧ Thg K H x o1 ∧ Thg K H y o2 ∧ goodC o1 o2 = false ∧ RetT H [.str "refused", .str "count"] Q
theorem ok_l_told (T : Txt K mg) : OkF P w K mg base "_law_told" 6 ["_law_steps", "_law_room", "_law_way"] (sp_l_told K) := by
  obtain ⟨f_table, fd_table, m_table, k_table, b_table, G_table⟩ := ok_table (P := P) (w := w) (base := base) T
  obtain ⟨f_least, fd_least, m_least, k_least, b_least, G_least⟩ := ok_least (P := P) (w := w) (base := base) T
  obtain ⟨f_l_class, fd_l_class, m_l_class, k_l_class, b_l_class, G_l_class⟩ := ok_l_class (P := P) (w := w) (base := base) T
  refine okf T.d_l_told sc_l_told (fun vs H Q E h => ?_) (fun f cdv A outer s H vs Q E hr h => ?_)
  · obtain ⟨x, y, o1, o2, w', rfl, t1, t2, g, k⟩ := h
    rfl
  · obtain ⟨x, y, o1, o2, w', rfl, t1, t2, g, k⟩ := h
    refine ⟨_, (pss_one (ps_try_as (i := 3) rfl rfl sc_l_told.nd rfl rfl ⟨rfl, by decide, .inl T.x_MarkError.g⟩ takes0 (fun W pn xe tk po => (pss_cons (ps_if (pt_cmpR op_eq (pv 2) pe_int (nomark _))
        (pss_one (ps_ret (pe_callS G_table (hr.mono (by decide)) (by rfl) m_table k_table b_table (fun σ => passAt tk σ) (pa_cons (pv 0) (pa_cons (pv 1) pa_nil)))))
        pss_nil)
        (pss_one (ps_ret (pe_callS G_least (hr.mono (by decide)) (by rfl) m_least k_least b_least (fun σ => passAt tk σ) (pa_cons (pv 0) (pa_cons (pv 1) pa_nil))))))) (fun a oe cls d pn hz hf => (pss_one (ps_ret (pe_hotE G_l_class (hr.mono (by decide)) hz hf (by rfl) m_l_class k_l_class b_l_class (pa_cons (pv 3) pa_nil))))))), ?_⟩
    refine ⟨_, rfl, rfl, _, rfl, ?_⟩
    refine ite2 (fun _ => ?_) (fun _ => ?_)
    all_goals
      refine ⟨_, rfl, _, rfl, .inr ⟨x, y, o1, o2, rfl, t1, t2, g, ?_⟩⟩
      refine ⟨true, T.e_BadCount, fun _ a ha => ?_, fun q => Bool.noConfusion q⟩
      exact ⟨_, rfl, rfl, T.aBadCount, 0, rfl, rfl, T.q_BadCount, k⟩
def rowsD (s r : Nat) : List PyData := (List.range r).map fun j => PyData.list ((lineK s j).map PyData.int)
theorem rowsD_sh (s r : Nat) : Sh 2 (.list (rowsD s r)) := .lst fun d hd => by
  obtain ⟨j, _, rfl⟩ := List.mem_map.mp hd
  exact sh_ints (n := 0) _
theorem rowsD_dp {K : PySem.W.Frag} {H : Hp} {as : List Addr} {s r : Nat} (hl : as.length = r) (h : ∀ i a, as[i]? = some a → H a = some (.lst ((lineK s i).map V.int))) : DpAll K H (as.map V.ref) (rowsD s r) := by
  refine dp_all (by unfold rowsD; rw [List.length_map, List.length_map, List.length_range, hl]) fun i v d hv hd => ?_
  obtain ⟨a, ha, rfl⟩ := get_map hv
  obtain ⟨j, hj, rfl⟩ := get_map hd
  have hi := (List.getElem?_eq_some_iff.mp hj).1
  rw [List.length_range] at hi
  rw [List.getElem?_range hi] at hj
  have e : i = j := Option.some.inj hj
  rw [← e]
  exact .lst (SqL.of (h i a ha)) (dp_ints _)
def refC : PyData := .tuple [.str "refused", .str "count"]
theorem refC_sh : Sh 1 refC := .tup fun d hd => by
  rcases List.mem_cons.mp hd with e | hd
  · rw [e]; exact .str (by decide +kernel)
  · rw [List.mem_singleton.mp hd]; exact .str (by decide +kernel)
theorem refC_dp {K : PySem.W.Frag} {H : Hp} {t : Addr} (h : H t = some (.tup [.str "refused", .str "count"])) : Dp K H (.ref t) refC := .tup (SqT.of h) (.cons (.str _) (.cons (.str _) .nil))
/-- a thing that is no whole number within the bounds -/
def Odd (K : PySem.W.Frag) (H : Hp) (lo hi : Int) (v : V) : Prop := ∃ o, Thg K H v o ∧ among o lo hi = false
theorem odd1 {K : PySem.W.Frag} {H : Hp} {l : Addr} (h : H l = some (.lst [.int 3])) : ∀ v ∈ [V.int (-1), .int 101, .bl true, .str "3", .non, .ref l], Odd K H 0 100 v := by
  intro v hv
  simp only [List.mem_cons, List.not_mem_nil, or_false] at hv
  rcases hv with rfl | rfl | rfl | rfl | rfl | rfl
  · exact ⟨_, .int _, rfl⟩
  · exact ⟨_, .int _, rfl⟩
  · exact ⟨_, .bl _, rfl⟩
  · exact ⟨_, .str _, rfl⟩
  · exact ⟨_, .non, rfl⟩
  · exact ⟨_, .lst h, rfl⟩
theorem odd2 {K : PySem.W.Frag} {H : Hp} {l : Addr} (h : H l = some (.lst [.int 3])) : ∀ v ∈ [V.int 0, .int 13, .bl false, .str "3", .non, .ref l], Odd K H 1 12 v := by
  intro v hv
  simp only [List.mem_cons, List.not_mem_nil, or_false] at hv
  rcases hv with rfl | rfl | rfl | rfl | rfl | rfl
  · exact ⟨_, .int _, rfl⟩
  · exact ⟨_, .int _, rfl⟩
  · exact ⟨_, .bl _, rfl⟩
  · exact ⟨_, .str _, rfl⟩
  · exact ⟨_, .non, rfl⟩
  · exact ⟨_, .lst h, rfl⟩
theorem Odd.same {K : PySem.W.Frag} {H H' : Hp} {lo hi : Int} {v : V} (e : Same H H') (h : Odd K H lo hi v) : Odd K H' lo hi v := by
  obtain ⟨o, t, q⟩ := h
  exact ⟨o, t.same e, q⟩
def M04 (a : Addr) (c : Int) (H : Hp) : L2.St → Hp → Prop := fun σ H' => Same H H' ∧ ∃ s r : Nat, s ≤ 100 ∧ 1 ≤ r ∧ r ≤ 12 ∧ σ = [some (.ref a), some (.int c), some (.int (s : Int)), some (.int (r : Int)), none, none, none, none, none, none]
theorem ok_law_at (T : Txt K mg) {f : Addr} {fd : FuncData} (F : Fun K "law" "law" s_law f fd) : FnOk P w K mg base (L2.CX P w) 7 f fd ["_law_script"] (sp_law K) := by
  obtain ⟨f_l_cell_at, fd_l_cell_at, m_l_cell_at, k_l_cell_at, b_l_cell_at, G_l_cell_at⟩ := ok_l_cell_at (P := P) (w := w) (base := base) T
  obtain ⟨f_l_told, fd_l_told, m_l_told, k_l_told, b_l_told, G_l_told⟩ := ok_l_told (P := P) (w := w) (base := base) T
  obtain ⟨f_table, fd_table, m_table, k_table, b_table, G_table⟩ := ok_table (P := P) (w := w) (base := base) T
  obtain ⟨f_l_good, fd_l_good, m_l_good, k_l_good, b_l_good, G_l_good⟩ := ok_l_good (P := P) (w := w) (base := base) T
  obtain ⟨f_least, fd_least, m_least, k_least, b_least, G_least⟩ := ok_least (P := P) (w := w) (base := base) T
  obtain ⟨f_l_whole, fd_l_whole, m_l_whole, k_l_whole, b_l_whole, G_l_whole⟩ := ok_l_whole (P := P) (w := w) (base := base) T
  refine F.okX sc_law (fun vs H Q E h => ?_) (fun cdv A outer s H vs Q E hr h => ?_)
  · obtain ⟨a, ns, rfl, hS, hl, k⟩ := h
    rfl
  · obtain ⟨a, ns, rfl, hS, hl, k⟩ := h
    refine ⟨_, (Evl.pss_cut (ps_set (i := 1) sc_law.nd rfl (Or.inl rfl) (pe_call G_l_cell_at (hr.mono (by decide)) (by rfl) m_l_cell_at k_l_cell_at b_l_cell_at .nil passL (pa_cons (pv 0) (pa_cons pe_int pa_nil))))
        (Evl.pss_cut (ps_set (i := 2) sc_law.nd rfl (Or.inr rfl) (pe_op op_mod (pe_call G_l_cell_at (hr.mono (by decide)) (by rfl) m_l_cell_at k_l_cell_at b_l_cell_at .nil passL (pa_cons (pv 0) (pa_cons pe_int pa_nil))) pe_int))
        (Evl.pss_cut (ps_set (i := 3) sc_law.nd rfl (Or.inr rfl) (pe_op op_add pe_int (pe_op op_mod (pe_call G_l_cell_at (hr.mono (by decide)) (by rfl) m_l_cell_at k_l_cell_at b_l_cell_at .nil passL (pa_cons (pv 0) (pa_cons pe_int pa_nil))) pe_int)))
        (Evl.pss_cut (ps_if (pt_cmpR op_eq (pe_op op_mod (pv 1) pe_int) pe_int (nomark _))
        (Evl.pss_cut (ps_set (i := 2) sc_law.nd rfl (Or.inr rfl) (pe_op op_mod (pe_call G_l_cell_at (hr.mono (by decide)) (by rfl) m_l_cell_at k_l_cell_at b_l_cell_at .nil passL (pa_cons (pv 0) (pa_cons pe_int pa_nil))) (pe_ix ix_list (pe_lst (pa_cons pe_int (pa_cons pe_int (pa_cons pe_int (pa_cons pe_int pa_nil))))) (pe_op op_mod (pe_op op_fdiv (pv 1) pe_int) pe_int) (fun _ _ => rfl))))
        (pss_one (ps_set (i := 3) sc_law.nd rfl (Or.inr rfl) (pe_op op_add pe_int (pe_op op_mod (pe_call G_l_cell_at (hr.mono (by decide)) (by rfl) m_l_cell_at k_l_cell_at b_l_cell_at .nil passL (pa_cons (pv 0) (pa_cons pe_int pa_nil))) pe_int)))))
        pss_nil)
        (Evl.pss_cut (ps_if (pt_cmpR op_eq (pe_op op_mod (pv 1) pe_int) pe_int (nomark _))
        (pss_cons (ps_set (i := 2) sc_law.nd rfl (Or.inr rfl) (pe_op op_mod (pe_call G_l_cell_at (hr.mono (by decide)) (by rfl) m_l_cell_at k_l_cell_at b_l_cell_at .nil passL (pa_cons (pv 0) (pa_cons pe_int pa_nil))) pe_int))
        (pss_one (ps_set (i := 3) sc_law.nd rfl (Or.inr rfl) pe_int)))
        pss_nil)
        (Evl.pss_cut (ps_if (pt_cmpR op_eq (pe_op op_mod (pv 1) pe_int) pe_int (nomark _))
        (pss_cons (ps_set (i := 2) sc_law.nd rfl (Or.inr rfl) (pe_op op_mod (pe_call G_l_cell_at (hr.mono (by decide)) (by rfl) m_l_cell_at k_l_cell_at b_l_cell_at .nil passL (pa_cons (pv 0) (pa_cons pe_int pa_nil))) pe_int))
        (pss_one (ps_set (i := 3) sc_law.nd rfl (Or.inr rfl) (pe_op op_add pe_int (pe_op op_mod (pe_call G_l_cell_at (hr.mono (by decide)) (by rfl) m_l_cell_at k_l_cell_at b_l_cell_at .nil passL (pa_cons (pv 0) (pa_cons pe_int pa_nil))) pe_int)))))
        pss_nil)
        (pss_cons (ps_if (pt_cmpR op_eq (pe_op op_mod (pe_op op_fdiv (pv 1) pe_int) pe_int) pe_int (nomark _))
        (Evl.pss_cut (ps_set (i := 4) sc_law.nd rfl (Or.inl rfl) (pe_op op_mod (pe_op op_fdiv (pv 1) pe_int) pe_int))
        (Evl.pss_cut (ps_if (pt_cmpR op_lt (pv 4) pe_int (nomark _))
        (pss_one (ps_set (i := 2) sc_law.nd rfl (Or.inr rfl) (pe_ix ix_list (pe_lst (pa_cons (pe_un un_neg pe_int) (pa_cons pe_int (pa_cons pe_bl (pa_cons pe_str (pa_cons pe_non (pa_cons (pe_lst (pa_cons pe_int pa_nil)) pa_nil))))))) (pe_op op_mod (pe_op op_fdiv (pv 1) pe_int) pe_int) (fun _ _ => rfl))))
        pss_nil)
        (Evl.pss_cut (ps_if (pt_cmpR op_gt (pv 4) pe_int (nomark _))
        (pss_one (ps_set (i := 3) sc_law.nd rfl (Or.inr rfl) (pe_ix ix_list (pe_lst (pa_cons pe_int (pa_cons pe_int (pa_cons pe_bl (pa_cons pe_str (pa_cons pe_non (pa_cons (pe_lst (pa_cons pe_int pa_nil)) pa_nil))))))) (pe_op op_mod (pe_op op_fdiv (pv 1) pe_int) pe_int) (fun _ _ => rfl))))
        pss_nil)
        (pss_one (ps_ret (pe_cmpR (op_eqD hr.units) (pe_lc (own := [("_law_way", 9)]) rfl sc_law.nd (pi_range1 (by rfl) T.n_range (pa_cons pe_int pa_nil)) (blkOk_by (own := [("_law_way", 9)]) (N := ["_law_script", "_law_cell", "_law_steps", "_law_room", "_law_spoilt", "_law_found", "_law_last", "_law_kept", "_law_line", "_law_way"]) (sc := defScope s_law) (by decide +kernel)) (fun _ _ _ _ _ => (pg_name (i := 9) sc_law.nd rfl (Or.inl rfl))) (fun _ _ _ _ _ => pts_nil) (fun _ _ _ _ _ => (pe_call G_l_told (hr.mono (by decide)) (by rfl) m_l_told k_l_told b_l_told .nil passL (pa_cons (pv 2) (pa_cons (pv 3) (pa_cons (pv 9) pa_nil)))))) (pe_op op_rep (pe_lst (pa_cons (pe_tup (pa_cons pe_str (pa_cons pe_str pa_nil))) pa_nil)) pe_int) (nomark _)))))))
        pss_nil)
        (pss_cons (ps_set (i := 5) sc_law.nd rfl (Or.inl rfl) (pe_call G_table (hr.mono (by decide)) (by rfl) m_table k_table b_table .nil passL (pa_cons (pv 2) (pa_cons (pv 3) pa_nil))))
        (pss_cons (ps_if (pt_not (pt_val (pe_call G_l_good (hr.mono (by decide)) (by rfl) m_l_good k_l_good b_l_good .nil passL (pa_cons (pv 5) (pa_cons (pv 2) (pa_cons (pv 3) pa_nil))))))
        (pss_one (ps_ret pe_bl))
        pss_nil)
        (pss_cons (ps_set (i := 6) sc_law.nd rfl (Or.inl rfl) (pe_call G_least (hr.mono (by decide)) (by rfl) m_least k_least b_least .nil passL (pa_cons (pv 2) (pa_cons (pv 3) pa_nil))))
        (pss_cons (ps_if (PW.pt (pw_or (pt_not (pt_val (pe_call G_l_whole (hr.mono (by decide)) (by rfl) m_l_whole k_l_whole b_l_whole .nil passL (pa_cons (pv 6) pa_nil)))) (pw_or1 (pt_cmpR op_ne (pv 6) (pe_ix ix_list (pe_ix ix_list (pv 5) (pe_op op_sub (pv 3) pe_int) (fun _ _ => rfl)) (pv 2) (fun _ _ => rfl)) (nomark _)))))
        (pss_one (ps_ret pe_bl))
        pss_nil)
        (Evl.pss_cut (ps_setLc (i := 7) (own := [("_law_line", 8)]) rfl sc_law.nd rfl rfl (sw_true rfl rfl rfl (by decide +kernel)) (pi_list (pv 5)) (blkOk_by (own := [("_law_line", 8)]) (N := ["_law_script", "_law_cell", "_law_steps", "_law_room", "_law_spoilt", "_law_found", "_law_last", "_law_kept", "_law_line", "_law_way"]) (sc := defScope s_law) (by decide +kernel)) (fun _ _ _ _ _ => (pg_name (i := 8) sc_law.nd rfl (Or.inl rfl))) (fun _ _ _ _ _ => pts_nil) (fun _ _ _ _ _ => (pe_callTy (T := "list") (r := rListOf K) call_list_of (by rfl) T.n_list (by decide +kernel) (pa_cons (pv 8) pa_nil))))
        (pss_cons (ps_expr (pe_bm PySem.F.plainAttrs_list PySem.F.slot_list_append PySem.F.type_list_append mt_append (pe_ix ix_list (pv 5) pe_int (fun _ _ => rfl)) (pa_cons pe_int pa_nil)))
        (pss_cons (ps_expr (pe_bm PySem.F.plainAttrs_list PySem.F.slot_list_append PySem.F.type_list_append mt_append (pe_ix ix_list (pv 5) (pe_un un_neg pe_int) (fun _ _ => rfl)) (pa_cons pe_int pa_nil)))
        (pss_cons (ps_expr (pe_bm PySem.F.plainAttrs_list PySem.F.slot_list_append PySem.F.type_list_append mt_append (pv 5) (pa_cons (pe_lst pa_nil) pa_nil)))
        (pss_one (ps_ret (pe_and (pe_cmpR (op_eqD hr.units) (pe_call G_table (hr.mono (by decide)) (by rfl) m_table k_table b_table .nil passL (pa_cons (pv 2) (pa_cons (pv 3) pa_nil))) (pv 7) (nomark _)) (pe_one (pe_cmpR op_eq (pe_call G_least (hr.mono (by decide)) (by rfl) m_least k_least b_least .nil passL (pa_cons (pv 2) (pa_cons (pv 3) pa_nil))) (pv 6) (nomark _))))))))))))))))))))), ?_⟩
    obtain ⟨c, hc⟩ : ∃ c, cellAt ns 2 = c := ⟨_, rfl⟩
    refine ⟨fun σ H' => H' = H ∧ σ = [some (.ref a), some (.int c), none, none, none, none, none, none, none, none], ⟨_, rfl, a, ns, 2, rfl, hS, rfl, ?_⟩, ?_⟩
    · rw [← hc] <;> rfl
    rintro σ H' ⟨rfl, rfl⟩
    refine ⟨fun σ H1 => H1 = H' ∧ ∃ s0 : Nat, s0 ≤ 100 ∧ σ = [some (.ref a), some (.int c), some (.int (s0 : Int)), none, none, none, none, none, none, none], ?_, ?_⟩
    · obtain ⟨s0, hs0, es0⟩ := rem_nat (z := cellAt ns 0) (m := 25) (by decide)
      refine ⟨_, rfl, a, ns, 0, rfl, hS, _, _, rfl, rfl, by show (0 : Int) < 25; decide, rfl, s0, by omega, ?_⟩
      rw [← es0] <;> rfl
    rintro σ H1 ⟨rfl, s0, hs0, rfl⟩
    refine ⟨M04 a c H1, ?_, ?_⟩
    · obtain ⟨r0, hr0, er0⟩ := rem_nat (z := cellAt ns 1) (m := 4) (by decide)
      refine ⟨_, rfl, a, ns, 1, rfl, hS, _, _, rfl, rfl, by show (0 : Int) < 4; decide, _, _, rfl, rfl, Same.refl _, s0, 1 + r0, hs0, by omega, by omega, ?_⟩
      rw [Int.natCast_add, ← er0] <;> rfl
    rintro σ H2 ⟨sm2, s0, r, hs0, h1, h2, rfl⟩
    refine ⟨M04 a c H1, ?_, ?_⟩
    · refine ⟨_, rfl, _, _, rfl, rfl, by show (0 : Int) < 16; decide, rfl, _, rfl, ?_⟩
      refine ite2 (fun _ => ?_) (fun _ => ?_)
      · obtain ⟨j, hj, ej⟩ := rem_nat (z := c / 256) (m := 4) (by decide)
        refine ⟨M04 a c H1, ?_, ?_⟩
        · refine ⟨_, rfl, a, ns, 0, rfl, sm2.seq hS, by show 4 ≤ sizeLine; decide, fun l hl => ?_⟩
          obtain ⟨v, hv, m, rfl, hm0, hm1⟩ := pick (P := fun v => ∃ m : Int, v = V.int m ∧ 0 < m ∧ m ≤ 101) (xs := [.int 49, .int 49, .int 49, .int 101]) (fun v hv => by
            simp only [List.mem_cons, List.not_mem_nil, or_false] at hv
            rcases hv with rfl | rfl | rfl | rfl
            all_goals exact ⟨_, rfl, by decide, by decide⟩) (j := j) (by show j < 4; omega)
          obtain ⟨s1, hs1, es1⟩ := rem_nat (z := cellAt ns 0) hm0
          refine ⟨_, rfl, _, _, rfl, rfl, ⟨by decide, by decide⟩, _, _, rfl, rfl, by show (0 : Int) < 4; decide, l, _, _, .int m, rfl, rfl, SqL.of upd_same, at_of ej hv, _, _, rfl, rfl, hm0, sm2.trans (Same.new hl), s1, r, by omega, h1, h2, ?_⟩
          rw [← es1] <;> rfl
        rintro σ H3 ⟨sm3, s1, r, hs1, h1, h2, rfl⟩
        obtain ⟨r0, hr0, er0⟩ := rem_nat (z := cellAt ns 1) (m := 2) (by decide)
        refine ⟨_, rfl, a, ns, 1, rfl, sm3.seq hS, _, _, rfl, rfl, by show (0 : Int) < 2; decide, _, _, rfl, rfl, sm3, s1, 1 + r0, hs1, by omega, by omega, ?_⟩
        rw [Int.natCast_add, ← er0] <;> rfl
      · exact ⟨sm2, s0, r, hs0, h1, h2, rfl⟩
    rintro σ H2 ⟨sm2, s0, r, hs0, h1, h2, rfl⟩
    refine ⟨M04 a c H1, ?_, ?_⟩
    · refine ⟨_, rfl, _, _, rfl, rfl, by show (0 : Int) < 16; decide, rfl, _, rfl, ?_⟩
      refine ite2 (fun _ => ?_) (fun _ => ?_)
      · obtain ⟨s1, hs1, es1⟩ := rem_nat (z := cellAt ns 0) (m := 9) (by decide)
        refine ⟨_, rfl, a, ns, 0, rfl, sm2.seq hS, _, _, rfl, rfl, by show (0 : Int) < 9; decide, sm2, s1, 12, by omega, by omega, by omega, ?_⟩
        rw [← es1] <;> rfl
      · exact ⟨sm2, s0, r, hs0, h1, h2, rfl⟩
    rintro σ H2 ⟨sm2, s0, r, hs0, h1, h2, rfl⟩
    refine ⟨M04 a c H1, ?_, ?_⟩
    · refine ⟨_, rfl, _, _, rfl, rfl, by show (0 : Int) < 16; decide, rfl, _, rfl, ?_⟩
      refine ite2 (fun _ => ?_) (fun _ => ?_)
      · obtain ⟨s1, hs1, es1⟩ := rem_nat (z := cellAt ns 0) (m := 17) (by decide)
        obtain ⟨r0, hr0, er0⟩ := rem_nat (z := cellAt ns 1) (m := 8) (by decide)
        refine ⟨_, rfl, a, ns, 0, rfl, sm2.seq hS, _, _, rfl, rfl, by show (0 : Int) < 17; decide, _, rfl, a, ns, 1, rfl, sm2.seq hS, _, _, rfl, rfl, by show (0 : Int) < 8; decide, _, _, rfl, rfl, sm2, s1, 1 + r0, by omega, by omega, by omega, ?_⟩
        rw [Int.natCast_add, ← er0, ← es1] <;> rfl
      · exact ⟨sm2, s0, r, hs0, h1, h2, rfl⟩
    rintro σ H2 ⟨sm2, s0, r, hs0, h1, h2, rfl⟩
    refine ⟨_, rfl, _, _, rfl, rfl, ⟨by decide, by decide⟩, _, _, rfl, rfl, by show (0 : Int) < 4; decide, rfl, _, rfl, ?_⟩
    refine ite2 (fun _ => ?_) (fun _ => ?_)
    · -- spoilt counts
      obtain ⟨w', hw, ew⟩ := rem_nat (z := c / 64) (m := 3) (by decide)
      refine ⟨fun σ H3 => H3 = H2 ∧ σ = [some (.ref a), some (.int c), some (.int (s0 : Int)), some (.int (r : Int)), some (.int (w' : Int)), none, none, none, none, none], ⟨_, rfl, _, _, rfl, rfl, ⟨by decide, by decide⟩, _, _, rfl, rfl, by show (0 : Int) < 3; decide, rfl, ?_⟩, ?_⟩
      · rw [← ew] <;> rfl
      rintro σ H3 ⟨rfl, rfl⟩
      refine ⟨fun σ H4 => ∃ x, (∃ o1, Thg K H4 x o1 ∧ (w' < 2 → among o1 0 100 = false)) ∧ σ = [some (.ref a), some (.int c), some x, some (.int (r : Int)), some (.int (w' : Int)), none, none, none, none, none], ?_, ?_⟩
      · refine ⟨_, rfl, _, _, rfl, rfl, _, rfl, ?_⟩
        refine ite2 (fun cw => ?_) (fun cw => ?_)
        · obtain ⟨j, hj, ej⟩ := rem_nat (z := c / 192) (m := 6) (by decide)
          refine ⟨_, rfl, by show 1 ≤ sizeLine; decide, fun l3 hl3 => ?_⟩
          refine ⟨by show 6 ≤ sizeLine; decide, fun l hl => ?_⟩
          have n3 : l3 ≠ l := ne_of_none upd_same hl
          obtain ⟨v, hv, o, t, q⟩ := pick (odd1 (K := K) (H := upd (upd H3 l3 (.lst [.int 3])) l (.lst [.int (-1), .int 101, .bl true, .str "3", .non, .ref l3])) (l := l3) (by rw [upd_ne n3]; exact upd_same)) (j := j) (by show j < 6; omega)
          refine ⟨_, rfl, _, _, rfl, rfl, ⟨by decide, by decide⟩, _, _, rfl, rfl, by show (0 : Int) < 6; decide, l, _, _, v, rfl, rfl, SqL.of upd_same, at_of ej hv, v, ⟨o, t, fun _ => q⟩, rfl⟩
        · exact ⟨.int (s0 : Int), ⟨_, .int _, fun z => absurd (decide_eq_true (show ((w' : Int)) < 2 by omega)) cw⟩, rfl⟩
      rintro σ H4 ⟨x, ⟨o1, t1, q1⟩, rfl⟩
      refine ⟨fun σ H5 => ∃ y, (∃ o1 o2, Thg K H5 x o1 ∧ Thg K H5 y o2 ∧ goodC o1 o2 = false) ∧ σ = [some (.ref a), some (.int c), some x, some y, some (.int (w' : Int)), none, none, none, none, none], ?_, ?_⟩
      · refine ⟨_, rfl, _, _, rfl, rfl, _, rfl, ?_⟩
        refine ite2 (fun cw => ?_) (fun cw => ?_)
        · obtain ⟨j, hj, ej⟩ := rem_nat (z := c / 1152) (m := 6) (by decide)
          refine ⟨by show 1 ≤ sizeLine; decide, fun l3 hl3 => ?_⟩
          refine ⟨by show 6 ≤ sizeLine; decide, fun l hl => ?_⟩
          have n3 : l3 ≠ l := ne_of_none upd_same hl
          obtain ⟨v, hv, o, t, q⟩ := pick (odd2 (K := K) (H := upd (upd H4 l3 (.lst [.int 3])) l (.lst [.int 0, .int 13, .bl false, .str "3", .non, .ref l3])) (l := l3) (by rw [upd_ne n3]; exact upd_same)) (j := j) (by show j < 6; omega)
          refine ⟨_, rfl, _, _, rfl, rfl, ⟨by decide, by decide⟩, _, _, rfl, rfl, by show (0 : Int) < 6; decide, l, _, _, v, rfl, rfl, SqL.of upd_same, at_of ej hv, v, ⟨o1, o, t1.same ((Same.new hl3).trans (Same.new hl)), t, ?_⟩, rfl⟩
          unfold goodC
          rw [q, Bool.and_false]
        · refine ⟨.int (r : Int), ⟨o1, _, t1, .int _, ?_⟩, rfl⟩
          have w2 : w' < 2 := by
            by_cases z : w' < 2
            · exact z
            · exact absurd (decide_eq_true (show (0 : Int) < (w' : Int) by omega)) cw
          unfold goodC
          rw [q1 w2, Bool.false_and]
      rintro σ H5 ⟨y, ⟨o1, o2, t1, t2, g⟩, rfl⟩
      refine ⟨_, rfl, by omega, by omega, fun D hD => ?_⟩
      refine lc_range (lo := 0) (n := ((2 : Int)).toNat) (fun i H6 => Same H5 H6 ∧ ∃ ts : List Addr, ts.length = i ∧ H6 D = some (.lst (ts.map V.ref)) ∧ ∀ t ∈ ts, H6 t = some (.tup [.str "refused", .str "count"])) ⟨Same.new hD, [], rfl, upd_same, fun t ht => nomatch ht⟩ ?_ ?_
      · rintro i H6 hi ⟨s6, ts, hts, hQ, hT⟩
        refine ⟨rfl, ?_⟩
        refine ⟨_, rfl, _, rfl, _, rfl, x, y, o1, o2, _, rfl, t1.same s6, t2.same s6, g, fun t H7 ht s7 h7 => ?_⟩
        refine ⟨_, s7 _ _ hQ, sz5' (by have hi' : i < 2 := hi; rw [List.length_map]; omega), Same.mut (s6.trans s7) hD, ts ++ [t], by rw [List.length_append, hts] <;> rfl, ?_, fun t' ht' => ?_⟩
        · rw [upd_same, List.map_append] <;> rfl
        · have hne : t' ≠ D := by
            rintro rfl
            rcases List.mem_append.mp ht' with z | z
            · have := hT _ z
              rw [hQ] at this
              cases this
            · rw [List.mem_singleton.mp z] at hQ
              rw [hQ] at ht
              cases ht
          rw [upd_ne hne]
          rcases List.mem_append.mp ht' with z | z
          · exact s7 _ _ (hT _ z)
          · rw [List.mem_singleton.mp z]
            exact h7
      · rintro H6 ⟨s6, ts, hts, hQ, hT⟩
        refine ⟨by show 2 ≤ sizeLine; decide, fun t ht => ?_⟩
        refine ⟨by show 1 ≤ sizeLine; decide, fun l hl => ?_⟩
        refine ⟨l, _, _, rfl, rfl, upd_same, by decide, by decide, sz5 (by show 1 * 2 ≤ 100000; decide), fun q hq => ?_⟩
        have s7 := ((Same.new (o := .tup [.str "refused", .str "count"]) ht).trans (Same.new (o := .lst [.ref t]) hl)).trans (Same.new (o := .lst (List.replicate ((2 : Int)).toNat [V.ref t]).flatten) hq)
        have ntl : t ≠ l := ne_of_none upd_same hl
        have ntq : t ≠ q := ne_of_none (o := .tup [.str "refused", .str "count"]) (by rw [upd_ne ntl]; exact upd_same) hq
        have hTt : (upd (upd (upd H6 t (.tup [.str "refused", .str "count"])) l (.lst [.ref t])) q (.lst (List.replicate ((2 : Int)).toNat [V.ref t]).flatten)) t = some (.tup [.str "refused", .str "count"]) := by
          rw [upd_ne ntq, upd_ne ntl]
          exact upd_same
        refine ⟨.list [refC, refC], .list [refC, refC], .lst (SqL.of (s7 _ _ hQ)) ?_, .lst (SqL.of upd_same) (.cons (refC_dp hTt) (.cons (refC_dp hTt) .nil)), ?_⟩
        · match ts, hts, hT with
          | [t1', t2'], _, hT => exact .cons (refC_dp (s7 _ _ (hT _ List.mem_cons_self))) (.cons (refC_dp (s7 _ _ (hT _ (List.mem_cons_of_mem _ List.mem_cons_self)))) .nil)
        · have sh : Sh 2 (.list [refC, refC]) := .lst fun d hd => by
            simp only [List.mem_cons, List.not_mem_nil, or_false, or_self] at hd
            rw [hd]
            exact refC_sh
          refine ⟨sh.shaped (by decide), sh.shaped (by decide), ?_⟩
          rw [sh.refl]
          exact k _
    refine ⟨_, rfl, _, rfl, .inl ⟨s0, r, rfl, hs0, h1, h2, fun p as H3 hp has s3 hP R => ?_⟩⟩
    refine ⟨_, rfl, _, rfl, _, rfl, p, as, s0, r, rfl, hs0, h1, h2, hP, R, fun H4 s4 => ⟨_, rfl, iteF ?_⟩⟩
    refine ⟨_, rfl, _, rfl, .inl ⟨s0, r, rfl, hs0, h1, h2, ?_⟩⟩
    have R4 := R.same s4
    have hP4 := s4 _ _ hP
    obtain ⟨a0, ha0⟩ : ∃ x, as[0]? = some x := ⟨as[0]'(by rw [R.len]; omega), List.getElem?_eq_getElem _⟩
    obtain ⟨al, hal⟩ : ∃ x, as[r - 1]? = some x := ⟨as[r - 1]'(by rw [R.len]; omega), List.getElem?_eq_getElem _⟩
    have hrow := R4.at' (r - 1) al hal
    rw [lineK_eq (by omega) _ (by omega), show r - 1 + 1 = r by omega] at hrow
    refine ⟨_, rfl, .int _, some _, rfl, .int _, _, rfl, iteF ?_⟩
    refine ⟨_, rfl, _, rfl, _, rfl, _, _, rfl, rfl, p, _, _, .ref al, rfl, rfl, SqL.of hP4, at_of (j := r - 1) (by omega) (by rw [List.getElem?_map, hal] <;> rfl), _, rfl, al, _, _, .int (costN s0 r), rfl, rfl, SqL.of hrow, at_map (j := s0) rfl (lineC_at (by omega)), rfl, _, rfl, iteNS rfl ?_⟩
    refine ⟨fun σ H5 => ∃ (D : Addr) (ks : List Addr), σ = [some (.ref a), some (.int c), some (.int (s0 : Int)), some (.int (r : Int)), none, some (.ref p), some (.int (costN s0 r)), some (.ref D), none, none] ∧ Same H4 H5 ∧ H4 D = none ∧ H5 D = some (.lst (ks.map V.ref)) ∧ (∀ b ∈ ks, H4 b = none) ∧ Rows H5 ks r (lineK s0), ?_, ?_⟩
    · refine ⟨_, rfl, p, rfl, ⟨_, SqL.of hP4⟩, fun D hD => ?_⟩
      refine lc_list (K := K) (a := p) (xs := as.map V.ref) (fun i H5 => ∃ ks : List Addr, Same H4 H5 ∧ H5 D = some (.lst (ks.map V.ref)) ∧ (∀ b ∈ ks, H4 b = none) ∧ Rows H5 ks i (lineK s0)) ⟨[], Same.new hD, upd_same, fun b hb => (nomatch hb), rfl, fun i b hb => by simp at hb⟩ (fun i H5 _ ⟨_, s5, _⟩ => SqL.of (s5 _ _ hP4)) ?_ ?_
      · rintro i y H5 hi ⟨ks, s5, hD5, hk, R5⟩
        obtain ⟨x, hx, rfl⟩ := get_map hi
        have hxl := (List.getElem?_eq_some_iff.mp hx).1
        rw [R.len] at hxl
        refine ⟨rfl, ?_⟩
        refine ⟨_, rfl, x, _, rfl, .inl (SqL.of (s5 _ _ (R4.at' i x hx))), fun l hl => ?_⟩
        have hl4 := s5.free hl
        have nDl : D ≠ l := ne_of_none hD5 hl
        refine ⟨_, by rw [upd_ne nDl]; exact hD5, sz5' (by rw [List.length_map, R5.len]; omega), ks ++ [l], Same.mut (s5.trans (Same.new hl)) hD, by rw [upd_same, List.map_append] <;> rfl, fun b hb => ?_, by rw [List.length_append, R5.len] <;> rfl, fun j b hj => ?_⟩
        · rcases List.mem_append.mp hb with z | z
          · exact hk b z
          · rw [List.mem_singleton.mp z]
            exact hl4
        · by_cases hj2 : j < ks.length
          · rw [List.getElem?_append_left hj2] at hj
            have hb := R5.at' j b hj
            have nb : b ≠ l := ne_of_none hb hl
            have nbD : b ≠ D := by
              rintro rfl
              rw [hD5] at hb
              have e1 := congrArg List.head? (HO.lst.inj (Option.some.inj hb))
              have l2 := lineK_len s0 j
              cases ks with
              | nil => simp at hj2
              | cons k0 kr =>
                cases e5 : lineK s0 j with
                | nil =>
                  rw [e5] at l2
                  simp at l2
                | cons c0 cs =>
                  rw [e5] at e1
                  have e2 : some (V.ref k0) = some (V.int c0) := e1
                  cases e2
            rw [upd_ne nbD, upd_ne nb]
            exact hb
          · rw [List.getElem?_append_right (by omega)] at hj
            have e7 : j - ks.length = 0 := by
              have := (List.getElem?_eq_some_iff.mp hj).1
              simp at this
              omega
            rw [e7] at hj
            have e8 : l = b := Option.some.inj hj
            have e9 : j = i := by
              have := R5.len
              omega
            rw [← e8, e9, upd_ne nDl.symm]
            exact upd_same
      · rintro H5 ⟨ks, s5, hD5, hk, R5⟩
        rw [List.length_map, R.len] at R5
        exact ⟨D, ks, rfl, s5, hD, hD5, hk, R5⟩
    rintro σ H5 ⟨D, ks, rfl, s5, hD4, hD5, hk, R5⟩
    have R45 := R4.same s5
    have hP5 := s5 _ _ hP4
    have pna : ∀ j b, as[j]? = some b → p ≠ b := fun j b hj => by
      rintro rfl
      have hb := R45.at' j p hj
      rw [hP5] at hb
      have e1 := congrArg List.head? (HO.lst.inj (Option.some.inj hb))
      have l2 := lineK_len s0 j
      have l1 := R.len
      cases as with
      | nil => simp at hj
      | cons k0 kr =>
        cases e5 : lineK s0 j with
        | nil =>
          rw [e5] at l2
          simp at l2
        | cons c0 cs =>
          rw [e5] at e1
          have e2 : some (V.ref k0) = some (V.int c0) := e1
          cases e2
    refine ⟨_, rfl, p, _, _, .ref a0, rfl, rfl, SqL.of hP5, at_of (j := 0) rfl (by rw [List.getElem?_map, ha0] <;> rfl), .inl ⟨rfl, _, SqL.of (R45.at' 0 a0 ha0)⟩, a0, _, _, rfl, rfl, R45.at' 0 a0 ha0, sz5' (by rw [List.length_map, lineK_len]; omega), ?_⟩
    have hP6 : (upd H5 a0 (.lst ((lineK s0 0).map V.int ++ [V.int 0]))) p = some (.lst (as.map V.ref)) := by
      rw [upd_ne (pna 0 a0 ha0)]
      exact hP5
    obtain ⟨ys, hys, hyl⟩ : ∃ ys, (upd H5 a0 (.lst ((lineK s0 0).map V.int ++ [V.int 0]))) al = some (.lst ys) ∧ ys.length ≤ 1000 := by
      by_cases z : al = a0
      · rw [z]
        exact ⟨_, upd_same, by rw [List.length_append, List.length_map, lineK_len]; show s0 + 1 + 1 ≤ 1000; omega⟩
      · rw [upd_ne z]
        exact ⟨_, R45.at' (r - 1) al hal, by rw [List.length_map, lineK_len]; omega⟩
    refine ⟨_, rfl, _, rfl, p, _, _, .ref al, rfl, rfl, SqL.of hP6, atI_end (xs := as.map V.ref) (v := V.ref al) (by rw [List.length_map, R.len, List.getElem?_map, hal] <;> rfl), .inl ⟨rfl, _, SqL.of hys⟩, al, _, _, rfl, rfl, hys, sz5' (by omega), ?_⟩
    have hP7 : (upd (upd H5 a0 (.lst ((lineK s0 0).map V.int ++ [V.int 0]))) al (.lst (ys ++ [V.int 1]))) p = some (.lst (as.map V.ref)) := by
      rw [upd_ne (pna (r - 1) al hal)]
      exact hP6
    refine ⟨_, rfl, .inl ⟨rfl, _, SqL.of hP7⟩, by show 0 ≤ sizeLine; decide, fun e he => ?_⟩
    have npe : p ≠ e := ne_of_none hP7 he
    refine ⟨p, _, _, rfl, rfl, by rw [upd_ne npe]; exact hP7, sz5' (by rw [List.length_map, R.len]; omega), ?_⟩
    have keep : ∀ z o, H4 z = none → H5 z = some o → (upd (upd (upd (upd H5 a0 (.lst ((lineK s0 0).map V.int ++ [V.int 0]))) al (.lst (ys ++ [V.int 1]))) e (.lst [])) p (.lst (as.map V.ref ++ [V.ref e]))) z = some o := fun z o h4 h5 => by
      have z1 : z ≠ p := (ne_of_none hP4 h4).symm
      have z2 : z ≠ a0 := (ne_of_none (R4.at' 0 a0 ha0) h4).symm
      have z3 : z ≠ al := (ne_of_none (R4.at' (r - 1) al hal) h4).symm
      have h6 : (upd (upd H5 a0 (.lst ((lineK s0 0).map V.int ++ [V.int 0]))) al (.lst (ys ++ [V.int 1]))) z = some o := by
        rw [upd_ne z3, upd_ne z2]
        exact h5
      rw [upd_ne z1, upd_ne (ne_of_none h6 he)]
      exact h6
    refine ⟨_, rfl, _, rfl, .inl ⟨s0, r, rfl, hs0, h1, h2, fun q bs H7 hq hb s7 hQ R7 => ?_⟩⟩
    have sh := rowsD_sh s0 r
    refine ⟨_, rfl, .list (rowsD s0 r), .list (rowsD s0 r), .lst (SqL.of hQ) (rowsD_dp R7.len R7.at'), .lst (SqL.of (s7 _ _ (keep D _ hD4 hD5))) (rowsD_dp R5.len fun i b hi => s7 _ _ (keep b _ (hk b (List.mem_of_getElem? hi)) (R5.at' i b hi))), sh.shaped (by decide), sh.shaped (by decide), _, rfl, ?_⟩
    rw [sh.refl]
    refine iteT ?_
    refine ⟨_, rfl, _, rfl, .inl ⟨s0, r, rfl, hs0, h1, h2, _, rfl, rfl, ?_⟩⟩
    rw [decide_eq_true rfl]
    exact k _

end
theorem all_mk {l : PySem.W.OpenLaw} {w : World} {K : PySem.W.Frag} {h : Heap} {mg : Str → Option Value} {fa : Addr} (X : K.In h) (G : h.Ns mainGlobals mg) (hfa : mg "law" = some (.ref fa))
    {oc_is_among kV_is_among dc_is_among pm_is_among cd_is_among ct_is_among : Value} {od_is_among an_is_among : Option Addr} {sl_is_among : Array (Option Value)} {f_is_among : Addr}
    {oc_need_counts kV_need_counts dc_need_counts pm_need_counts cd_need_counts ct_need_counts : Value} {od_need_counts an_need_counts : Option Addr} {sl_need_counts : Array (Option Value)} {f_need_counts : Addr}
    {oc_choices kV_choices dc_choices pm_choices cd_choices ct_choices : Value} {od_choices an_choices : Option Addr} {sl_choices : Array (Option Value)} {f_choices : Addr}
    {oc_ways kV_ways dc_ways pm_ways cd_ways ct_ways : Value} {od_ways an_ways : Option Addr} {sl_ways : Array (Option Value)} {f_ways : Addr}
    {oc_often kV_often dc_often pm_often cd_often ct_often : Value} {od_often an_often : Option Addr} {sl_often : Array (Option Value)} {f_often : Addr}
    {oc_cost kV_cost dc_cost pm_cost cd_cost ct_cost : Value} {od_cost an_cost : Option Addr} {sl_cost : Array (Option Value)} {f_cost : Addr}
    {oc_least kV_least dc_least pm_least cd_least ct_least : Value} {od_least an_least : Option Addr} {sl_least : Array (Option Value)} {f_least : Addr}
    {oc_next_line kV_next_line dc_next_line pm_next_line cd_next_line ct_next_line : Value} {od_next_line an_next_line : Option Addr} {sl_next_line : Array (Option Value)} {f_next_line : Addr}
    {oc_table kV_table dc_table pm_table cd_table ct_table : Value} {od_table an_table : Option Addr} {sl_table : Array (Option Value)} {f_table : Addr}
    {oc_l_cell_at kV_l_cell_at dc_l_cell_at pm_l_cell_at cd_l_cell_at ct_l_cell_at : Value} {od_l_cell_at an_l_cell_at : Option Addr} {sl_l_cell_at : Array (Option Value)} {f_l_cell_at : Addr}
    {oc_l_whole kV_l_whole dc_l_whole pm_l_whole cd_l_whole ct_l_whole : Value} {od_l_whole an_l_whole : Option Addr} {sl_l_whole : Array (Option Value)} {f_l_whole : Addr}
    {oc_l_class kV_l_class dc_l_class pm_l_class cd_l_class ct_l_class : Value} {od_l_class an_l_class : Option Addr} {sl_l_class : Array (Option Value)} {f_l_class : Addr}
    {oc_l_entry kV_l_entry dc_l_entry pm_l_entry cd_l_entry ct_l_entry : Value} {od_l_entry an_l_entry : Option Addr} {sl_l_entry : Array (Option Value)} {f_l_entry : Addr}
    {oc_l_good kV_l_good dc_l_good pm_l_good cd_l_good ct_l_good : Value} {od_l_good an_l_good : Option Addr} {sl_l_good : Array (Option Value)} {f_l_good : Addr}
    {oc_l_told kV_l_told dc_l_told pm_l_told cd_l_told ct_l_told : Value} {od_l_told an_l_told : Option Addr} {sl_l_told : Array (Option Value)} {f_l_told : Addr}
    {oc_law kV_law dc_law pm_law cd_law ct_law : Value} {od_law an_law : Option Addr} {sl_law : Array (Option Value)} {f_law : Addr}
    {t_MOST_STEPS : Tok}
    {t_MOST_ROOM : Tok}
    {C_BadCount : Addr}
    {C_BadRule : Addr}
    {C_BadDeed : Addr}
    {C_Full : Addr}
    {C_Twice : Addr}
    {C_NotKept : Addr}
    {C_AtEnd : Addr}
    {C_NotWanted : Addr}
    {C_MarkError : Addr}
    (a_is_among : PySem.W.nsIn K mainGlobals "is_among" = some (some (.ref f_is_among)))
    (l_is_among : K.lookup f_is_among = some ⟨oc_is_among, od_is_among, .func (PySem.W.fnOf "is_among" "is_among" (defArgs s_is_among) (defBody s_is_among) (defScope s_is_among) .none kV_is_among dc_is_among pm_is_among an_is_among cd_is_among ct_is_among), sl_is_among⟩)
    (c_is_among : PySem.W.codeIn K cd_is_among "is_among" = true)
    (k_is_among : PySem.W.keepIn K (.ref f_is_among) = true)
    (a_need_counts : PySem.W.nsIn K mainGlobals "need_counts" = some (some (.ref f_need_counts)))
    (l_need_counts : K.lookup f_need_counts = some ⟨oc_need_counts, od_need_counts, .func (PySem.W.fnOf "need_counts" "need_counts" (defArgs s_need_counts) (defBody s_need_counts) (defScope s_need_counts) .none kV_need_counts dc_need_counts pm_need_counts an_need_counts cd_need_counts ct_need_counts), sl_need_counts⟩)
    (c_need_counts : PySem.W.codeIn K cd_need_counts "need_counts" = true)
    (k_need_counts : PySem.W.keepIn K (.ref f_need_counts) = true)
    (a_choices : PySem.W.nsIn K mainGlobals "choices" = some (some (.ref f_choices)))
    (l_choices : K.lookup f_choices = some ⟨oc_choices, od_choices, .func (PySem.W.fnOf "choices" "choices" (defArgs s_choices) (defBody s_choices) (defScope s_choices) .none kV_choices dc_choices pm_choices an_choices cd_choices ct_choices), sl_choices⟩)
    (c_choices : PySem.W.codeIn K cd_choices "choices" = true)
    (k_choices : PySem.W.keepIn K (.ref f_choices) = true)
    (a_ways : PySem.W.nsIn K mainGlobals "ways" = some (some (.ref f_ways)))
    (l_ways : K.lookup f_ways = some ⟨oc_ways, od_ways, .func (PySem.W.fnOf "ways" "ways" (defArgs s_ways) (defBody s_ways) (defScope s_ways) .none kV_ways dc_ways pm_ways an_ways cd_ways ct_ways), sl_ways⟩)
    (c_ways : PySem.W.codeIn K cd_ways "ways" = true)
    (k_ways : PySem.W.keepIn K (.ref f_ways) = true)
    (a_often : PySem.W.nsIn K mainGlobals "often" = some (some (.ref f_often)))
    (l_often : K.lookup f_often = some ⟨oc_often, od_often, .func (PySem.W.fnOf "often" "often" (defArgs s_often) (defBody s_often) (defScope s_often) .none kV_often dc_often pm_often an_often cd_often ct_often), sl_often⟩)
    (c_often : PySem.W.codeIn K cd_often "often" = true)
    (k_often : PySem.W.keepIn K (.ref f_often) = true)
    (a_cost : PySem.W.nsIn K mainGlobals "cost" = some (some (.ref f_cost)))
    (l_cost : K.lookup f_cost = some ⟨oc_cost, od_cost, .func (PySem.W.fnOf "cost" "cost" (defArgs s_cost) (defBody s_cost) (defScope s_cost) .none kV_cost dc_cost pm_cost an_cost cd_cost ct_cost), sl_cost⟩)
    (c_cost : PySem.W.codeIn K cd_cost "cost" = true)
    (k_cost : PySem.W.keepIn K (.ref f_cost) = true)
    (a_least : PySem.W.nsIn K mainGlobals "least" = some (some (.ref f_least)))
    (l_least : K.lookup f_least = some ⟨oc_least, od_least, .func (PySem.W.fnOf "least" "least" (defArgs s_least) (defBody s_least) (defScope s_least) .none kV_least dc_least pm_least an_least cd_least ct_least), sl_least⟩)
    (c_least : PySem.W.codeIn K cd_least "least" = true)
    (k_least : PySem.W.keepIn K (.ref f_least) = true)
    (a_next_line : PySem.W.nsIn K mainGlobals "next_line" = some (some (.ref f_next_line)))
    (l_next_line : K.lookup f_next_line = some ⟨oc_next_line, od_next_line, .func (PySem.W.fnOf "next_line" "next_line" (defArgs s_next_line) (defBody s_next_line) (defScope s_next_line) .none kV_next_line dc_next_line pm_next_line an_next_line cd_next_line ct_next_line), sl_next_line⟩)
    (c_next_line : PySem.W.codeIn K cd_next_line "next_line" = true)
    (k_next_line : PySem.W.keepIn K (.ref f_next_line) = true)
    (a_table : PySem.W.nsIn K mainGlobals "table" = some (some (.ref f_table)))
    (l_table : K.lookup f_table = some ⟨oc_table, od_table, .func (PySem.W.fnOf "table" "table" (defArgs s_table) (defBody s_table) (defScope s_table) .none kV_table dc_table pm_table an_table cd_table ct_table), sl_table⟩)
    (c_table : PySem.W.codeIn K cd_table "table" = true)
    (k_table : PySem.W.keepIn K (.ref f_table) = true)
    (a_l_cell_at : PySem.W.nsIn K mainGlobals "_law_cell_at" = some (some (.ref f_l_cell_at)))
    (l_l_cell_at : K.lookup f_l_cell_at = some ⟨oc_l_cell_at, od_l_cell_at, .func (PySem.W.fnOf "_law_cell_at" "_law_cell_at" (defArgs s_l_cell_at) (defBody s_l_cell_at) (defScope s_l_cell_at) .none kV_l_cell_at dc_l_cell_at pm_l_cell_at an_l_cell_at cd_l_cell_at ct_l_cell_at), sl_l_cell_at⟩)
    (c_l_cell_at : PySem.W.codeIn K cd_l_cell_at "_law_cell_at" = true)
    (k_l_cell_at : PySem.W.keepIn K (.ref f_l_cell_at) = true)
    (a_l_whole : PySem.W.nsIn K mainGlobals "_law_whole" = some (some (.ref f_l_whole)))
    (l_l_whole : K.lookup f_l_whole = some ⟨oc_l_whole, od_l_whole, .func (PySem.W.fnOf "_law_whole" "_law_whole" (defArgs s_l_whole) (defBody s_l_whole) (defScope s_l_whole) .none kV_l_whole dc_l_whole pm_l_whole an_l_whole cd_l_whole ct_l_whole), sl_l_whole⟩)
    (c_l_whole : PySem.W.codeIn K cd_l_whole "_law_whole" = true)
    (k_l_whole : PySem.W.keepIn K (.ref f_l_whole) = true)
    (a_l_class : PySem.W.nsIn K mainGlobals "_law_class" = some (some (.ref f_l_class)))
    (l_l_class : K.lookup f_l_class = some ⟨oc_l_class, od_l_class, .func (PySem.W.fnOf "_law_class" "_law_class" (defArgs s_l_class) (defBody s_l_class) (defScope s_l_class) .none kV_l_class dc_l_class pm_l_class an_l_class cd_l_class ct_l_class), sl_l_class⟩)
    (c_l_class : PySem.W.codeIn K cd_l_class "_law_class" = true)
    (k_l_class : PySem.W.keepIn K (.ref f_l_class) = true)
    (a_l_entry : PySem.W.nsIn K mainGlobals "_law_entry" = some (some (.ref f_l_entry)))
    (l_l_entry : K.lookup f_l_entry = some ⟨oc_l_entry, od_l_entry, .func (PySem.W.fnOf "_law_entry" "_law_entry" (defArgs s_l_entry) (defBody s_l_entry) (defScope s_l_entry) .none kV_l_entry dc_l_entry pm_l_entry an_l_entry cd_l_entry ct_l_entry), sl_l_entry⟩)
    (c_l_entry : PySem.W.codeIn K cd_l_entry "_law_entry" = true)
    (k_l_entry : PySem.W.keepIn K (.ref f_l_entry) = true)
    (a_l_good : PySem.W.nsIn K mainGlobals "_law_good" = some (some (.ref f_l_good)))
    (l_l_good : K.lookup f_l_good = some ⟨oc_l_good, od_l_good, .func (PySem.W.fnOf "_law_good" "_law_good" (defArgs s_l_good) (defBody s_l_good) (defScope s_l_good) .none kV_l_good dc_l_good pm_l_good an_l_good cd_l_good ct_l_good), sl_l_good⟩)
    (c_l_good : PySem.W.codeIn K cd_l_good "_law_good" = true)
    (k_l_good : PySem.W.keepIn K (.ref f_l_good) = true)
    (a_l_told : PySem.W.nsIn K mainGlobals "_law_told" = some (some (.ref f_l_told)))
    (l_l_told : K.lookup f_l_told = some ⟨oc_l_told, od_l_told, .func (PySem.W.fnOf "_law_told" "_law_told" (defArgs s_l_told) (defBody s_l_told) (defScope s_l_told) .none kV_l_told dc_l_told pm_l_told an_l_told cd_l_told ct_l_told), sl_l_told⟩)
    (c_l_told : PySem.W.codeIn K cd_l_told "_law_told" = true)
    (k_l_told : PySem.W.keepIn K (.ref f_l_told) = true)
    (a_law : PySem.W.nsIn K mainGlobals "law" = some (some (.ref f_law)))
    (l_law : K.lookup f_law = some ⟨oc_law, od_law, .func (PySem.W.fnOf "law" "law" (defArgs s_law) (defBody s_law) (defScope s_law) .none kV_law dc_law pm_law an_law cd_law ct_law), sl_law⟩)
    (c_law : PySem.W.codeIn K cd_law "law" = true)
    (k_law : PySem.W.keepIn K (.ref f_law) = true)
    (v_MOST_STEPS : PySem.W.nsIn K mainGlobals "MOST_STEPS" = some (some (.int 100 t_MOST_STEPS)))
    (v_MOST_ROOM : PySem.W.nsIn K mainGlobals "MOST_ROOM" = some (some (.int 12 t_MOST_ROOM)))
    (z_isinstance : PySem.W.nsIn K mainGlobals "isinstance" = some none)
    (z_bool : PySem.W.nsIn K mainGlobals "bool" = some none)
    (z_int : PySem.W.nsIn K mainGlobals "int" = some none)
    (z_range : PySem.W.nsIn K mainGlobals "range" = some none)
    (z_len : PySem.W.nsIn K mainGlobals "len" = some none)
    (z_ValueError : PySem.W.nsIn K mainGlobals "ValueError" = some none)
    (z_min : PySem.W.nsIn K mainGlobals "min" = some none)
    (z_list : PySem.W.nsIn K mainGlobals "list" = some none)
    (z_all : PySem.W.nsIn K mainGlobals "all" = some none)
    (z_zip : PySem.W.nsIn K mainGlobals "zip" = some none)
    (gBadCount : PySem.W.nsIn K mainGlobals "BadCount" = some (some (.ref C_BadCount)))
    (xBadCount : PySem.W.excIn K C_BadCount [.type "ValueError", .type "Exception", .type "BaseException", .type "object"] "ValueError.__new__" = true)
    (kBadCount : PySem.W.keepIn K (.ref C_BadCount) = true) (bBadCount : PySem.W.subIn K (.ref C_BadCount) (.type "BaseException") = some true) (tBadCount : PySem.W.typeIn K (.ref C_BadCount) = some (.type "type"))
    (gBadRule : PySem.W.nsIn K mainGlobals "BadRule" = some (some (.ref C_BadRule)))
    (xBadRule : PySem.W.excIn K C_BadRule [.type "ValueError", .type "Exception", .type "BaseException", .type "object"] "ValueError.__new__" = true)
    (kBadRule : PySem.W.keepIn K (.ref C_BadRule) = true) (bBadRule : PySem.W.subIn K (.ref C_BadRule) (.type "BaseException") = some true) (tBadRule : PySem.W.typeIn K (.ref C_BadRule) = some (.type "type"))
    (gBadDeed : PySem.W.nsIn K mainGlobals "BadDeed" = some (some (.ref C_BadDeed)))
    (xBadDeed : PySem.W.excIn K C_BadDeed [.type "ValueError", .type "Exception", .type "BaseException", .type "object"] "ValueError.__new__" = true)
    (kBadDeed : PySem.W.keepIn K (.ref C_BadDeed) = true) (bBadDeed : PySem.W.subIn K (.ref C_BadDeed) (.type "BaseException") = some true) (tBadDeed : PySem.W.typeIn K (.ref C_BadDeed) = some (.type "type"))
    (gFull : PySem.W.nsIn K mainGlobals "Full" = some (some (.ref C_Full)))
    (xFull : PySem.W.excIn K C_Full [.type "ValueError", .type "Exception", .type "BaseException", .type "object"] "ValueError.__new__" = true)
    (kFull : PySem.W.keepIn K (.ref C_Full) = true) (bFull : PySem.W.subIn K (.ref C_Full) (.type "BaseException") = some true) (tFull : PySem.W.typeIn K (.ref C_Full) = some (.type "type"))
    (gTwice : PySem.W.nsIn K mainGlobals "Twice" = some (some (.ref C_Twice)))
    (xTwice : PySem.W.excIn K C_Twice [.type "ValueError", .type "Exception", .type "BaseException", .type "object"] "ValueError.__new__" = true)
    (kTwice : PySem.W.keepIn K (.ref C_Twice) = true) (bTwice : PySem.W.subIn K (.ref C_Twice) (.type "BaseException") = some true) (tTwice : PySem.W.typeIn K (.ref C_Twice) = some (.type "type"))
    (gNotKept : PySem.W.nsIn K mainGlobals "NotKept" = some (some (.ref C_NotKept)))
    (xNotKept : PySem.W.excIn K C_NotKept [.type "ValueError", .type "Exception", .type "BaseException", .type "object"] "ValueError.__new__" = true)
    (kNotKept : PySem.W.keepIn K (.ref C_NotKept) = true) (bNotKept : PySem.W.subIn K (.ref C_NotKept) (.type "BaseException") = some true) (tNotKept : PySem.W.typeIn K (.ref C_NotKept) = some (.type "type"))
    (gAtEnd : PySem.W.nsIn K mainGlobals "AtEnd" = some (some (.ref C_AtEnd)))
    (xAtEnd : PySem.W.excIn K C_AtEnd [.type "ValueError", .type "Exception", .type "BaseException", .type "object"] "ValueError.__new__" = true)
    (kAtEnd : PySem.W.keepIn K (.ref C_AtEnd) = true) (bAtEnd : PySem.W.subIn K (.ref C_AtEnd) (.type "BaseException") = some true) (tAtEnd : PySem.W.typeIn K (.ref C_AtEnd) = some (.type "type"))
    (gNotWanted : PySem.W.nsIn K mainGlobals "NotWanted" = some (some (.ref C_NotWanted)))
    (xNotWanted : PySem.W.excIn K C_NotWanted [.type "ValueError", .type "Exception", .type "BaseException", .type "object"] "ValueError.__new__" = true)
    (kNotWanted : PySem.W.keepIn K (.ref C_NotWanted) = true) (bNotWanted : PySem.W.subIn K (.ref C_NotWanted) (.type "BaseException") = some true) (tNotWanted : PySem.W.typeIn K (.ref C_NotWanted) = some (.type "type"))
    (gMarkError : PySem.W.nsIn K mainGlobals "MarkError" = some (some (.ref C_MarkError)))
    (xMarkError : PySem.W.excIn K C_MarkError [.type "ValueError", .type "Exception", .type "BaseException", .type "object"] "ValueError.__new__" = true)
    (kMarkError : PySem.W.keepIn K (.ref C_MarkError) = true) (bMarkError : PySem.W.subIn K (.ref C_MarkError) (.type "BaseException") = some true) (tMarkError : PySem.W.typeIn K (.ref C_MarkError) = some (.type "type"))
    (hdM : PySem.W.hasDictIn K C_MarkError = true)
    (tkX : PySem.W.takesIn K (.builtin "object.__class__") = some true)
    (spX : PySem.W.specialIn K (.builtin "object.__class__") "__get__" = some (some (.builtin "getset_descriptor.__get__")))
    (sMBadCount : PySem.W.subIn K (.ref C_BadCount) (.ref C_MarkError) = some true)
    (qBadCountBadCount : PySem.W.kitOne K (.ref C_BadCount) (.ref C_BadCount) = some true)
    (qBadCountBadRule : PySem.W.kitOne K (.ref C_BadCount) (.ref C_BadRule) = some false)
    (qBadCountBadDeed : PySem.W.kitOne K (.ref C_BadCount) (.ref C_BadDeed) = some false)
    (qBadCountFull : PySem.W.kitOne K (.ref C_BadCount) (.ref C_Full) = some false)
    (qBadCountTwice : PySem.W.kitOne K (.ref C_BadCount) (.ref C_Twice) = some false)
    (qBadCountNotKept : PySem.W.kitOne K (.ref C_BadCount) (.ref C_NotKept) = some false)
    (qBadCountAtEnd : PySem.W.kitOne K (.ref C_BadCount) (.ref C_AtEnd) = some false)
    (qBadCountNotWanted : PySem.W.kitOne K (.ref C_BadCount) (.ref C_NotWanted) = some false)
    (qvBadCount : PySem.W.kitOne K (.ref C_BadCount) (.type "ValueError") = some true)
    (hgBadCount : PySem.W.findIn K (.ref C_BadCount) "__getattribute__" = some (some (.builtin "BaseException.__getattribute__")))
    (hkBadCount : PySem.W.findIn K (.ref C_BadCount) "__getattr__" = some none)
    (hdBadCount : PySem.W.hasDictIn K C_BadCount = true)
    (haBadCount : PySem.W.findIn K (.ref C_BadCount) "__class__" = some (some (.builtin "object.__class__")))
    (hmBadCount : PySem.W.mroIn K C_BadCount (.type "object") = some true) :
    ∃ fd : FuncData, (∀ (s : Shared) (v : Value), BindsTo s fd ⟨[v], []⟩ [("_law_script", v)]) ∧ ∀ base : Heap, K.In base → base.Ns mainGlobals mg → FnOk l.prog w K mg base (L2.CX l.prog w) 7 fa fd ["_law_script"] (sp_law K) := by
  have e := hfa.symm.trans (PySem.W.mg_of X G a_law)
  cases e
  have T : Txt K mg := {
    d_is_among := ⟨_, _, PySem.W.mg_of X G a_is_among, fun_mk (st := s_is_among) l_is_among c_is_among k_is_among, (fun_mk (st := s_is_among) l_is_among c_is_among k_is_among).binds (ps := ["thing", "low", "high"]) fun _ _ _ _ _ _ us hl => match us, hl with | [_, _, _], _ => rfl⟩,
    d_need_counts := ⟨_, _, PySem.W.mg_of X G a_need_counts, fun_mk (st := s_need_counts) l_need_counts c_need_counts k_need_counts, (fun_mk (st := s_need_counts) l_need_counts c_need_counts k_need_counts).binds (ps := ["steps", "room"]) fun _ _ _ _ _ _ us hl => match us, hl with | [_, _], _ => rfl⟩,
    d_choices := ⟨_, _, PySem.W.mg_of X G a_choices, fun_mk (st := s_choices) l_choices c_choices k_choices, (fun_mk (st := s_choices) l_choices c_choices k_choices).binds (ps := ["many", "chosen"]) fun _ _ _ _ _ _ us hl => match us, hl with | [_, _], _ => rfl⟩,
    d_ways := ⟨_, _, PySem.W.mg_of X G a_ways, fun_mk (st := s_ways) l_ways c_ways k_ways, (fun_mk (st := s_ways) l_ways c_ways k_ways).binds (ps := ["room", "times"]) fun _ _ _ _ _ _ us hl => match us, hl with | [_, _], _ => rfl⟩,
    d_often := ⟨_, _, PySem.W.mg_of X G a_often, fun_mk (st := s_often) l_often c_often k_often, (fun_mk (st := s_often) l_often c_often k_often).binds (ps := ["steps", "room"]) fun _ _ _ _ _ _ us hl => match us, hl with | [_, _], _ => rfl⟩,
    d_cost := ⟨_, _, PySem.W.mg_of X G a_cost, fun_mk (st := s_cost) l_cost c_cost k_cost, (fun_mk (st := s_cost) l_cost c_cost k_cost).binds (ps := ["steps", "room"]) fun _ _ _ _ _ _ us hl => match us, hl with | [_, _], _ => rfl⟩,
    d_least := ⟨_, _, PySem.W.mg_of X G a_least, fun_mk (st := s_least) l_least c_least k_least, (fun_mk (st := s_least) l_least c_least k_least).binds (ps := ["steps", "room"]) fun _ _ _ _ _ _ us hl => match us, hl with | [_, _], _ => rfl⟩,
    d_next_line := ⟨_, _, PySem.W.mg_of X G a_next_line, fun_mk (st := s_next_line) l_next_line c_next_line k_next_line, (fun_mk (st := s_next_line) l_next_line c_next_line k_next_line).binds (ps := ["above", "steps"]) fun _ _ _ _ _ _ us hl => match us, hl with | [_, _], _ => rfl⟩,
    d_table := ⟨_, _, PySem.W.mg_of X G a_table, fun_mk (st := s_table) l_table c_table k_table, (fun_mk (st := s_table) l_table c_table k_table).binds (ps := ["steps", "room"]) fun _ _ _ _ _ _ us hl => match us, hl with | [_, _], _ => rfl⟩,
    d_l_cell_at := ⟨_, _, PySem.W.mg_of X G a_l_cell_at, fun_mk (st := s_l_cell_at) l_l_cell_at c_l_cell_at k_l_cell_at, (fun_mk (st := s_l_cell_at) l_l_cell_at c_l_cell_at k_l_cell_at).binds (ps := ["_law_script", "_law_k"]) fun _ _ _ _ _ _ us hl => match us, hl with | [_, _], _ => rfl⟩,
    d_l_whole := ⟨_, _, PySem.W.mg_of X G a_l_whole, fun_mk (st := s_l_whole) l_l_whole c_l_whole k_l_whole, (fun_mk (st := s_l_whole) l_l_whole c_l_whole k_l_whole).binds (ps := ["_law_found"]) fun _ _ _ _ _ _ us hl => match us, hl with | [_], _ => rfl⟩,
    d_l_class := ⟨_, _, PySem.W.mg_of X G a_l_class, fun_mk (st := s_l_class) l_l_class c_l_class k_l_class, (fun_mk (st := s_l_class) l_l_class c_l_class k_l_class).binds (ps := ["_law_e"]) fun _ _ _ _ _ _ us hl => match us, hl with | [_], _ => rfl⟩,
    d_l_entry := ⟨_, _, PySem.W.mg_of X G a_l_entry, fun_mk (st := s_l_entry) l_l_entry c_l_entry k_l_entry, (fun_mk (st := s_l_entry) l_l_entry c_l_entry k_l_entry).binds (ps := ["_law_above", "_law_own", "_law_many"]) fun _ _ _ _ _ _ us hl => match us, hl with | [_, _, _], _ => rfl⟩,
    d_l_good := ⟨_, _, PySem.W.mg_of X G a_l_good, fun_mk (st := s_l_good) l_l_good c_l_good k_l_good, (fun_mk (st := s_l_good) l_l_good c_l_good k_l_good).binds (ps := ["_law_found", "_law_steps", "_law_room"]) fun _ _ _ _ _ _ us hl => match us, hl with | [_, _, _], _ => rfl⟩,
    d_l_told := ⟨_, _, PySem.W.mg_of X G a_l_told, fun_mk (st := s_l_told) l_l_told c_l_told k_l_told, (fun_mk (st := s_l_told) l_l_told c_l_told k_l_told).binds (ps := ["_law_steps", "_law_room", "_law_way"]) fun _ _ _ _ _ _ us hl => match us, hl with | [_, _, _], _ => rfl⟩,
    d_law := ⟨_, _, PySem.W.mg_of X G a_law, fun_mk (st := s_law) l_law c_law k_law, (fun_mk (st := s_law) l_law c_law k_law).binds (ps := ["_law_script"]) fun _ _ _ _ _ _ us hl => match us, hl with | [_], _ => rfl⟩,
    c_MOST_STEPS := ⟨_, PySem.W.mg_of X G v_MOST_STEPS⟩,
    c_MOST_ROOM := ⟨_, PySem.W.mg_of X G v_MOST_ROOM⟩,
    n_isinstance := PySem.W.mg_none_of X G z_isinstance,
    n_bool := PySem.W.mg_none_of X G z_bool,
    n_int := PySem.W.mg_none_of X G z_int,
    n_range := PySem.W.mg_none_of X G z_range,
    n_len := PySem.W.mg_none_of X G z_len,
    n_ValueError := PySem.W.mg_none_of X G z_ValueError,
    n_min := PySem.W.mg_none_of X G z_min,
    n_list := PySem.W.mg_none_of X G z_list,
    n_all := PySem.W.mg_none_of X G z_all,
    n_zip := PySem.W.mg_none_of X G z_zip,
    aBadCount := C_BadCount,
    x_BadCount := ⟨PySem.W.mg_of X G gBadCount, xBadCount, kBadCount, bBadCount, tBadCount⟩,
    aBadRule := C_BadRule,
    x_BadRule := ⟨PySem.W.mg_of X G gBadRule, xBadRule, kBadRule, bBadRule, tBadRule⟩,
    aBadDeed := C_BadDeed,
    x_BadDeed := ⟨PySem.W.mg_of X G gBadDeed, xBadDeed, kBadDeed, bBadDeed, tBadDeed⟩,
    aFull := C_Full,
    x_Full := ⟨PySem.W.mg_of X G gFull, xFull, kFull, bFull, tFull⟩,
    aTwice := C_Twice,
    x_Twice := ⟨PySem.W.mg_of X G gTwice, xTwice, kTwice, bTwice, tTwice⟩,
    aNotKept := C_NotKept,
    x_NotKept := ⟨PySem.W.mg_of X G gNotKept, xNotKept, kNotKept, bNotKept, tNotKept⟩,
    aAtEnd := C_AtEnd,
    x_AtEnd := ⟨PySem.W.mg_of X G gAtEnd, xAtEnd, kAtEnd, bAtEnd, tAtEnd⟩,
    aNotWanted := C_NotWanted,
    x_NotWanted := ⟨PySem.W.mg_of X G gNotWanted, xNotWanted, kNotWanted, bNotWanted, tNotWanted⟩,
    aMarkError := C_MarkError,
    x_MarkError := ⟨PySem.W.mg_of X G gMarkError, xMarkError, kMarkError, bMarkError, tMarkError⟩,
    q_BadCount := ⟨by decide, fun j hj => eight (P := fun j => PySem.W.kitOne K (.ref C_BadCount) (.ref ([C_BadCount, C_BadRule, C_BadDeed, C_Full, C_Twice, C_NotKept, C_AtEnd, C_NotWanted].getD j 0)) = some (decide (j = 0))) hj qBadCountBadCount qBadCountBadRule qBadCountBadDeed qBadCountFull qBadCountTwice qBadCountNotKept qBadCountAtEnd qBadCountNotWanted, qvBadCount, ⟨hgBadCount, hkBadCount, bBadCount, hdBadCount, haBadCount, spX, tkX, hmBadCount⟩⟩,
    e_BadCount := PySem.W.exm_ref bMarkError hdM tMarkError sMBadCount }
  refine ⟨PySem.W.fnOf "law" "law" (defArgs s_law) (defBody s_law) (defScope s_law) .none kV_law dc_law pm_law an_law cd_law ct_law, fun s v => .of_eq rfl, fun base _ _ => ?_⟩
  exact ok_law_at T (fun_mk (st := s_law) l_law c_law k_law)
theorem walk {l : PySem.W.OpenLaw} {q : Program} {loose : List Str} {XP : (Str → Option Value) → Heap → Prop} {YP : World → Heap → Prop} {d : DefRec} {K : Params → PySem.W.Frag} (hn : l.most = some 63) (hdf : d.params.defaults = [])
    (hY : ∀ (w : World) (h : Heap), YP w h → (K w.params).In h)
    (F : ∀ (w : World) (mg : Str → Option Value) (fa : Addr) (h : Heap), (K w.params).In h → h.Ns mainGlobals mg → mg d.name = some (.ref fa) →
      ∃ fd : FuncData, (∀ (s : Shared) (u : Value), BindsTo s fd ⟨[u], []⟩ [("_law_script", u)]) ∧ ∀ base : Heap, (K w.params).In base → base.Ns mainGlobals mg → FnOk l.prog w (K w.params) mg base (L2.CX l.prog w) 7 fa fd ["_law_script"] (sp_law (K w.params))) :
    PySem.W.WalkO q loose XP YP l.row.toRowW d [] (fun f vs => PySem.call f vs) :=
  L2.walk_of (n := 63) (k := 7) (x := "_law_script") (CX := fun w => L2.CX l.prog w) (sp := fun w => sp_law (K w.params)) hn (by decide) hdf ⟨rfl, by decide, by decide⟩ hY F (fun _ _ _ _ hl _ hS => law_true hS hl) fun _ _ _ _ _ z => cx0_no z
end BM
open PySem PySem.W PyProof.Rows
set_option maxRecDepth 100000 in
set_option maxHeartbeats 0 in
theorem PySem.Challenge.cw_backmarks_k04_table_by_steps_holds : PySem.Challenge.rw_backmarks_k04_table_by_steps.Holds := by
  w_on; o_law; k_head; (case hw => w_witness2)
  k_fill
  refine BM.walk (l := PySem.Challenge.rw_backmarks_k04_table_by_steps) rfl rfl (fun w h Y => PySem.W.kIn_of Y) ?F
  case F =>
    intro w mg fa h KX G hmg
    refine' BM.all_mk (l := PySem.Challenge.rw_backmarks_k04_table_by_steps) KX G hmg ?a_is_among ?l_is_among ?c_is_among ?k_is_among ?a_need_counts ?l_need_counts ?c_need_counts ?k_need_counts ?a_choices ?l_choices ?c_choices ?k_choices ?a_ways ?l_ways ?c_ways ?k_ways ?a_often ?l_often ?c_often ?k_often ?a_cost ?l_cost ?c_cost ?k_cost ?a_least ?l_least ?c_least ?k_least ?a_next_line ?l_next_line ?c_next_line ?k_next_line ?a_table ?l_table ?c_table ?k_table ?a_l_cell_at ?l_l_cell_at ?c_l_cell_at ?k_l_cell_at ?a_l_whole ?l_l_whole ?c_l_whole ?k_l_whole ?a_l_class ?l_l_class ?c_l_class ?k_l_class ?a_l_entry ?l_l_entry ?c_l_entry ?k_l_entry ?a_l_good ?l_l_good ?c_l_good ?k_l_good ?a_l_told ?l_l_told ?c_l_told ?k_l_told ?a_law ?l_law ?c_law ?k_law ?v_MOST_STEPS ?v_MOST_ROOM ?z_isinstance ?z_bool ?z_int ?z_range ?z_len ?z_ValueError ?z_min ?z_list ?z_all ?z_zip ?gBadCount ?xBadCount ?kBadCount ?bBadCount ?tBadCount ?gBadRule ?xBadRule ?kBadRule ?bBadRule ?tBadRule ?gBadDeed ?xBadDeed ?kBadDeed ?bBadDeed ?tBadDeed ?gFull ?xFull ?kFull ?bFull ?tFull ?gTwice ?xTwice ?kTwice ?bTwice ?tTwice ?gNotKept ?xNotKept ?kNotKept ?bNotKept ?tNotKept ?gAtEnd ?xAtEnd ?kAtEnd ?bAtEnd ?tAtEnd ?gNotWanted ?xNotWanted ?kNotWanted ?bNotWanted ?tNotWanted ?gMarkError ?xMarkError ?kMarkError ?bMarkError ?tMarkError ?hdM ?tkX ?spX ?sMBadCount ?qBadCountBadCount ?qBadCountBadRule ?qBadCountBadDeed ?qBadCountFull ?qBadCountTwice ?qBadCountNotKept ?qBadCountAtEnd ?qBadCountNotWanted ?qvBadCount ?hgBadCount ?hkBadCount ?hdBadCount ?haBadCount ?hmBadCount
    (case a_is_among => k_is)
    (case l_is_among => k_is)
    (case c_is_among => k_is)
    (case k_is_among => k_is)
    (case a_need_counts => k_is)
    (case l_need_counts => k_is)
    (case c_need_counts => k_is)
    (case k_need_counts => k_is)
    (case a_choices => k_is)
    (case l_choices => k_is)
    (case c_choices => k_is)
    (case k_choices => k_is)
    (case a_ways => k_is)
    (case l_ways => k_is)
    (case c_ways => k_is)
    (case k_ways => k_is)
    (case a_often => k_is)
    (case l_often => k_is)
    (case c_often => k_is)
    (case k_often => k_is)
    (case a_cost => k_is)
    (case l_cost => k_is)
    (case c_cost => k_is)
    (case k_cost => k_is)
    (case a_least => k_is)
    (case l_least => k_is)
    (case c_least => k_is)
    (case k_least => k_is)
    (case a_next_line => k_is)
    (case l_next_line => k_is)
    (case c_next_line => k_is)
    (case k_next_line => k_is)
    (case a_table => k_is)
    (case l_table => k_is)
    (case c_table => k_is)
    (case k_table => k_is)
    (case a_l_cell_at => k_is)
    (case l_l_cell_at => k_is)
    (case c_l_cell_at => k_is)
    (case k_l_cell_at => k_is)
    (case a_l_whole => k_is)
    (case l_l_whole => k_is)
    (case c_l_whole => k_is)
    (case k_l_whole => k_is)
    (case a_l_class => k_is)
    (case l_l_class => k_is)
    (case c_l_class => k_is)
    (case k_l_class => k_is)
    (case a_l_entry => k_is)
    (case l_l_entry => k_is)
    (case c_l_entry => k_is)
    (case k_l_entry => k_is)
    (case a_l_good => k_is)
    (case l_l_good => k_is)
    (case c_l_good => k_is)
    (case k_l_good => k_is)
    (case a_l_told => k_is)
    (case l_l_told => k_is)
    (case c_l_told => k_is)
    (case k_l_told => k_is)
    (case a_law => k_is)
    (case l_law => k_is)
    (case c_law => k_is)
    (case k_law => k_is)
    (case v_MOST_STEPS => k_is)
    (case v_MOST_ROOM => k_is)
    (case z_isinstance => k_is)
    (case z_bool => k_is)
    (case z_int => k_is)
    (case z_range => k_is)
    (case z_len => k_is)
    (case z_ValueError => k_is)
    (case z_min => k_is)
    (case z_list => k_is)
    (case z_all => k_is)
    (case z_zip => k_is)
    (case gBadCount => k_is)
    (case xBadCount => k_exc)
    (case kBadCount => k_is)
    (case bBadCount => k_is)
    (case tBadCount => k_is)
    (case gBadRule => k_is)
    (case xBadRule => k_exc)
    (case kBadRule => k_is)
    (case bBadRule => k_is)
    (case tBadRule => k_is)
    (case gBadDeed => k_is)
    (case xBadDeed => k_exc)
    (case kBadDeed => k_is)
    (case bBadDeed => k_is)
    (case tBadDeed => k_is)
    (case gFull => k_is)
    (case xFull => k_exc)
    (case kFull => k_is)
    (case bFull => k_is)
    (case tFull => k_is)
    (case gTwice => k_is)
    (case xTwice => k_exc)
    (case kTwice => k_is)
    (case bTwice => k_is)
    (case tTwice => k_is)
    (case gNotKept => k_is)
    (case xNotKept => k_exc)
    (case kNotKept => k_is)
    (case bNotKept => k_is)
    (case tNotKept => k_is)
    (case gAtEnd => k_is)
    (case xAtEnd => k_exc)
    (case kAtEnd => k_is)
    (case bAtEnd => k_is)
    (case tAtEnd => k_is)
    (case gNotWanted => k_is)
    (case xNotWanted => k_exc)
    (case kNotWanted => k_is)
    (case bNotWanted => k_is)
    (case tNotWanted => k_is)
    (case gMarkError => k_is)
    (case xMarkError => k_exc)
    (case kMarkError => k_is)
    (case bMarkError => k_is)
    (case tMarkError => k_is)
    (case hdM => k_is)
    (case tkX => k_is)
    (case spX => k_is)
    (case sMBadCount => k_is)
    (case qBadCountBadCount => kit_is)
    (case qBadCountBadRule => kit_is)
    (case qBadCountBadDeed => kit_is)
    (case qBadCountFull => kit_is)
    (case qBadCountTwice => kit_is)
    (case qBadCountNotKept => kit_is)
    (case qBadCountAtEnd => kit_is)
    (case qBadCountNotWanted => kit_is)
    (case qvBadCount => kit_is)
    (case hgBadCount => k_is)
    (case hkBadCount => k_is)
    (case hdBadCount => k_is)
    (case haBadCount => k_is)
    (case hmBadCount => k_is)
#print axioms PySem.Challenge.cw_backmarks_k04_table_by_steps_holds
