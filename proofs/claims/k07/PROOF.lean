import PyProof.Rows.All
import Wide.All
import OpenK.AllK
import Wide.FinOn
import PyProof.EqAt
import PyProof.EqKinds
import PyProof.TupleCall
import HandS.ForMost
import HandS.Exc
import HandS.TryOnly
import HandS.ExcOwn
import HandS.WordsExc
import HandS.IsInst
import HandS.ExcIs
import HandS.Evl
import HandS.HotCalls
import HandS.Deep
import KE.RegKIsAll
import PySem.Challenge.RW_backmarks_k07_whole_plans_walked
set_option Elab.async false
set_option linter.all false
set_option maxRecDepth 100000
set_option maxHeartbeats 4000000
/-! ## Common words: a def as it stands, what it promises, an error class, things that are whole numbers or not -/
namespace BM
open PySem PySem.Spec PyProof.Rows L2

/-- the def named x of the module's top -/
def Def (K : PySem.W.Frag) (mg : Str → Option Value) (x qual : Str) (st : Stmt) (ps : List Str) : Prop :=
  ∃ (f : Addr) (fd : FuncData), mg x = some (.ref f) ∧ Fun K x qual st f fd ∧ Binds K fd ps []
/-- it keeps its promise -/
def OkF (P : Program) (w : World) (K : PySem.W.Frag) (mg : Str → Option Value) (base : Heap) (x : Str) (k : Nat) (ps : List Str) (sp : Sp) : Prop :=
  ∃ (f : Addr) (fd : FuncData), mg x = some (.ref f) ∧ PySem.W.keepIn K (.ref f) = true ∧ Binds K fd ps [] ∧ FnOk P w K mg base (L2.CX P w) k f fd ps sp
/-- a class of the program's own errors, without a body of its own -/
structure XC (K : PySem.W.Frag) (mg : Str → Option Value) (n : Str) (C : Addr) : Prop where
  g : mg n = some (.ref C)
  x : PySem.W.excIn K C [.type "ValueError", .type "Exception", .type "BaseException", .type "object"] "ValueError.__new__" = true
  k : PySem.W.keepIn K (.ref C) = true
  b : PySem.W.subIn K (.ref C) (.type "BaseException") = some true
  t : PySem.W.typeIn K (.ref C) = some (.type "type")
section
variable {P : Program} {w : World} {K : PySem.W.Frag} {mg : Str → Option Value} {base : Heap}
theorem okf {x qual : Str} {st : Stmt} {N ps : List Str} {k : Nat} {sp : Sp} (D : Def K mg x qual st ps) (S : FnScope N ps (defScope st)) (len : ∀ vs H Q E, sp vs H Q E → vs.length = ps.length)
    (hbody : ∀ (f : Addr) (cdv : Value) (A : Around) (outer : List Env) (s : Shared) (H : Hp) (vs : List V) (Q : VK) (E : XK), Room k (A.deeper (envOfC qual (defScope st) s.heap.objs.size f cdv)) → sp vs H Q E →
      ∃ t, PSs (cxOf (L2.CX P w) P w K mg base N qual (defScope st) f cdv A outer s H E) (defBody st) t ∧ t { nx := fun _ H' => Q .non H', rt := Q } (start N vs) H) : OkF P w K mg base x (k + 1) ps sp := by
  obtain ⟨f, fd, hm, F, hb⟩ := D
  exact ⟨f, fd, hm, F.kp, hb, F.okX S len (fun cdv A outer s H vs Q E hr h => hbody f cdv A outer s H vs Q E hr h)⟩
theorem OkF.mono {x : Str} {j k : Nat} {ps : List Str} {sp : Sp} (F : OkF P w K mg base x j ps sp) (h : j ≤ k) : OkF P w K mg base x k ps sp := by
  obtain ⟨f, fd, hm, hk, hb, G⟩ := F
  exact ⟨f, fd, hm, hk, hb, G.mono h⟩
end
/-- a thing, and the whole number that it is (no truth value is one) -/
inductive Thg (K : PySem.W.Frag) (H : Hp) : V → Option Int → Prop where
  | int (i : Int) : Thg K H (.int i) (some i)
  | bl (b : Bool) : Thg K H (.bl b) none
  | oth {x : V} {t : Value} (ty : TyX K H x t) (ni : PySem.W.kitOne K t (.type "int") = some false) : Thg K H x none
theorem Thg.non {K : PySem.W.Frag} {H : Hp} : Thg K H .non none := .oth (.base .non) (kit_ty (by decide +kernel))
theorem Thg.str {K : PySem.W.Frag} {H : Hp} (x : Str) : Thg K H (.str x) none := .oth (.base (.str x)) (kit_ty (by decide +kernel))
theorem Thg.lst {K : PySem.W.Frag} {H : Hp} {a : Addr} {xs : List V} (e : H a = some (.lst xs)) : Thg K H (.ref a) none := .oth (.base (.lst e)) (kit_ty (by decide +kernel))
theorem Thg.tup {K : PySem.W.Frag} {H : Hp} {a : Addr} {xs : List V} (e : H a = some (.tup xs)) : Thg K H (.ref a) none := .oth (.base (.tup e)) (kit_ty (by decide +kernel))
theorem Thg.dK {K : PySem.W.Frag} {H : Hp} {a : Addr} {xs : List (Key × V)} (e : H a = some (.dK xs)) : Thg K H (.ref a) none := .oth (.base (.dK e)) (kit_ty (by decide +kernel))
theorem tyOf_same {K : PySem.W.Frag} {H H' : Hp} {x : V} {t : Value} (e : Same H H') (h : TyOf K H x t) : TyOf K H' x t := by
  cases h with
  | non => exact .non
  | bl b => exact .bl b
  | int i => exact .int i
  | str z => exact .str z
  | flt z => exact .flt z
  | lst q => exact .lst (e _ _ q)
  | frz q => exact .frz (e _ _ q)
  | tup q => exact .tup (e _ _ q)
  | dK q => exact .dK (e _ _ q)
  | dT q => exact .dT (e _ _ q)
  | ins q cl ha hn htk hm => exact .ins (e _ _ q) cl ha hn htk hm
theorem tyX_same {K : PySem.W.Frag} {H H' : Hp} {x : V} {t : Value} (e : Same H H') (h : TyX K H x t) : TyX K H' x t := by
  cases h with
  | base b => exact .base (tyOf_same e b)
  | byt b => exact .byt b
  | set q => exact .set (e _ _ q)
  | kList q c => exact .kList q c
  | kTuple q c => exact .kTuple q c
  | kDict q c => exact .kDict q c
  | fTuple q => exact .fTuple (e _ _ q)
  | fDict q => exact .fDict (e _ _ q)
theorem Thg.same {K : PySem.W.Frag} {H H' : Hp} {x : V} {o : Option Int} (e : Same H H') (h : Thg K H x o) : Thg K H' x o := by
  cases h with
  | int i => exact .int i
  | bl b => exact .bl b
  | oth ty ni => exact .oth (tyX_same e ty) ni
theorem pick {α : Type} {P : α → Prop} {xs : List α} (h : ∀ x ∈ xs, P x) {j : Nat} (hj : j < xs.length) : ∃ x, xs[j]? = some x ∧ P x := ⟨xs[j], List.getElem?_eq_getElem hj, h _ (List.getElem_mem hj)⟩
def among (o : Option Int) (lo hi : Int) : Bool := match o with
  | some i => decide (lo ≤ i) && decide (i ≤ hi)
  | none => false
def whole (o : Option Int) : Bool := o.isSome
/-- a new list, a new tuple: what stood stands, and it is there -/
def RetL (H : Hp) (xs : List V) (Q : VK) : Prop := ∀ p H', H p = none → Same H H' → H' p = some (.lst xs) → Q (.ref p) H'
def RetT (H : Hp) (xs : List V) (Q : VK) : Prop := ∀ p H', H p = none → Same H H' → H' p = some (.tup xs) → Q (.ref p) H'
theorem Same.new {H : Hp} {p : Addr} {o : HO} (h : H p = none) : Same H (upd H p o) := fun a u e => by
  rw [upd_ne (ne_of_none e h)]
  exact e
theorem Same.mut {H H' : Hp} {p : Addr} {o : HO} (e : Same H H') (h : H p = none) : Same H (upd H' p o) := fun a u ha => by
  rw [upd_ne (ne_of_none ha h)]
  exact e a u ha
theorem get_map {α β : Type} {f : α → β} {xs : List α} {i : Nat} {y : β} (h : (xs.map f)[i]? = some y) : ∃ x, xs[i]? = some x ∧ y = f x := by
  rw [List.getElem?_map] at h
  cases e : xs[i]? with
  | none =>
    rw [e] at h
    cases h
  | some x =>
    rw [e] at h
    exact ⟨x, rfl, (Option.some.inj h).symm⟩
theorem take_succ {α : Type} {l : List α} {i : Nat} {x : α} (h : l[i]? = some x) : l.take (i + 1) = l.take i ++ [x] := by
  rw [List.take_add_one, h] <;> rfl
theorem at_map {xs : List Int} {z : Int} {j : Nat} {v : Int} (e : z = (j : Int)) (h : xs[j]? = some v) : atI (xs.map V.int) z = some (V.int v) := by
  rw [e]
  refine atI_nat ?_
  rw [List.getElem?_map, h] <;> rfl
theorem sz5 {n : Nat} (h : n ≤ 100000) : n ≤ sizeLine := Nat.le_trans h (by decide)
theorem sz5' {n : Nat} (h : n < 100000) : n < sizeLine := Nat.lt_of_lt_of_le h (by decide)
theorem cx0_no {P : Program} {w : World} {H : Hp} {s : Shared} {e : Value} {s' : Shared} (h : L2.CX P w [] H s (fun _ _ _ => False) e s') : False := by
  obtain ⟨_, _, _, _, _, _, _, _, _, _, _, _, z⟩ := h
  exact z.elim
/-- the law's: a list of at most 63 whole numbers is handed in, True comes out -/
def sp_law (K : PySem.W.Frag) : Sp := fun vs H Q _ => ∃ (a : Addr) (ns : List Int), vs = [.ref a] ∧ SqL K H a (ns.map V.int) ∧ ns.length ≤ 63 ∧ ∀ H', Q (.bl true) H'
theorem law_true {K : PySem.W.Frag} {H : Hp} {a : Addr} {ns : List Int} (hS : SqL K H a (ns.map V.int)) (hl : ns.length ≤ 63) : sp_law K [.ref a] H (fun v _ => v = .bl true) (fun _ _ _ => False) := ⟨a, ns, rfl, hS, hl, fun _ => rfl⟩
/-- a remainder as a natural number -/
theorem rem_nat {z m : Int} (hm : 0 < m) : ∃ s : Nat, (s : Int) < m ∧ z % m = (s : Int) := by
  have h1 := Int.emod_nonneg z (show m ≠ 0 by omega)
  have h2 := Int.emod_lt_of_pos z hm
  exact ⟨(z % m).toNat, by omega, by omega⟩
end BM

/-! ## Data that is compared -/
namespace BM
open PySem PySem.Spec PyProof.Rows L2
def Sh (n : Nat) (d : PyData) : Prop := d.canLay0 = true ∧ d.depth ≤ n
theorem canAll : ∀ {ds : List PyData}, (∀ d ∈ ds, d.canLay0 = true) → PyData.canLayAll0 ds = true
  | [], _ => rfl
  | d :: r, h => by
    have h1 := h d List.mem_cons_self
    have h2 := canAll (ds := r) fun e he => h e (List.mem_cons_of_mem _ he)
    simp [PyData.canLayAll0, h1, h2]
theorem depAll {n : Nat} : ∀ {ds : List PyData}, (∀ d ∈ ds, d.depth ≤ n) → PyData.depthAll ds ≤ n
  | [], _ => by
    show 0 ≤ n
    omega
  | d :: r, h => by
    have h1 := h d List.mem_cons_self
    have h2 := depAll (ds := r) fun e he => h e (List.mem_cons_of_mem _ he)
    show max d.depth (PyData.depthAll r) ≤ n
    omega
theorem Sh.non {n : Nat} : Sh n .none := ⟨rfl, Nat.zero_le _⟩
theorem Sh.bl {n : Nat} (b : Bool) : Sh n (.bool b) := ⟨rfl, Nat.zero_le _⟩
theorem Sh.int {n : Nat} (i : Int) : Sh n (.int i) := ⟨rfl, Nat.zero_le _⟩
theorem Sh.str {n : Nat} {x : Str} (h : (PyData.str x).canLay0 = true) : Sh n (.str x) := ⟨h, Nat.zero_le _⟩
theorem Sh.lst {n : Nat} {ds : List PyData} (h : ∀ d ∈ ds, Sh n d) : Sh (n + 1) (.list ds) :=
  ⟨canAll fun d hd => (h d hd).1, by
    have := depAll fun d hd => (h d hd).2
    show PyData.depthAll ds + 1 ≤ n + 1
    omega⟩
theorem Sh.tup {n : Nat} {ds : List PyData} (h : ∀ d ∈ ds, Sh n d) : Sh (n + 1) (.tuple ds) :=
  ⟨canAll fun d hd => (h d hd).1, by
    have := depAll fun d hd => (h d hd).2
    show PyData.depthAll ds + 1 ≤ n + 1
    omega⟩
theorem Sh.shaped {n : Nat} {d : PyData} (h : Sh n d) (hn : n ≤ 64) : SeqAt.shaped d = true := by
  unfold SeqAt.shaped
  rw [h.1, Bool.true_and]
  exact decide_eq_true (Nat.le_trans h.2 hn)
theorem Sh.refl {n : Nat} {d : PyData} (h : Sh n d) : PyData.eqv d d = true := SeqAt.eqv_refl d h.1
theorem sh_ints {n : Nat} (ns : List Int) : Sh (n + 1) (.list (ns.map PyData.int)) := .lst fun d hd => by
  obtain ⟨i, _, rfl⟩ := List.mem_map.mp hd
  exact .int i
/-- values paired with data, by place -/
theorem dp_all {K : PySem.W.Frag} {H : Hp} : ∀ {vs : List V} {ds : List PyData}, vs.length = ds.length → (∀ (i : Nat) (v : V) (d : PyData), vs[i]? = some v → ds[i]? = some d → Dp K H v d) → DpAll K H vs ds
  | [], [], _, _ => .nil
  | [], _ :: _, h, _ => by simp at h
  | _ :: _, [], h, _ => by simp at h
  | v :: vs, d :: ds, h, k => .cons (k 0 v d rfl rfl) (dp_all (by simpa using h) fun i w e hw he => k (i + 1) w e hw he)
theorem dp_ints {K : PySem.W.Frag} {H : Hp} : ∀ ns : List Int, DpAll K H (ns.map V.int) (ns.map PyData.int)
  | [] => .nil
  | i :: r => .cons (.int i) (dp_ints r)
theorem atI_end {α : Type} {xs : List α} {v : α} (h : xs[xs.length - 1]? = some v) : atI xs (-1) = some v := by
  obtain ⟨hl, e⟩ := List.getElem?_eq_some_iff.mp h
  unfold atI ixN
  rw [if_neg (by decide), if_pos (by omega)]
  have e1 : ((-1 : Int) + (xs.length : Int)).toNat = xs.length - 1 := by omega
  rw [e1]
  exact h
def rListOf (K : PySem.W.Frag) : List V → Hp → VK → Prop := fun xs H Q => ∃ p ys, xs = [.ref p] ∧ (SqL K H p ys ∨ SqT K H p ys) ∧ ∀ l, H l = none → Q (.ref l) (upd H l (.lst ys))
end BM

/-! ## A def that is called with the caught error, in the suite that holds it: nothing leaves it -/
namespace BM
open PySem PySem.Spec PyProof.Rows L2
abbrev SpE := Addr → Value → Option Addr → List V → Hp → VK → Prop
structure FnE (P : Program) (w : World) (K : PySem.W.Frag) (mg : Str → Option Value) (base : Heap) (k : Nat) (f : Addr) (fd : FuncData) (ps : List Str) (sp : SpE) : Prop where
  len : ∀ a c d vs H Q, sp a c d vs H Q → vs.length = ps.length
  go : ∀ (A : Around) (outer : List Env) (s : Shared) (H : Hp) (args : Args) (us : List Value) (vs : List V) (Q : VK) (p : Addr × Obj) (c : Value) (d : Option Addr), Zc c d p.2 → (∃ ws, p.2.data = .fields ws) →
    L2H.RoomH k A → L2H.PinOk outer H s p → Env0 P w K mg base A outer s H → BindsTo s fd args (ps.zip us) → Vals vs us → sp p.1 c d vs H Q → codeAny (model P w) A (.call (.ref f) args) (CR CX0 outer P w H s Q E0) s
theorem cells_ok {scope : Scope} {n : Nat} {ps : List Str} {us : List Value} (par : ∀ x ∈ ps, scope.names.lookup x = some .local ∨ scope.names.lookup x = some .cell) :
    ∀ y ∈ ps.zip us, scope.names.lookup y.1 = some .local ∨ (scope.names.lookup y.1 = some .cell ∧ ((cellsFrom n scope.names []).lookup y.1).isSome = true) := by
  intro y hy
  obtain ⟨x, v⟩ := y
  have hx := par x (List.of_mem_zip hy).1
  cases hx with
  | inl q => exact Or.inl q
  | inr q => exact Or.inr ⟨q, PySem.W.cellsFrom_some _ _ _ (Or.inl q)⟩
theorem fn_ofE {P : Program} {w : World} {K : PySem.W.Frag} {mg : Str → Option Value} {base : Heap} {k : Nat} {x qual : Str} {st : Stmt} {f : Addr} {fd : FuncData} {N ps : List Str} {sp : SpE}
    (F : Fun K x qual st f fd) (S : FnScope N ps (defScope st)) (len : ∀ a c d vs H Q, sp a c d vs H Q → vs.length = ps.length)
    (body : ∀ (cdv : Value) (A : Around) (outer : List Env) (s : Shared) (H : Hp) (vs : List V) (Q : VK) (p : Addr × Obj) (c : Value) (d : Option Addr), Zc c d p.2 → (∃ ws, p.2.data = .fields ws) →
      L2H.RoomH k (A.deeper (envOfC qual (defScope st) s.heap.objs.size f cdv)) → sp p.1 c d vs H Q →
      ∃ t, PSs (L2H.cxH CX0 P w K mg base N qual (defScope st) f cdv A outer s H E0 p) (defBody st) t ∧ t { nx := fun _ H' => Q .non H', rt := Q } (L2.start N vs) H) :
    FnE P w K mg base (k + 1) f fd ps sp := by
  obtain ⟨oc, od, kV, doc, pm, an, cdv, ct, osl, e0, lk, hcd⟩ := F.ex
  subst e0
  refine ⟨len, ?_⟩
  intro A outer s H args us vs Q p c d hz hf hr hpin ev hb r hsp
  have hl := len _ _ _ _ _ _ hsp
  have kin : K.In s.heap := ev.mod.kin.keeps (fun b o q => (ev.bs b o q).1)
  have nol : s.heap.NoLimit := ev.mod.nolimit.keeps (fun b o q => (ev.bs b o q).1)
  refine codeAny_call_function hr.depth (kin _ _ lk) rfl S.co S.gen rfl
    (PySem.W.codeRec_of kin hcd) (hb _ _ _ _ ?_)
  refine wpAny_newFunctionEnv_cells S.kind (cells_ok S.par)
    fun env he t1 y => ?_
  cases he
  refine ⟨nol.keeps y.toInCall.keep, codeAny_func ?_⟩
  obtain ⟨t, ht, hq⟩ := body cdv A outer s H vs Q p c d hz hf (hr.deeper _) hsp
  have I := L2H.inv_startH (CX := CX0) (E := E0) S hpin ev hl r y
  refine wpAny_mono (ht.run [] t1 _ H _ I hq) (fun fl s' hs => ?_) (fun _ _ z => z)
  match fl, hs with
  | .ret u, hs =>
    obtain ⟨v, σ', H', J, rv, q⟩ := hs
    exact ⟨v, H', J.os, J.bare, J.base, J.hok, rv, q⟩
  | .next, hs =>
    obtain ⟨σ', H', J, q⟩ := hs
    exact ⟨V.non, H', J.os, J.bare, J.base, J.hok, rfl, q⟩
  | .brk, hs =>
    obtain ⟨_, _, _, q⟩ := hs
    exact q.elim
  | .cont, hs =>
    obtain ⟨_, _, _, q⟩ := hs
    exact q.elim
section
variable {X : Cx}
/-- the call, from the suite -/
theorem pe_hotE {k : Nat} {f a : Addr} {fd : FuncData} {ps : List Str} {sp : SpE} {x : Str} {q pos : Pos} {e : Expr} {es : List Expr} {t : TA} {oe : Obj} {c : Value} {d : Option Addr} {pn : List (Addr × Obj)}
    (F : FnE X.prog X.w X.K X.mg X.base k f fd ps sp) (hr : Room k X.A) (hz : Zc c d oe) (hf : ∃ ws, oe.data = .fields ws) (hg : Gl X x) (hm : X.mg x = some (.ref f)) (hk : PySem.W.keepIn X.K (.ref f) = true) (hb : Binds X.K fd ps [])
    (ha : PA (X.suite a ((a, oe) :: pn)) (e :: es) t) (hdb : (x == ("__debug__" : Str)) = false := by decide) (he : starEach (e :: es) X.env = (false, eval e X.env) :: starEach es X.env := by rfl) (hpl : (backTo pos (starEach es X.env)).any (·.1) = false := by rfl) :
    PE (X.suite a ((a, oe) :: pn)) (.Call (.Name x q) (e :: es) [] pos) (fun σ H Q => t σ H fun vs H1 => sp a c d vs H1 Q) := by
  refine ⟨fun pins s σ H Q I h => ?_⟩
  refine wpAny_Call_Name_kw (ld_glob I hg hm ?_ hdb)
  refine PySem.W.callWith_K (h₀ := X.base) I.ok.mod.kin hk (thn (ha.run pos pins s σ H _ I h) ?_) he hpl
  intro us s1 ⟨vs, H1, I1, r, hs⟩
  refine ⟨I1.kIn, ?_⟩
  have hl : us.length = ps.length := by
    rw [← r.length]
    exact F.len _ _ _ _ _ _ hs
  have b := hb s1 us I1.kIn (by rw [List.append_nil]; exact hl)
  rw [List.append_nil] at b
  have P1 := I1.pin (a, oe) (List.mem_append_left _ List.mem_cons_self)
  have hpin : L2H.PinOk X.stack H1 s1 (a, oe) := ⟨P1.1, P1.2.1, fun z => (List.mem_cons.mp (I1.stkSub a z)).elim P1.2.2.1 P1.2.2.2.1, P1.2.2.2.2⟩
  have hr' : L2H.RoomH k (X.suite a ((a, oe) :: pn)).A := ⟨hr.dp, hr.un⟩
  refine wpAny_call (codeAny_mono (F.go _ X.stack s1 H1 ⟨us, []⟩ us vs Q (a, oe) c d hz hf hr' hpin I1.env0 b r hs) ?_)
  intro res s' hq
  match res, hq with
  | .error e, hq => exact hq.elim
  | .ok (.ret u), hq => exact I1.after hq
  | .ok .next, hq => exact hq.elim
  | .ok .brk, hq => exact hq.elim
  | .ok .cont, hq => exact hq.elim
/-- isinstance(e, C), e the pinned error -/
def rIsP (K : PySem.W.Frag) (a : Addr) (cls : Value) (d : Option Addr) : List V → Hp → VK → Prop := fun xs H Q => ∃ (D : Addr) (c : V) (cv : Value) (b : Bool), cls = .ref D ∧ d = none ∧ ExcC K D ∧ xs = [.ref a, c] ∧ (∀ u, RelV c u → u = cv) ∧ PySem.W.kitOne K (.ref D) cv = some b ∧ Q (.bl b) H
theorem call_isP {p : Addr × Obj} {cls : Value} {d : Option Addr} (hp : p ∈ X.pn) (hz : Zc cls d p.2) (hf : ∃ ws, p.2.data = .fields ws) : CallR X (.builtin "isinstance") (rIsP X.K p.1 cls d) := by
  intro pins s σ H xs us Q I r h
  obtain ⟨D, c, cv, b, rfl, rfl, C, rfl, hcv, e, q⟩ := h
  match us, r with
  | [_, u2], .cons rx (.cons rt .nil) =>
    cases rx
    have ec : u2 = cv := hcv _ rt
    cases ec
    obtain ⟨hget, _⟩ := I.pin p (List.mem_append.mpr (Or.inl hp))
    obtain ⟨ws, hv⟩ := hf
    have J : PySem.W.InstAt s.heap p.1 p.2 D none := by
      obtain ⟨pa, ⟨oc, od, oda, osl⟩⟩ := p
      obtain ⟨g1, g2⟩ := hz
      dsimp only at g1 g2 hv
      cases g1
      cases g2
      cases hv
      exact ⟨hget, rfl, rfl, trivial⟩
    refine PySem.W.kia_one (PySem.W.handS_kitx_exc C.hg C.hk C.hs C.hd C.ha C.hn C.ht C.hm) I.kIn J e (fun z => nomatch z) ?_
    intro tk
    exact ⟨.bl b, H, I.kept (t' := tk) (fun _ _ z => z), rfl, q⟩
theorem countP_vals {y : V} : ∀ {ys : List V} {us : List Value}, Vals ys us → ys.all flatV = true → us.countP (eqU y) = ys.countP fun z => eqV z y
  | _, _, .nil, _ => rfl
  | z :: zs, u :: us, .cons r t, f => by
    rw [List.all_cons, Bool.and_eq_true] at f
    rw [List.countP_cons, List.countP_cons, countP_vals t f.2, eqU_of r f.1]
/-- xs.count(y), flat things -/
theorem mt_countV : MtR X "list.count" (fun x xs H Q => ∃ (p : Addr) (ys : List V) (y : V), x = .ref p ∧ xs = [y] ∧ SqL X.K H p ys ∧ flatV y = true ∧ ys.all flatV = true ∧ Q (.int ((ys.countP fun z => eqV z y : Nat) : Int)) H) := by
  intro pins s σ H x xs v us Q I rx rxs h
  obtain ⟨a, ys, y, rfl, rfl, hs, fy, fys, q⟩ := h
  cases rx
  match us, rxs with
  | [uy], .cons ry .nil =>
    obtain ⟨its, rv, ⟨⟨cls, dd, data, sl⟩, n, ho, hc, hdn, hd⟩, hlen⟩ := I.list hs
    cases hc
    cases hd
    refine call_meets PySem.F.slot_list_count ⟨_, ho, rfl⟩ PySem.F.entry_list_count (PySem.F.args_list_count_2 _ _)
      (SeqAt.list_countAt a its.toArray n dd sl uy (eqU y)) ⟨ho, fun u' hu' => mem_eqAt ry fy rv fys u' (by simpa using hu'), ?_⟩
    have ec := countP_vals (y := y) rv fys
    refine ⟨.int ((ys.countP fun z => eqV z y : Nat) : Int), H, I.tok _, ⟨s.toks, ?_⟩, q⟩
    show Value.int ((its.toArray.toList.countP (eqU y) : Nat) : Int) s.toks = _
    rw [← ec]
end
/-! ### the law's own classes of errors -/
def words8 : List Str := ["count", "rule", "deed", "full", "twice", "notkept", "atend", "notwanted"]
/-- the class D is the i-th of the eight -/
structure Kind (K : PySem.W.Frag) (c : Nat → Addr) (D : Addr) (i : Nat) : Prop where
  lt : i < 8
  is : ∀ j, j < 8 → PySem.W.kitOne K (.ref D) (.ref (c j)) = some (decide (j = i))
  ve : PySem.W.kitOne K (.ref D) (.type "ValueError") = some true
  ex : ExcC K D
/-- what the law is told of an error -/
def sp_class (K : PySem.W.Frag) (c : Nat → Addr) : SpE := fun a cls d vs H Q => vs = [.ref a] ∧ ∃ (D : Addr) (i : Nat), cls = .ref D ∧ d = none ∧ Kind K c D i ∧ RetT H [.str "refused", .str (words8.getD i "")] Q
theorem eight {P : Nat → Prop} {i : Nat} (h : i < 8) (h0 : P 0) (h1 : P 1) (h2 : P 2) (h3 : P 3) (h4 : P 4) (h5 : P 5) (h6 : P 6) (h7 : P 7) : P i := by
  match i, h with
  | 0, _ => exact h0
  | 1, _ => exact h1
  | 2, _ => exact h2
  | 3, _ => exact h3
  | 4, _ => exact h4
  | 5, _ => exact h5
  | 6, _ => exact h6
  | 7, _ => exact h7
end BM

/-! ## The tables, in plain Lean -/
namespace BM
open PySem PySem.Spec PyProof.Rows L2
def choStep (m : Nat) (f t : Nat) : Nat := f * (m - t) / (t + 1)
def choN (m c : Nat) : Nat := (List.range c).foldl (choStep m) 1
def waysN (r t : Nat) : Nat := choN (r + t) r
def oftGo (s r : Nat) : Nat → Nat → Nat
  | 0, t => t
  | n + 1, t => if waysN r t ≤ s then oftGo s r n (t + 1) else t
/-- how often -/
def oftN (s r : Nat) : Nat := oftGo s r 101 0
def costN (s r : Nat) : Int := if oftN s r = 0 then 0 else (oftN s r : Int) * ((s : Int) + 1) - (waysN (r + 1) (oftN s r - 1) : Int)
theorem choN_succ (m c : Nat) : choN m (c + 1) = choStep m (choN m c) c := by
  unfold choN
  rw [List.range_succ, List.foldl_append] <;> rfl
theorem ways_far : ∀ r, r < 14 → 1 ≤ r → 100 < waysN r 101 := by decide +kernel
theorem oftGo_le {s r : Nat} : ∀ n t, oftGo s r n t ≤ n + t
  | 0, t => by
    show t ≤ 0 + t
    omega
  | n + 1, t => by
    have h := oftGo_le (s := s) (r := r) n (t + 1)
    show (if waysN r t ≤ s then oftGo s r n (t + 1) else t) ≤ n + 1 + t
    split <;> omega
theorem oftN_le (s r : Nat) : oftN s r ≤ 101 := oftGo_le 101 0
theorem oft_yes {s r n t : Nat} (h : waysN r t ≤ s) : oftGo s r (n + 1) t = oftGo s r n (t + 1) := if_pos h
theorem oft_no {s r n t : Nat} (h : ¬ waysN r t ≤ s) : oftGo s r n t = t := by
  cases n with
  | zero => rfl
  | succ n => exact if_neg h
def goodC (o1 o2 : Option Int) : Bool := among o1 0 100 && among o2 1 12
/-- the best of the marks met so far -/
def bestStep (above found : List Int) (many : Nat) (b : Option Int) (j : Nat) : Option Int :=
  let w := ((j : Int) + 1) + above.getD (many - (j + 1)) 0 + found.getD j 0
  match b with
  | none => some w
  | some v => if w < v then some w else some v
def bestN (above found : List Int) (many : Nat) (j : Nat) : Option Int := (List.range j).foldl (bestStep above found many) none
def nextN (above : List Int) : Nat → List Int
  | 0 => [0]
  | n + 1 => nextN above n ++ [(bestN above (nextN above n) (n + 1) (n + 1)).getD 0]
theorem nextN_len (above : List Int) : ∀ n, (nextN above n).length = n + 1
  | 0 => rfl
  | n + 1 => by
    show (nextN above n ++ [_]).length = n + 1 + 1
    rw [List.length_append, nextN_len above n] <;> rfl
theorem bestN_succ (above found : List Int) (many j : Nat) : bestN above found many (j + 1) = bestStep above found many (bestN above found many j) j := by
  unfold bestN
  rw [List.range_succ, List.foldl_append] <;> rfl
theorem bestStep_some (above found : List Int) (many : Nat) (b : Option Int) (j : Nat) : ∃ v, bestStep above found many b j = some v := by
  unfold bestStep
  cases b with
  | none => exact ⟨_, rfl⟩
  | some v =>
    dsimp only
    split
    · exact ⟨_, rfl⟩
    · exact ⟨_, rfl⟩
def lineOne (n : Nat) : List Int := (List.range (n + 1)).map fun (m : Nat) => ((m : Int) * ((m : Int) + 1)) / 2
def tableN (n : Nat) : Nat → List (List Int)
  | 0 => [lineOne n]
  | r + 1 => tableN n r ++ [nextN ((tableN n r).getLastD []) n]
def oV : Option Int → V
  | none => .non
  | some i => .int i
theorem tableN_len (n : Nat) : ∀ r, (tableN n r).length = r + 1
  | 0 => rfl
  | r + 1 => by
    show (tableN n r ++ [_]).length = r + 1 + 1
    rw [List.length_append, tableN_len n r] <;> rfl
end BM
namespace BM
open PySem PySem.Spec PyProof.Rows L2
def lineK (n : Nat) : Nat → List Int
  | 0 => lineOne n
  | k + 1 => nextN (lineK n k) n
theorem lineK_len (n : Nat) : ∀ k, (lineK n k).length = n + 1
  | 0 => by
    show (lineOne n).length = n + 1
    unfold lineOne
    rw [List.length_map, List.length_range]
  | k + 1 => nextN_len _ n
/-- the rows stand at these places -/
structure Rows (H : Hp) (as : List Addr) (r : Nat) (f : Nat → List Int) : Prop where
  len : as.length = r
  at' : ∀ i a, as[i]? = some a → H a = some (.lst ((f i).map V.int))
def RetRows (H : Hp) (r : Nat) (f : Nat → List Int) (Q : VK) : Prop :=
  ∀ p as H', H p = none → (∀ a ∈ as, H a = none) → Same H H' → H' p = some (.lst (as.map V.ref)) → Rows H' as r f → Q (.ref p) H'
theorem lineOne_take (m : Nat) : (((List.range m).map fun (m : Nat) => ((m : Int) * ((m : Int) + 1)) / 2).map V.int) ++ [V.int (((m : Int) * ((m : Int) + 1)) / 2)] = ((List.range (m + 1)).map fun (m : Nat) => ((m : Int) * ((m : Int) + 1)) / 2).map V.int := by
  rw [List.range_succ, List.map_append, List.map_append] <;> rfl
end BM

/-! ## The least cost: as a greatest of straight lines -/
namespace BM
theorem ways_zero : ∀ r, r < 15 → waysN r 0 = 1 := by decide +kernel
theorem ways_nil : ∀ t, t < 104 → waysN 0 t = 1 := by decide +kernel
theorem pascal' : ((List.range 13).all fun r => (List.range 103).all fun t => waysN (r + 1) (t + 1) == waysN (r + 1) t + waysN r (t + 1)) = true := by decide +kernel
theorem pascal {r t : Nat} (hr : r < 13) (ht : t < 103) : waysN (r + 1) (t + 1) = waysN (r + 1) t + waysN r (t + 1) :=
  eq_of_beq (List.all_eq_true.mp (List.all_eq_true.mp pascal' r (List.mem_range.mpr hr)) t (List.mem_range.mpr ht))
theorem ways_pos : ∀ r t, r < 14 → t < 104 → 1 ≤ waysN r t
  | 0, t, _, ht => by rw [ways_nil t ht]; omega
  | r + 1, 0, hr, _ => by rw [ways_zero (r + 1) (by omega)]; omega
  | r + 1, t + 1, hr, ht => by
    have h := ways_pos (r + 1) t hr (by omega)
    rw [pascal (by omega) (by omega)]
    omega
theorem ways_up {r t : Nat} (hr : r < 13) (ht : t < 103) : waysN (r + 1) t < waysN (r + 1) (t + 1) := by
  have h := ways_pos r (t + 1) (by omega) (by omega)
  rw [pascal hr ht]
  omega
theorem ways_mono {r t : Nat} (h1 : 1 ≤ r) (hr : r < 14) : ∀ d, t + d < 104 → waysN r t + d ≤ waysN r (t + d)
  | 0, _ => Nat.le_refl _
  | d + 1, h => by
    have i := ways_mono (t := t) h1 hr d (by omega)
    obtain ⟨q, rfl⟩ : ∃ q, r = q + 1 := ⟨r - 1, by omega⟩
    have u := ways_up (r := q) (t := t + d) (by omega) (by omega)
    show waysN (q + 1) t + (d + 1) ≤ waysN (q + 1) (t + d + 1)
    omega
theorem ways_lt {r a b : Nat} (h1 : 1 ≤ r) (hr : r < 14) (hb : b < 104) (h : a ≤ b) : waysN r a + (b - a) ≤ waysN r b := by
  have := ways_mono (t := a) h1 hr (b - a) (by omega)
  have e : a + (b - a) = b := by omega
  rw [e] at this
  exact this
theorem ways_ge {r t : Nat} (h1 : 1 ≤ r) (hr : r < 14) (ht : t < 104) : t + 1 ≤ waysN r t := by
  have := ways_lt (a := 0) (b := t) h1 hr ht (Nat.zero_le _)
  rw [ways_zero r (by omega)] at this
  omega
theorem oftGo_spec {s r : Nat} : ∀ n t, (∀ u, u < t → waysN r u ≤ s) → (s < waysN r (n + t)) → (∀ u, u < oftGo s r n t → waysN r u ≤ s) ∧ s < waysN r (oftGo s r n t)
  | 0, t, h, hs => by
    rw [Nat.zero_add] at hs
    exact ⟨h, hs⟩
  | n + 1, t, h, hs => by
    by_cases c : waysN r t ≤ s
    · rw [oft_yes c]
      refine oftGo_spec n (t + 1) (fun u hu => ?_) (by rw [show n + (t + 1) = n + 1 + t by omega]; exact hs)
      by_cases e : u = t
      · rw [e]
        exact c
      · exact h u (by omega)
    · rw [oft_no c]
      exact ⟨h, by omega⟩
theorem oft_spec {s r : Nat} (hs : s ≤ 101) (h1 : 1 ≤ r) (hr : r < 14) : (∀ u, u < oftN s r → waysN r u ≤ s) ∧ s < waysN r (oftN s r) := by
  refine oftGo_spec 101 0 (fun u hu => by omega) ?_
  show s < waysN r 101
  have := ways_ge (t := 101) h1 hr (by omega)
  omega
theorem oft_le {s r : Nat} (hs : s ≤ 101) (h1 : 1 ≤ r) (hr : r < 14) : oftN s r ≤ s := by
  have h := (oft_spec hs h1 hr).1
  by_cases c : oftN s r ≤ s
  · exact c
  · have q := h s (by omega)
    have := ways_ge (t := s) h1 hr (by omega)
    omega
def phi (r s t : Nat) : Int := if t = 0 then 0 else (t : Int) * ((s : Int) + 1) - (waysN (r + 1) (t - 1) : Int)
theorem cost_phi (s r : Nat) : costN s r = phi r s (oftN s r) := rfl
theorem phi_step {r s t : Nat} (hr : r < 13) (ht : t < 103) : phi r s (t + 1) = phi r s t + ((s : Int) + 1) - (waysN r t : Int) := by
  cases t with
  | zero =>
    show (if (0 + 1 : Nat) = 0 then (0 : Int) else ((0 + 1 : Nat) : Int) * ((s : Int) + 1) - (waysN (r + 1) 0 : Int)) = 0 + ((s : Int) + 1) - (waysN r 0 : Int)
    rw [if_neg (by omega), ways_zero (r + 1) (by omega), ways_zero r (by omega)]
    omega
  | succ t =>
    have p := pascal (r := r) (t := t) hr (by omega)
    show (if (t + 1 + 1 : Nat) = 0 then (0 : Int) else ((t + 1 + 1 : Nat) : Int) * ((s : Int) + 1) - (waysN (r + 1) (t + 1) : Int)) = (if (t + 1 : Nat) = 0 then (0 : Int) else ((t + 1 : Nat) : Int) * ((s : Int) + 1) - (waysN (r + 1) t : Int)) + ((s : Int) + 1) - (waysN r (t + 1) : Int)
    rw [if_neg (by omega), if_neg (by omega), p]
    have e : ((t + 1 + 1 : Nat) : Int) * ((s : Int) + 1) = ((t + 1 : Nat) : Int) * ((s : Int) + 1) + ((s : Int) + 1) := by
      rw [Int.natCast_add (t + 1) 1, Int.add_mul]
      show _ + (1 : Int) * _ = _
      rw [Int.one_mul]
    rw [e, Int.natCast_add]
    omega
/-- the least cost is the greatest of the lines -/
theorem phi_le {r s t : Nat} (hs : s ≤ 101) (h1 : 1 ≤ r) (hr : r < 13) (ht : t ≤ 103) : phi r s t ≤ costN s r := by
  obtain ⟨a, b⟩ := oft_spec (s := s) (r := r) hs h1 (by omega)
  have o := oft_le (s := s) (r := r) hs h1 (by omega)
  rw [cost_phi]
  have up : ∀ d, d ≤ oftN s r → phi r s (oftN s r - d) ≤ phi r s (oftN s r) := by
    intro d
    induction d with
    | zero => intro _; exact Int.le_refl _
    | succ d ih =>
      intro hd
      have i := ih (by omega)
      have st := phi_step (r := r) (s := s) (t := oftN s r - (d + 1)) (by omega) (by omega)
      have w := a (oftN s r - (d + 1)) (by omega)
      have e : oftN s r - (d + 1) + 1 = oftN s r - d := by omega
      rw [e] at st
      omega
  have down : ∀ d, oftN s r + d ≤ 103 → phi r s (oftN s r + d) ≤ phi r s (oftN s r) := by
    intro d
    induction d with
    | zero => intro _; exact Int.le_refl _
    | succ d ih =>
      intro hd
      have i := ih (by omega)
      have st := phi_step (r := r) (s := s) (t := oftN s r + d) (by omega) (by omega)
      have w := ways_lt (r := r) (a := oftN s r) (b := oftN s r + d) h1 (by omega) (by omega) (by omega)
      rw [show oftN s r + (d + 1) = oftN s r + d + 1 by omega]
      omega
  by_cases c : t ≤ oftN s r
  · have := up (oftN s r - t) (by omega)
    rw [show oftN s r - (oftN s r - t) = t by omega] at this
    exact this
  · have := down (t - oftN s r) (by omega)
    rw [show oftN s r + (t - oftN s r) = t by omega] at this
    exact this
theorem cost_nonneg {s r : Nat} (hs : s ≤ 101) (h1 : 1 ≤ r) (hr : r < 13) : 0 ≤ costN s r := phi_le (t := 0) hs h1 hr (by omega)
/-- no mark does better -/
theorem cost_mark {s r m : Nat} (hs : s ≤ 101) (h1 : 1 ≤ r) (hr : r < 12) (hm : 1 ≤ m) (hms : m ≤ s) : costN s (r + 1) ≤ (m : Int) + costN (s - m) r + costN (m - 1) (r + 1) := by
  rw [cost_phi s (r + 1)]
  have o := oft_le (s := s) (r := r + 1) hs (by omega) (by omega)
  cases e : oftN s (r + 1) with
  | zero =>
    have a := cost_nonneg (s := s - m) (r := r) (by omega) h1 (by omega)
    have b := cost_nonneg (s := m - 1) (r := r + 1) (by omega) (by omega) (by omega)
    show (0 : Int) ≤ _
    omega
  | succ t =>
    rw [e] at o
    have a := phi_le (s := s - m) (r := r) (t := t + 1) (by omega) h1 (by omega) (by omega)
    have b := phi_le (s := m - 1) (r := r + 1) (t := t) (by omega) (by omega) (by omega) (by omega)
    have e1 : phi (r + 1) s (t + 1) = ((t + 1 : Nat) : Int) * ((s : Int) + 1) - (waysN (r + 1 + 1) t : Int) := by
      show (if (t + 1 : Nat) = 0 then (0 : Int) else _) = _
      rw [if_neg (by omega)] <;> rfl
    have e2 : phi r (s - m) (t + 1) = ((t + 1 : Nat) : Int) * (((s - m : Nat) : Int) + 1) - (waysN (r + 1) t : Int) := by
      show (if (t + 1 : Nat) = 0 then (0 : Int) else _) = _
      rw [if_neg (by omega)] <;> rfl
    have q1 : ((t + 1 : Nat) : Int) * (((s - m : Nat) : Int) + 1) + ((t + 1 : Nat) : Int) * (m : Int) = ((t + 1 : Nat) : Int) * ((s : Int) + 1) := by
      rw [← Int.mul_add]
      congr 1
      omega
    have e3 : phi (r + 1) (m - 1) t = (t : Int) * (m : Int) - (if t = 0 then 0 else (waysN (r + 1 + 1) (t - 1) : Int)) := by
      show (if t = 0 then (0 : Int) else (t : Int) * (((m - 1 : Nat) : Int) + 1) - _) = _
      by_cases c : t = 0
      · rw [if_pos c, if_pos c, c]
        show (0 : Int) = 0 * (m : Int) - 0
        rw [Int.zero_mul] <;> rfl
      · rw [if_neg c, if_neg c, show (((m - 1 : Nat) : Int) + 1) = (m : Int) by omega]
    have q2 : ((t + 1 : Nat) : Int) * (m : Int) = (t : Int) * (m : Int) + (m : Int) := by
      rw [Int.natCast_add t 1, Int.add_mul]
      show _ + (1 : Int) * _ = _
      rw [Int.one_mul]
    have p : (waysN (r + 1 + 1) t : Int) = (if t = 0 then 0 else (waysN (r + 1 + 1) (t - 1) : Int)) + (waysN (r + 1) t : Int) := by
      cases t with
      | zero =>
        rw [if_pos rfl, ways_zero (r + 1 + 1) (by omega), ways_zero (r + 1) (by omega)] <;> rfl
      | succ t =>
        rw [if_neg (by omega), pascal (r := r + 1) (t := t) (by omega) (by omega), Int.natCast_add] <;> rfl
    omega
/-- one room more never costs more -/
theorem cost_room {s r : Nat} (hs : s ≤ 101) (h1 : 1 ≤ r) (hr : r < 12) : costN s (r + 1) ≤ costN s r := by
  rw [cost_phi s (r + 1)]
  have o := oft_le (s := s) (r := r + 1) hs (by omega) (by omega)
  refine Int.le_trans ?_ (phi_le (t := oftN s (r + 1)) hs h1 (by omega) (by omega))
  unfold phi
  by_cases c : oftN s (r + 1) = 0
  · rw [if_pos c, if_pos c]
    exact Int.le_refl _
  · rw [if_neg c, if_neg c]
    have : waysN (r + 1) (oftN s (r + 1) - 1) ≤ waysN (r + 1 + 1) (oftN s (r + 1) - 1) := by
      have hu : oftN s (r + 1) - 1 < 103 := by omega
      generalize oftN s (r + 1) - 1 = u at hu ⊢
      cases u with
      | zero => rw [ways_zero (r + 1) (by omega), ways_zero (r + 1 + 1) (by omega)]; omega
      | succ t =>
        rw [pascal (r := r + 1) (t := t) (by omega) (by omega)]
        omega
    omega
end BM

/-! ## The table's lines tell the least cost -/
namespace BM
def markN (s r : Nat) : Nat := min (waysN r (oftN s r - 1)) (s + 1 - waysN (r - 1) (oftN s r - 1))
def markOk (s r : Nat) : Bool := s == 0 || (decide (1 ≤ markN s (r + 1)) && decide (markN s (r + 1) ≤ s) && decide (costN s (r + 1) = (markN s (r + 1) : Int) + costN (s - markN s (r + 1)) r + costN (markN s (r + 1) - 1) (r + 1)))
theorem markOk1 : ((List.range 101).all fun s => (List.range 2).all fun r => markOk s (r + 1)) = true := by decide +kernel
theorem markOk2 : ((List.range 101).all fun s => (List.range 4).all fun r => markOk s (r + 3)) = true := by decide +kernel
theorem markOk3 : ((List.range 101).all fun s => (List.range 5).all fun r => markOk s (r + 7)) = true := by decide +kernel
theorem mark_ok {s r : Nat} (hs : s ≤ 100) (h0 : 1 ≤ s) (h1 : 1 ≤ r) (hr : r < 12) : 1 ≤ markN s (r + 1) ∧ markN s (r + 1) ≤ s ∧ costN s (r + 1) = (markN s (r + 1) : Int) + costN (s - markN s (r + 1)) r + costN (markN s (r + 1) - 1) (r + 1) := by
  have h : markOk s r = true := by
    by_cases c : r < 3
    · have := List.all_eq_true.mp (List.all_eq_true.mp markOk1 s (List.mem_range.mpr (by omega))) (r - 1) (List.mem_range.mpr (by omega))
      rw [show r - 1 + 1 = r by omega] at this
      exact this
    · by_cases c2 : r < 7
      · have := List.all_eq_true.mp (List.all_eq_true.mp markOk2 s (List.mem_range.mpr (by omega))) (r - 3) (List.mem_range.mpr (by omega))
        rw [show r - 3 + 3 = r by omega] at this
        exact this
      · have := List.all_eq_true.mp (List.all_eq_true.mp markOk3 s (List.mem_range.mpr (by omega))) (r - 7) (List.mem_range.mpr (by omega))
        rw [show r - 7 + 7 = r by omega] at this
        exact this
  unfold markOk at h
  rw [Bool.or_eq_true] at h
  rcases h with h | h
  · have := eq_of_beq h
    omega
  · simp only [Bool.and_eq_true, decide_eq_true_eq] at h
    exact ⟨h.1.1, h.1.2, h.2⟩
theorem one_ok : ((List.range 101).all fun s => decide (costN s 1 = ((s : Int) * ((s : Int) + 1)) / 2)) = true := by decide +kernel
theorem cost_one {s : Nat} (hs : s ≤ 100) : costN s 1 = ((s : Int) * ((s : Int) + 1)) / 2 :=
  of_decide_eq_true (List.all_eq_true.mp one_ok s (List.mem_range.mpr (by omega)))
theorem best_min {above found : List Int} {many : Nat} {w : Nat → Int} (hw : ∀ j, j < many → ((j : Int) + 1) + above.getD (many - (j + 1)) 0 + found.getD j 0 = w j) :
    ∀ j, j ≤ many → (bestN above found many j = none ∧ j = 0) ∨ ∃ v, bestN above found many j = some v ∧ (∃ i, i < j ∧ v = w i) ∧ ∀ i, i < j → v ≤ w i
  | 0, _ => .inl ⟨rfl, rfl⟩
  | j + 1, h => by
    have e := bestN_succ above found many j
    have ew := hw j (by omega)
    have st : ∀ b, bestStep above found many b j = match b with | none => some (w j) | some v => if w j < v then some (w j) else some v := by
      intro b
      unfold bestStep
      rw [ew]
    rw [st] at e
    rcases best_min hw j (by omega) with ⟨h0, rfl⟩ | ⟨v, hv, ⟨i, hi, hvi⟩, hm⟩
    · rw [h0] at e
      refine .inr ⟨w 0, e, ⟨0, by omega, rfl⟩, fun i hi => ?_⟩
      rw [show i = 0 by omega]
      exact Int.le_refl _
    · rw [hv] at e
      by_cases c : w j < v
      · have e' : bestN above found many (j + 1) = some (w j) := e.trans (if_pos c)
        refine .inr ⟨w j, e', ⟨j, by omega, rfl⟩, fun i' hi' => ?_⟩
        by_cases q : i' = j
        · rw [q]
          exact Int.le_refl _
        · have := hm i' (by omega)
          omega
      · have e' : bestN above found many (j + 1) = some v := e.trans (if_neg c)
        refine .inr ⟨v, e', ⟨i, by omega, hvi⟩, fun i' hi' => ?_⟩
        by_cases q : i' = j
        · rw [q]
          omega
        · exact hm i' (by omega)
def lineC (n r : Nat) : List Int := (List.range (n + 1)).map fun m => costN m r
theorem lineC_get {n r j : Nat} (h : j ≤ n) : (lineC n r).getD j 0 = costN j r := by
  unfold lineC
  rw [List.getD_eq_getElem?_getD, List.getElem?_map, List.getElem?_range (by omega)] <;> rfl
theorem next_line {n r : Nat} (h1 : 1 ≤ r) (hr : r < 12) : ∀ k, k ≤ n → n ≤ 100 → nextN (lineC n r) k = lineC k (r + 1)
  | 0, _, _ => by
    show [(0 : Int)] = [costN 0 (r + 1)]
    have o := oft_le (s := 0) (r := r + 1) (by omega) (by omega) (by omega)
    have e : costN 0 (r + 1) = 0 := by
      unfold costN
      rw [if_pos (by omega)]
    rw [e]
  | k + 1, hk, hn => by
    have ih := next_line h1 hr k (by omega) hn
    have e : lineC (k + 1) (r + 1) = lineC k (r + 1) ++ [costN (k + 1) (r + 1)] := by
      unfold lineC
      rw [List.range_succ (n := k + 1), List.map_append] <;> rfl
    show nextN (lineC n r) k ++ [(bestN (lineC n r) (nextN (lineC n r) k) (k + 1) (k + 1)).getD 0] = _
    rw [ih, e]
    have hw : ∀ j, j < k + 1 → ((j : Int) + 1) + (lineC n r).getD (k + 1 - (j + 1)) 0 + (lineC k (r + 1)).getD j 0 = ((j : Int) + 1) + costN (k + 1 - (j + 1)) r + costN j (r + 1) := fun j hj => by
      rw [lineC_get (by omega), lineC_get (by omega)]
    rcases best_min hw (k + 1) (Nat.le_refl _) with ⟨_, h0⟩ | ⟨v, hv, ⟨i, hi, hvi⟩, hm⟩
    · omega
    · rw [hv]
      obtain ⟨m1, m2, m3⟩ := mark_ok (s := k + 1) (r := r) (by omega) (by omega) h1 hr
      have a := hm (markN (k + 1) (r + 1) - 1) (by omega)
      have b := cost_mark (s := k + 1) (r := r) (m := i + 1) (by omega) h1 hr (by omega) (by omega)
      rw [show markN (k + 1) (r + 1) - 1 + 1 = markN (k + 1) (r + 1) by omega] at a
      rw [show i + 1 - 1 = i by omega] at b
      have ev : v = costN (k + 1) (r + 1) := by omega
      rw [ev] <;> rfl
theorem lineK_eq {n : Nat} (hn : n ≤ 100) : ∀ k, k < 12 → lineK n k = lineC n (k + 1)
  | 0, _ => by
    show lineOne n = lineC n 1
    unfold lineOne lineC
    refine List.map_congr_left fun m hm => ?_
    exact (cost_one (by have := List.mem_range.mp hm; omega)).symm
  | k + 1, hk => by
    show nextN (lineK n k) n = lineC n (k + 1 + 1)
    rw [lineK_eq hn k (by omega)]
    exact next_line (by omega) (by omega) n (Nat.le_refl _) hn
end BM

/-! ## Deeds and plans, in plain Lean -/
namespace BM
inductive Deed where
  | keep | meet | take (p : Nat) | drop (p : Nat) | go (n : Nat)
  deriving DecidableEq
def aPre (start steps : Nat) : Nat → List Deed
  | 0 => []
  | i + 1 => aPre start steps i ++ [.go (steps - i), .meet, .take start]
def againN (start steps : Nat) : List Deed := aPre start steps steps ++ [.meet]
def fromN : Nat → Nat → Nat → Nat → List Deed
  | 0, _, _, _ => []
  | k + 1, start, steps, room => if steps = 0 ∨ room = 1 then againN start steps else
      ([.go (markN steps room), .keep] ++ fromN k (start + markN steps room) (steps - markN steps room) (room - 1) ++ [.drop (start + markN steps room), .take start]) ++ fromN k start (markN steps room - 1) room
def planN (steps room : Nat) : List Deed := if steps = 0 then [.meet] else [.keep] ++ fromN 101 0 steps room
def costD1 : Deed → Nat
  | .go n => n
  | _ => 0
def costD (ds : List Deed) : Nat := (ds.map costD1).sum
def mostStep (s : Int × Int) : Deed → Int × Int
  | .keep => (s.1 + 1, max s.2 (s.1 + 1))
  | .drop _ => (s.1 - 1, max s.2 (s.1 - 1))
  | _ => (s.1, max s.2 s.1)
def mostD (ds : List Deed) : Int := (ds.foldl mostStep (0, 0)).2
/-- a hand with its kept places -/
structure WSt where
  pl : Nat
  mks : List Nat
  wa : Int
  co : Nat
  mo : Nat
  deriving DecidableEq
def stepW (n R : Nat) (s : WSt) : Deed → Option WSt
  | .keep => if s.pl ∉ s.mks ∧ s.mks.length < R then some { s with mks := s.mks ++ [s.pl], mo := max s.mo (s.mks.length + 1) } else none
  | .meet => if (s.pl : Int) = s.wa then some { s with wa := s.wa - 1 } else none
  | .go m => if 0 < m ∧ s.pl + m ≤ n then some { s with pl := s.pl + m, co := s.co + m } else none
  | .take p => if p ∈ s.mks then some { s with pl := p } else none
  | .drop p => if p ∈ s.mks then some { s with mks := s.mks.filter (· ≠ p) } else none
def runW (n R : Nat) : List Deed → WSt → Option WSt
  | [], s => some s
  | d :: ds, s => (stepW n R s d).bind (runW n R ds)
theorem ite_some {α : Type} {c : Prop} [Decidable c] {x u : α} (h : (if c then some x else none) = some u) : c ∧ x = u := by
  by_cases q : c
  · rw [if_pos q] at h
    exact ⟨q, Option.some.inj h⟩
  · rw [if_neg q] at h
    cases h
theorem runW_append (n R : Nat) : ∀ (ds es : List Deed) (s : WSt), runW n R (ds ++ es) s = (runW n R ds s).bind (runW n R es)
  | [], _, _ => rfl
  | d :: ds, es, s => by
    show (stepW n R s d).bind (runW n R (ds ++ es)) = ((stepW n R s d).bind (runW n R ds)).bind (runW n R es)
    cases stepW n R s d with
    | none => rfl
    | some t => exact runW_append n R ds es t
theorem costD_append (ds es : List Deed) : costD (ds ++ es) = costD ds + costD es := by
  unfold costD
  rw [List.map_append, List.sum_append]
theorem runW_cost {n R : Nat} : ∀ {ds : List Deed} {s t : WSt}, runW n R ds s = some t → t.co = s.co + costD ds
  | [], s, t, h => by
    have e : s = t := Option.some.inj h
    rw [e]
    show t.co = t.co + 0
    omega
  | d :: ds, s, t, h => by
    have h : (stepW n R s d).bind (runW n R ds) = some t := h
    cases e : stepW n R s d with
    | none => rw [e] at h; cases h
    | some u =>
      rw [e] at h
      have ih := runW_cost (s := u) h
      have e2 : u.co = s.co + costD1 d := by
        cases d with
        | keep => obtain ⟨_, rfl⟩ := ite_some (α := WSt) e; rfl
        | meet => obtain ⟨_, rfl⟩ := ite_some (α := WSt) e; rfl
        | go m => obtain ⟨_, rfl⟩ := ite_some (α := WSt) e; rfl
        | take p => obtain ⟨_, rfl⟩ := ite_some (α := WSt) e; rfl
        | drop p => obtain ⟨_, rfl⟩ := ite_some (α := WSt) e; rfl
      have e3 : costD (d :: ds) = costD1 d + costD ds := by
        unfold costD
        rw [List.map_cons, List.sum_cons]
      omega
theorem filter_len_drop {p : Nat} : ∀ {l : List Nat}, l.Nodup → p ∈ l → (l.filter (· ≠ p)).length + 1 = l.length
  | [], _, h => by cases h
  | x :: r, hn, h => by
    obtain ⟨h1, h2⟩ := List.nodup_cons.mp hn
    by_cases e : x = p
    · subst e
      have q : r.filter (· ≠ x) = r := List.filter_eq_self.mpr fun y hy => decide_eq_true fun z => h1 (z ▸ hy)
      rw [List.filter_cons, if_neg (by simp), q] <;> rfl
    · have hm : p ∈ r := by
        rcases List.mem_cons.mp h with z | z
        · exact absurd z.symm e
        · exact z
      have ih := filter_len_drop h2 hm
      rw [List.filter_cons, if_pos (decide_eq_true e), List.length_cons, List.length_cons]
      omega
theorem nodup_snoc {l : List Nat} {x : Nat} (h : l.Nodup) (hx : x ∉ l) : (l ++ [x]).Nodup := by
  rw [List.nodup_append]
  refine ⟨h, by simp, ?_⟩
  intro a ha b hb
  rw [List.mem_singleton.mp hb]
  rintro rfl
  exact hx ha
/-- the count of the kept ones goes along -/
theorem runW_most {n R : Nat} : ∀ {ds : List Deed} {s t : WSt} {m : Int × Int}, runW n R ds s = some t → s.mks.Nodup → m.1 = (s.mks.length : Int) → m.2 = (s.mo : Int) → s.mks.length ≤ s.mo → (ds.foldl mostStep m).2 = (t.mo : Int)
  | [], s, t, m, h, _, _, h2, _ => by
    have e : s = t := Option.some.inj h
    rw [← e]
    exact h2
  | d :: ds, s, t, m, h, hn, h1, h2, h3 => by
    have h : (stepW n R s d).bind (runW n R ds) = some t := h
    cases e : stepW n R s d with
    | none => rw [e] at h; cases h
    | some u =>
      rw [e] at h
      have key : u.mks.Nodup ∧ (mostStep m d).1 = (u.mks.length : Int) ∧ (mostStep m d).2 = (u.mo : Int) ∧ u.mks.length ≤ u.mo := by
        cases d with
        | keep =>
          obtain ⟨c, rfl⟩ := ite_some (α := WSt) e
          refine ⟨nodup_snoc hn c.1, ?_, ?_, ?_⟩
          · show m.1 + 1 = ((s.mks ++ [s.pl]).length : Int)
            rw [List.length_append, h1] <;> rfl
          · show max m.2 (m.1 + 1) = ((max s.mo (s.mks.length + 1) : Nat) : Int)
            omega
          · show (s.mks ++ [s.pl]).length ≤ max s.mo (s.mks.length + 1)
            rw [List.length_append]
            show s.mks.length + 1 ≤ _
            omega
        | meet =>
          obtain ⟨c, rfl⟩ := ite_some (α := WSt) e
          refine ⟨hn, h1, ?_, h3⟩
          show max m.2 m.1 = (s.mo : Int)
          omega
        | go k =>
          obtain ⟨c, rfl⟩ := ite_some (α := WSt) e
          refine ⟨hn, h1, ?_, h3⟩
          show max m.2 m.1 = (s.mo : Int)
          omega
        | take p =>
          obtain ⟨c, rfl⟩ := ite_some (α := WSt) e
          refine ⟨hn, h1, ?_, h3⟩
          show max m.2 m.1 = (s.mo : Int)
          omega
        | drop p =>
          obtain ⟨c, rfl⟩ := ite_some (α := WSt) e
          have fl := filter_len_drop hn c
          refine ⟨hn.filter _, ?_, ?_, ?_⟩
          · show m.1 - 1 = ((s.mks.filter (· ≠ p)).length : Int)
            omega
          · show max m.2 (m.1 - 1) = (s.mo : Int)
            omega
          · show (s.mks.filter (· ≠ p)).length ≤ s.mo
            omega
      exact runW_most (s := u) (m := mostStep m d) h key.1 key.2.1 key.2.2.1 key.2.2.2
theorem filter_last {M : List Nat} {x : Nat} (hx : x ∉ M) : (M ++ [x]).filter (· ≠ x) = M := by
  rw [List.filter_append, List.filter_cons, if_neg (by simp), List.filter_nil, List.append_nil]
  exact List.filter_eq_self.mpr fun y hy => decide_eq_true fun z => hx (z ▸ hy)
theorem again_run {n R start : Nat} {M : List Nat} {mo : Nat} (hM : start ∈ M) : ∀ steps i co, i ≤ steps → start + steps ≤ n →
    ∃ c, runW n R (aPre start steps i) { pl := start, mks := M, wa := ((start + steps : Nat) : Int), co := co, mo := mo } = some { pl := start, mks := M, wa := ((start + steps : Nat) : Int) - (i : Int), co := c, mo := mo }
  | steps, 0, co, _, _ => ⟨co, by show some _ = some _; simp⟩
  | steps, i + 1, co, hi, hn => by
    obtain ⟨c, ih⟩ := again_run hM steps i co (by omega) hn
    refine ⟨c + (steps - i), ?_⟩
    show runW n R (aPre start steps i ++ [.go (steps - i), .meet, .take start]) _ = _
    rw [runW_append, ih]
    show ((stepW n R _ (.go (steps - i))).bind fun s => (stepW n R s .meet).bind fun s => (stepW n R s (.take start)).bind fun s => some s) = _
    have e1 : stepW n R { pl := start, mks := M, wa := ((start + steps : Nat) : Int) - (i : Int), co := c, mo := mo } (.go (steps - i)) = some { pl := start + (steps - i), mks := M, wa := ((start + steps : Nat) : Int) - (i : Int), co := c + (steps - i), mo := mo } := by
      show (if 0 < steps - i ∧ start + (steps - i) ≤ n then _ else _) = _
      rw [if_pos ⟨by omega, by omega⟩]
    have e2 : stepW n R { pl := start + (steps - i), mks := M, wa := ((start + steps : Nat) : Int) - (i : Int), co := c + (steps - i), mo := mo } .meet = some { pl := start + (steps - i), mks := M, wa := ((start + steps : Nat) : Int) - (i : Int) - 1, co := c + (steps - i), mo := mo } := by
      show (if ((start + (steps - i) : Nat) : Int) = ((start + steps : Nat) : Int) - (i : Int) then _ else _) = _
      rw [if_pos (by omega)]
    have e3 : stepW n R { pl := start + (steps - i), mks := M, wa := ((start + steps : Nat) : Int) - (i : Int) - 1, co := c + (steps - i), mo := mo } (.take start) = some { pl := start, mks := M, wa := ((start + steps : Nat) : Int) - (i : Int) - 1, co := c + (steps - i), mo := mo } := if_pos hM
    rw [e1]
    show ((stepW n R _ .meet).bind _) = _
    rw [e2]
    show ((stepW n R _ (.take start)).bind _) = _
    rw [e3]
    show some _ = some _
    congr 2
    omega
theorem aPre_cost (start steps : Nat) : ∀ i, i ≤ steps → (2 * costD (aPre start steps i) : Nat) + i * i = i * (2 * steps + 1)
  | 0, _ => by
    show 2 * 0 + 0 * 0 = 0 * (2 * steps + 1)
    simp
  | i + 1, h => by
    have ih := aPre_cost start steps i (by omega)
    have e : costD (aPre start steps (i + 1)) = costD (aPre start steps i) + (steps - i) := by
      show costD (aPre start steps i ++ [.go (steps - i), .meet, .take start]) = _
      rw [costD_append]
      show _ + ((steps - i) + (0 + (0 + 0))) = _
      omega
    rw [e]
    have q1 : (i + 1) * (i + 1) = i * i + 2 * i + 1 := by
      rw [Nat.add_mul, Nat.mul_add, Nat.one_mul, Nat.mul_one]
      omega
    have q2 : (i + 1) * (2 * steps + 1) = i * (2 * steps + 1) + 2 * steps + 1 := by
      rw [Nat.add_mul, Nat.one_mul]
      omega
    omega
theorem again_cost {start steps : Nat} (hs : steps ≤ 100) : (costD (againN start steps) : Int) = costN steps 1 := by
  rw [cost_one hs]
  unfold againN
  have h := aPre_cost start steps steps (Nat.le_refl _)
  rw [costD_append]
  have e : costD [Deed.meet] = 0 := rfl
  rw [e]
  have q : steps * (2 * steps + 1) = 2 * (steps * steps) + steps := by
    rw [Nat.mul_add, Nat.mul_one, Nat.mul_left_comm]
  have q2 : (steps : Int) * ((steps : Int) + 1) = ((steps * steps + steps : Nat) : Int) := by
    rw [Int.mul_add, Int.mul_one, Int.natCast_add, Int.natCast_mul]
  rw [q2]
  omega
/-- the plan's deeds from a kept place on: all from the end down to it are met, and what was kept is kept -/
theorem from_run {n R : Nat} : ∀ k start steps room (M : List Nat) (co mo : Nat), steps < k → 1 ≤ room → room ≤ 12 → steps ≤ 100 → start + steps ≤ n → start ∈ M → (∀ x ∈ M, x ≤ start) → M.length + room ≤ R + 1 →
    ∃ c m, runW n R (fromN k start steps room) { pl := start, mks := M, wa := ((start + steps : Nat) : Int), co := co, mo := mo } = some { pl := start, mks := M, wa := (start : Int) - 1, co := c, mo := m }
  | 0, _, steps, _, _, _, _, h, _, _, _, _, _, _, _ => by omega
  | k + 1, start, steps, room, M, co, mo, hk, h1, h2, h3, h4, hM, hU, hR => by
    by_cases c : steps = 0 ∨ room = 1
    · obtain ⟨c', e⟩ := again_run (n := n) (R := R) (mo := mo) hM steps steps co (Nat.le_refl _) h4
      refine ⟨c', mo, ?_⟩
      show runW n R (if steps = 0 ∨ room = 1 then againN start steps else _) _ = _
      rw [if_pos c]
      unfold againN
      rw [runW_append, e]
      show (stepW n R _ .meet).bind (fun s => some s) = _
      have e2 : stepW n R { pl := start, mks := M, wa := ((start + steps : Nat) : Int) - (steps : Int), co := c', mo := mo } .meet = some { pl := start, mks := M, wa := ((start + steps : Nat) : Int) - (steps : Int) - 1, co := c', mo := mo } := by
        show (if ((start : Nat) : Int) = ((start + steps : Nat) : Int) - (steps : Int) then _ else _) = _
        rw [if_pos (by omega)]
      rw [e2]
      show some _ = some _
      congr 2
      omega
    · obtain ⟨m1, m2, _⟩ := mark_ok (s := steps) (r := room - 1) h3 (by omega) (by omega) (by omega)
      rw [show room - 1 + 1 = room by omega] at m1 m2
      have hx : start + markN steps room ∉ M := fun z => by
        have := hU _ z
        omega
      show ∃ c m, runW n R (if steps = 0 ∨ room = 1 then againN start steps else _) _ = _
      rw [if_neg c]
      obtain ⟨c1, q1, e1⟩ := from_run (n := n) (R := R) k (start + markN steps room) (steps - markN steps room) (room - 1) (M ++ [start + markN steps room]) (co + markN steps room) (max mo (M.length + 1)) (by omega) (by omega) (by omega) (by omega) (by omega) (by simp) (fun x hx => by
        rcases List.mem_append.mp hx with z | z
        · have := hU x z
          omega
        · rw [List.mem_singleton.mp z]
          exact Nat.le_refl _) (by rw [List.length_append]; show M.length + 1 + (room - 1) ≤ R + 1; omega)
      obtain ⟨c2, q2, e2⟩ := from_run (n := n) (R := R) k start (markN steps room - 1) room M c1 q1 (by omega) h1 h2 (by omega) (by omega) hM hU hR
      refine ⟨c2, q2, ?_⟩
      rw [List.append_assoc, List.append_assoc, runW_append]
      have s1 : runW n R [.go (markN steps room), .keep] { pl := start, mks := M, wa := ((start + steps : Nat) : Int), co := co, mo := mo } = some { pl := start + markN steps room, mks := M ++ [start + markN steps room], wa := ((start + steps : Nat) : Int), co := co + markN steps room, mo := max mo (M.length + 1) } := by
        show (stepW n R _ (.go (markN steps room))).bind (fun s => (stepW n R s .keep).bind fun s => some s) = _
        have a1 : stepW n R { pl := start, mks := M, wa := ((start + steps : Nat) : Int), co := co, mo := mo } (.go (markN steps room)) = some { pl := start + markN steps room, mks := M, wa := ((start + steps : Nat) : Int), co := co + markN steps room, mo := mo } := if_pos ⟨by omega, by show start + markN steps room ≤ n; omega⟩
        have a2 : stepW n R { pl := start + markN steps room, mks := M, wa := ((start + steps : Nat) : Int), co := co + markN steps room, mo := mo } .keep = some { pl := start + markN steps room, mks := M ++ [start + markN steps room], wa := ((start + steps : Nat) : Int), co := co + markN steps room, mo := max mo (M.length + 1) } := if_pos ⟨hx, by show M.length < R; omega⟩
        rw [a1]
        show (stepW n R _ .keep).bind _ = _
        rw [a2] <;> rfl
      rw [s1]
      show runW n R (fromN k (start + markN steps room) (steps - markN steps room) (room - 1) ++ ([.drop (start + markN steps room), .take start] ++ fromN k start (markN steps room - 1) room)) _ = _
      rw [runW_append]
      rw [show ((start + markN steps room + (steps - markN steps room) : Nat) : Int) = ((start + steps : Nat) : Int) by omega] at e1
      rw [e1]
      show runW n R ([.drop (start + markN steps room), .take start] ++ fromN k start (markN steps room - 1) room) _ = _
      rw [runW_append]
      have s2 : runW n R [.drop (start + markN steps room), .take start] { pl := start + markN steps room, mks := M ++ [start + markN steps room], wa := ((start + markN steps room : Nat) : Int) - 1, co := c1, mo := q1 } = some { pl := start, mks := M, wa := ((start + markN steps room : Nat) : Int) - 1, co := c1, mo := q1 } := by
        show (stepW n R _ (.drop (start + markN steps room))).bind (fun s => (stepW n R s (.take start)).bind fun s => some s) = _
        have a1 : stepW n R { pl := start + markN steps room, mks := M ++ [start + markN steps room], wa := ((start + markN steps room : Nat) : Int) - 1, co := c1, mo := q1 } (.drop (start + markN steps room)) = some { pl := start + markN steps room, mks := M, wa := ((start + markN steps room : Nat) : Int) - 1, co := c1, mo := q1 } := by
          show (if _ then _ else _) = _
          rw [if_pos (by simp), filter_last hx]
        have a2 : stepW n R { pl := start + markN steps room, mks := M, wa := ((start + markN steps room : Nat) : Int) - 1, co := c1, mo := q1 } (.take start) = some { pl := start, mks := M, wa := ((start + markN steps room : Nat) : Int) - 1, co := c1, mo := q1 } := if_pos hM
        rw [a1]
        show (stepW n R _ (.take start)).bind _ = _
        rw [a2] <;> rfl
      rw [s2]
      show runW n R (fromN k start (markN steps room - 1) room) _ = _
      rw [show ((start + markN steps room : Nat) : Int) - 1 = ((start + (markN steps room - 1) : Nat) : Int) by omega]
      exact e2
theorem from_cost : ∀ k start steps room, steps < k → 1 ≤ room → room ≤ 12 → steps ≤ 100 → (costD (fromN k start steps room) : Int) = costN steps room
  | 0, _, steps, _, h, _, _, _ => by omega
  | k + 1, start, steps, room, hk, h1, h2, h3 => by
    show (costD (if steps = 0 ∨ room = 1 then againN start steps else _) : Int) = _
    by_cases c : steps = 0 ∨ room = 1
    · rw [if_pos c, again_cost h3]
      rcases c with c | c
      · have z : ∀ r, 1 ≤ r → r ≤ 12 → costN 0 r = 0 := fun r q1 q2 => by
          have o := oft_le (s := 0) (r := r) (by omega) q1 (by omega)
          unfold costN
          rw [if_pos (by omega)]
        rw [c, z 1 (by omega) (by omega), z room h1 h2]
      · rw [c]
    · rw [if_neg c]
      obtain ⟨m1, m2, m3⟩ := mark_ok (s := steps) (r := room - 1) h3 (by omega) (by omega) (by omega)
      rw [show room - 1 + 1 = room by omega] at m1 m2 m3
      have i1 := from_cost k (start + markN steps room) (steps - markN steps room) (room - 1) (by omega) (by omega) (by omega) (by omega)
      have i2 := from_cost k start (markN steps room - 1) room (by omega) h1 h2 (by omega)
      rw [costD_append, costD_append, costD_append]
      have a : costD [Deed.go (markN steps room), Deed.keep] = markN steps room := rfl
      have b : costD [Deed.drop (start + markN steps room), Deed.take start] = 0 := rfl
      rw [a, b, m3, Int.natCast_add, Int.natCast_add, Int.natCast_add, i1, i2]
      omega
def wst0 (n : Nat) : WSt := { pl := 0, mks := [], wa := (n : Int), co := 0, mo := 0 }
/-- the plan meets all, at the least cost -/
theorem plan_run {s r : Nat} (hs : s ≤ 100) (h1 : 1 ≤ r) (h2 : r ≤ 12) : ∃ t, runW s r (planN s r) (wst0 s) = some t ∧ t.wa = -1 ∧ (t.co : Int) = costN s r ∧ t.pl = 0 := by
  unfold planN
  by_cases c : s = 0
  · rw [if_pos c]
    have o := oft_le (s := 0) (r := r) (by omega) h1 (by omega)
    have z : costN 0 r = 0 := by
      unfold costN
      rw [if_pos (by omega)]
    rw [c, z]
    exact ⟨{ pl := 0, mks := [], wa := -1, co := 0, mo := 0 }, rfl, rfl, rfl, rfl⟩
  · rw [if_neg c, runW_append]
    have a : runW s r [.keep] (wst0 s) = some { pl := 0, mks := [0], wa := (s : Int), co := 0, mo := 1 } := by
      show (stepW s r (wst0 s) .keep).bind (fun s => some s) = _
      have : stepW s r (wst0 s) .keep = some { pl := 0, mks := [0], wa := (s : Int), co := 0, mo := 1 } := if_pos ⟨by simp [wst0], by show 0 < r; omega⟩
      rw [this] <;> rfl
    obtain ⟨c', m, e⟩ := from_run (n := s) (R := r) 101 0 s r [0] 0 1 (by omega) h1 h2 hs (by omega) (by simp) (fun x hx => by rw [List.mem_singleton.mp hx]; exact Nat.le_refl _) (by show 1 + r ≤ r + 1; omega)
    rw [Nat.zero_add] at e
    refine ⟨_, by rw [a]; exact e, rfl, ?_, rfl⟩
    have q := runW_cost e
    have fc := from_cost 101 0 s r (by omega) h1 h2 hs
    show (c' : Int) = _
    have q' : c' = 0 + costD (fromN 101 0 s r) := q
    rw [q', Nat.zero_add]
    exact fc
end BM

/-! ## Deeds as they stand in memory -/
namespace BM
open PySem PySem.Spec PyProof.Rows L2
def Deed.word : Deed → Str
  | .keep => "keep"
  | .meet => "meet"
  | .take _ => "take"
  | .drop _ => "drop"
  | .go _ => "go"
def Deed.vs : Deed → List V
  | .keep => [.str "keep"]
  | .meet => [.str "meet"]
  | .take p => [.str "take", .int (p : Int)]
  | .drop p => [.str "drop", .int (p : Int)]
  | .go n => [.str "go", .int (n : Int)]
theorem Deed.at0 (d : Deed) : atI d.vs 0 = some (.str d.word) := by cases d <;> rfl
def DS (H : Hp) (ps : List (Addr × Deed)) : Prop := ∀ q ∈ ps, H q.1 = some (.tup q.2.vs)
def refs (ps : List (Addr × Deed)) : List V := ps.map fun q => V.ref q.1
theorem DS.same {H H' : Hp} {ps : List (Addr × Deed)} (e : Same H H') (h : DS H ps) : DS H' ps := fun q hq => e _ _ (h q hq)
theorem DS.append {H : Hp} {ps qs : List (Addr × Deed)} (h : DS H ps) (h' : DS H qs) : DS H (ps ++ qs) := fun q hq => (List.mem_append.mp hq).elim (h q) (h' q)
theorem refs_append (ps qs : List (Addr × Deed)) : refs (ps ++ qs) = refs ps ++ refs qs := List.map_append
theorem refs_len (ps : List (Addr × Deed)) : (refs ps).length = ps.length := List.length_map ..
/-- a new list of deeds is told -/
def RetD (H : Hp) (ds : List Deed) (Q : VK) : Prop := ∀ (p : Addr) (H' : Hp) (ps : List (Addr × Deed)), H p = none → Same H H' → ps.map (·.2) = ds → H' p = some (.lst (refs ps)) → DS H' ps → Q (.ref p) H'
theorem len_of {ps : List (Addr × Deed)} {ds : List Deed} (h : ps.map (·.2) = ds) : ps.length = ds.length := by rw [← h, List.length_map]
theorem aPre_len (start steps : Nat) : ∀ i, (aPre start steps i).length = 3 * i
  | 0 => rfl
  | i + 1 => by
    show (aPre start steps i ++ _).length = _
    rw [List.length_append, aPre_len start steps i]
    show 3 * i + 3 = _
    omega
theorem again_len (start steps : Nat) : (againN start steps).length = 3 * steps + 1 := by
  unfold againN
  rw [List.length_append, aPre_len] <;> rfl
theorem from_len : ∀ k a steps room, steps < k → 1 ≤ room → room ≤ 12 → steps ≤ 100 → (fromN k a steps room).length ≤ 5 * steps + 1
  | 0, _, steps, _, h, _, _, _ => by omega
  | k + 1, a, steps, room, hk, h1, h2, h3 => by
    show (if steps = 0 ∨ room = 1 then againN a steps else _).length ≤ _
    by_cases c : steps = 0 ∨ room = 1
    · rw [if_pos c, again_len]
      omega
    · rw [if_neg c]
      obtain ⟨m1, m2, _⟩ := mark_ok (s := steps) (r := room - 1) h3 (by omega) (by omega) (by omega)
      rw [show room - 1 + 1 = room by omega] at m1 m2
      have i1 := from_len k (a + markN steps room) (steps - markN steps room) (room - 1) (by omega) (by omega) (by omega) (by omega)
      have i2 := from_len k a (markN steps room - 1) room (by omega) h1 h2 (by omega)
      simp only [List.length_append, List.length_cons, List.length_nil]
      omega
theorem plan_len {s r : Nat} (hs : s ≤ 100) (h1 : 1 ≤ r) (h2 : r ≤ 12) : (planN s r).length ≤ 600 := by
  unfold planN
  by_cases c : s = 0
  · rw [if_pos c]
    show 1 ≤ 600
    omega
  · rw [if_neg c, List.length_append]
    have := from_len 101 0 s r (by omega) h1 h2 hs
    show 1 + _ ≤ 600
    omega
def goes : List Deed → List Int
  | [] => []
  | .go n :: ds => (n : Int) :: goes ds
  | _ :: ds => goes ds
theorem goes_snoc : ∀ (ds : List Deed) (d : Deed), goes (ds ++ [d]) = goes ds ++ (match d with | .go n => [(n : Int)] | _ => [])
  | [], d => by cases d <;> rfl
  | e :: ds, d => by
    have ih := goes_snoc ds d
    cases e with
    | go n =>
      show (n : Int) :: goes (ds ++ [d]) = (n : Int) :: goes ds ++ _
      rw [ih] <;> rfl
    | keep => exact ih
    | meet => exact ih
    | take _ => exact ih
    | drop _ => exact ih
theorem goes_sum : ∀ ds : List Deed, (goes ds).sum = (costD ds : Int)
  | [] => rfl
  | e :: ds => by
    have ih := goes_sum ds
    have c : costD (e :: ds) = costD1 e + costD ds := by
      unfold costD
      rw [List.map_cons, List.sum_cons]
    rw [c]
    cases e with
    | go n =>
      show ((n : Int) :: goes ds).sum = ((n + costD ds : Nat) : Int)
      rw [List.sum_cons, ih, Int.natCast_add]
    | keep => show (goes ds).sum = ((0 + costD ds : Nat) : Int); rw [Nat.zero_add]; exact ih
    | meet => show (goes ds).sum = ((0 + costD ds : Nat) : Int); rw [Nat.zero_add]; exact ih
    | take _ => show (goes ds).sum = ((0 + costD ds : Nat) : Int); rw [Nat.zero_add]; exact ih
    | drop _ => show (goes ds).sum = ((0 + costD ds : Nat) : Int); rw [Nat.zero_add]; exact ih
theorem goes_len : ∀ ds : List Deed, (goes ds).length ≤ ds.length
  | [] => Nat.le_refl _
  | e :: ds => by
    have ih := goes_len ds
    cases e with
    | go n => exact Nat.succ_le_succ ih
    | keep => exact Nat.le_succ_of_le ih
    | meet => exact Nat.le_succ_of_le ih
    | take _ => exact Nat.le_succ_of_le ih
    | drop _ => exact Nat.le_succ_of_le ih
theorem max_if (a b : Int) : (if b > a then b else a) = max a b := by
  by_cases h : b > a
  · rw [if_pos h]; omega
  · rw [if_neg h]; omega
end BM

namespace BM
open PySem PySem.Spec PyProof.Rows L2
def top (i : Nat) : Stmt := PySem.Challenge.pw_backmarks_k07_whole_plans_walked.main.body.getD i (.Pass ⟨0, 0, 0, 0⟩)
abbrev s_is_among : Stmt := top 12
abbrev s_need_counts : Stmt := top 15
abbrev s_choices : Stmt := top 16
abbrev s_ways : Stmt := top 17
abbrev s_often : Stmt := top 18
abbrev s_cost : Stmt := top 19
abbrev s_least : Stmt := top 20
abbrev s_first_mark : Stmt := top 22
abbrev s_again_and_again : Stmt := top 23
abbrev s_from_mark : Stmt := top 24
abbrev s_plan : Stmt := top 25
abbrev s_cost_of : Stmt := top 26
abbrev s_most_kept : Stmt := top 27
abbrev s_l_cell_at : Stmt := top 29
abbrev s_l_number : Stmt := top 30
abbrev s_l_whole : Stmt := top 31
abbrev s_l_formed : Stmt := top 32
abbrev s_l_goes : Stmt := top 33
abbrev s_l_good : Stmt := top 34
abbrev s_l_class : Stmt := top 35
abbrev s_l_told : Stmt := top 36
abbrev s_law : Stmt := top 37
/-- what the top has left -/
structure Txt (K : PySem.W.Frag) (mg : Str → Option Value) : Type where
  aBadCount : Addr
  aBadRule : Addr
  aBadDeed : Addr
  aFull : Addr
  aTwice : Addr
  aNotKept : Addr
  aAtEnd : Addr
  aNotWanted : Addr
  aMarkError : Addr
  d_is_among : Def K mg "is_among" "is_among" s_is_among ["thing", "low", "high"]
  d_need_counts : Def K mg "need_counts" "need_counts" s_need_counts ["steps", "room"]
  d_choices : Def K mg "choices" "choices" s_choices ["many", "chosen"]
  d_ways : Def K mg "ways" "ways" s_ways ["room", "times"]
  d_often : Def K mg "often" "often" s_often ["steps", "room"]
  d_cost : Def K mg "cost" "cost" s_cost ["steps", "room"]
  d_least : Def K mg "least" "least" s_least ["steps", "room"]
  d_first_mark : Def K mg "first_mark" "first_mark" s_first_mark ["steps", "room"]
  d_again_and_again : Def K mg "again_and_again" "again_and_again" s_again_and_again ["start", "steps"]
  d_from_mark : Def K mg "from_mark" "from_mark" s_from_mark ["start", "steps", "room"]
  d_plan : Def K mg "plan" "plan" s_plan ["steps", "room"]
  d_cost_of : Def K mg "cost_of" "cost_of" s_cost_of ["deeds"]
  d_most_kept : Def K mg "most_kept" "most_kept" s_most_kept ["deeds"]
  d_l_cell_at : Def K mg "_law_cell_at" "_law_cell_at" s_l_cell_at ["_law_script", "_law_k"]
  d_l_whole : Def K mg "_law_whole" "_law_whole" s_l_whole ["_law_found"]
  d_l_formed : Def K mg "_law_formed" "_law_formed" s_l_formed ["_law_deed"]
  d_l_goes : Def K mg "_law_goes" "_law_goes" s_l_goes ["_law_m", "_law_deed", "_law_steps", "_law_room"]
  d_l_good : Def K mg "_law_good" "_law_good" s_l_good ["_law_deeds", "_law_steps", "_law_room"]
  d_l_class : Def K mg "_law_class" "_law_class" s_l_class ["_law_e"]
  d_l_told : Def K mg "_law_told" "_law_told" s_l_told ["_law_steps", "_law_room"]
  d_law : Def K mg "law" "law" s_law ["_law_script"]
  c_MOST_STEPS : ∃ t, mg "MOST_STEPS" = some (.int 100 t)
  c_MOST_ROOM : ∃ t, mg "MOST_ROOM" = some (.int 12 t)
  n_isinstance : mg "isinstance" = none
  n_bool : mg "bool" = none
  n_int : mg "int" = none
  n_range : mg "range" = none
  n_min : mg "min" = none
  n_sum : mg "sum" = none
  n_max : mg "max" = none
  n_len : mg "len" = none
  n_str : mg "str" = none
  n_tuple : mg "tuple" = none
  n_list : mg "list" = none
  n_all : mg "all" = none
  n_ValueError : mg "ValueError" = none
  x_BadCount : XC K mg "BadCount" aBadCount
  x_BadRule : XC K mg "BadRule" aBadRule
  x_BadDeed : XC K mg "BadDeed" aBadDeed
  x_Full : XC K mg "Full" aFull
  x_Twice : XC K mg "Twice" aTwice
  x_NotKept : XC K mg "NotKept" aNotKept
  x_AtEnd : XC K mg "AtEnd" aAtEnd
  x_NotWanted : XC K mg "NotWanted" aNotWanted
  x_MarkError : XC K mg "MarkError" aMarkError
  q_BadCount : Kind K (fun j => [aBadCount, aBadRule, aBadDeed, aFull, aTwice, aNotKept, aAtEnd, aNotWanted].getD j 0) aBadCount 0
  e_BadCount : PySem.W.exmOne K (.ref aBadCount) (.ref aMarkError) = some true
def Txt.c8 {K : PySem.W.Frag} {mg : Str → Option Value} (T : Txt K mg) : Nat → Addr := fun j => [T.aBadCount, T.aBadRule, T.aBadDeed, T.aFull, T.aTwice, T.aNotKept, T.aAtEnd, T.aNotWanted].getD j 0
theorem sc_is_among : FnScope ["thing", "low", "high"] ["thing", "low", "high"] (defScope s_is_among) := ⟨rfl, rfl, rfl, by decide +kernel, rfl, by decide +kernel, by decide +kernel⟩
theorem sc_need_counts : FnScope ["steps", "room"] ["steps", "room"] (defScope s_need_counts) := ⟨rfl, rfl, rfl, by decide +kernel, rfl, by decide +kernel, by decide +kernel⟩
theorem sc_choices : FnScope ["many", "chosen", "found", "turn"] ["many", "chosen"] (defScope s_choices) := ⟨rfl, rfl, rfl, by decide +kernel, rfl, by decide +kernel, by decide +kernel⟩
theorem sc_ways : FnScope ["room", "times"] ["room", "times"] (defScope s_ways) := ⟨rfl, rfl, rfl, by decide +kernel, rfl, by decide +kernel, by decide +kernel⟩
theorem sc_often : FnScope ["steps", "room", "times"] ["steps", "room"] (defScope s_often) := ⟨rfl, rfl, rfl, by decide +kernel, rfl, by decide +kernel, by decide +kernel⟩
theorem sc_cost : FnScope ["steps", "room", "times"] ["steps", "room"] (defScope s_cost) := ⟨rfl, rfl, rfl, by decide +kernel, rfl, by decide +kernel, by decide +kernel⟩
theorem sc_least : FnScope ["steps", "room"] ["steps", "room"] (defScope s_least) := ⟨rfl, rfl, rfl, by decide +kernel, rfl, by decide +kernel, by decide +kernel⟩
theorem sc_first_mark : FnScope ["steps", "room", "times"] ["steps", "room"] (defScope s_first_mark) := ⟨rfl, rfl, rfl, by decide +kernel, rfl, by decide +kernel, by decide +kernel⟩
theorem sc_again_and_again : FnScope ["start", "steps", "found", "many"] ["start", "steps"] (defScope s_again_and_again) := ⟨rfl, rfl, rfl, by decide +kernel, rfl, by decide +kernel, by decide +kernel⟩
theorem sc_from_mark : FnScope ["start", "steps", "room", "mark", "found"] ["start", "steps", "room"] (defScope s_from_mark) := ⟨rfl, rfl, rfl, by decide +kernel, rfl, by decide +kernel, by decide +kernel⟩
theorem sc_plan : FnScope ["steps", "room"] ["steps", "room"] (defScope s_plan) := ⟨rfl, rfl, rfl, by decide +kernel, rfl, by decide +kernel, by decide +kernel⟩
theorem sc_cost_of : FnScope ["deeds", "deed"] ["deeds"] (defScope s_cost_of) := ⟨rfl, rfl, rfl, by decide +kernel, rfl, by decide +kernel, by decide +kernel⟩
theorem sc_most_kept : FnScope ["deeds", "many", "most", "deed"] ["deeds"] (defScope s_most_kept) := ⟨rfl, rfl, rfl, by decide +kernel, rfl, by decide +kernel, by decide +kernel⟩
theorem sc_l_cell_at : FnScope ["_law_script", "_law_k"] ["_law_script", "_law_k"] (defScope s_l_cell_at) := ⟨rfl, rfl, rfl, by decide +kernel, rfl, by decide +kernel, by decide +kernel⟩
theorem sc_l_whole : FnScope ["_law_found"] ["_law_found"] (defScope s_l_whole) := ⟨rfl, rfl, rfl, by decide +kernel, rfl, by decide +kernel, by decide +kernel⟩
theorem sc_l_formed : FnScope ["_law_deed"] ["_law_deed"] (defScope s_l_formed) := ⟨rfl, rfl, rfl, by decide +kernel, rfl, by decide +kernel, by decide +kernel⟩
theorem sc_l_goes : FnScope ["_law_m", "_law_deed", "_law_steps", "_law_room", "_law_word", "_law_good_here"] ["_law_m", "_law_deed", "_law_steps", "_law_room"] (defScope s_l_goes) := ⟨rfl, rfl, rfl, by decide +kernel, rfl, by decide +kernel, by decide +kernel⟩
theorem sc_l_good : FnScope ["_law_deeds", "_law_steps", "_law_room", "_law_m", "_law_deed", "_law_told_here", "_law_one"] ["_law_deeds", "_law_steps", "_law_room"] (defScope s_l_good) := ⟨rfl, rfl, rfl, by decide +kernel, rfl, by decide +kernel, by decide +kernel⟩
theorem sc_l_class : FnScope ["_law_e", "_law_kinds", "_law_words"] ["_law_e"] (defScope s_l_class) := ⟨rfl, rfl, rfl, by decide +kernel, rfl, by decide +kernel, by decide +kernel⟩
theorem sc_l_told : FnScope ["_law_steps", "_law_room", "_law_e"] ["_law_steps", "_law_room"] (defScope s_l_told) := ⟨rfl, rfl, rfl, by decide +kernel, rfl, by decide +kernel, by decide +kernel⟩
theorem sc_law : FnScope ["_law_script", "_law_cell", "_law_steps", "_law_room", "_law_odd", "_law_other", "_law_told_here", "_law_deeds", "_law_kept", "_law_again"] ["_law_script"] (defScope s_law) := ⟨rfl, rfl, rfl, by decide +kernel, rfl, by decide +kernel, by decide +kernel⟩
section
variable {P : Program} {w : World} {K : PySem.W.Frag} {mg : Str → Option Value} {base : Heap}
/-- is_among(thing, low, high) -/
def sp_is_among (K : PySem.W.Frag) : Sp := fun vs H Q _ => ∃ (x : V) (lo hi : Int) (o : Option Int), vs = [x, .int lo, .int hi] ∧ Thg K H x o ∧ Q (.bl (among o lo hi)) H
theorem ok_is_among (T : Txt K mg) : OkF P w K mg base "is_among" 1 ["thing", "low", "high"] (sp_is_among K) := by
  refine okf T.d_is_among sc_is_among (fun vs H Q E h => ?_) (fun f cdv A outer s H vs Q E hr h => ?_)
  · obtain ⟨x, lo, hi, o, rfl, th, k⟩ := h
    rfl
  · obtain ⟨x, lo, hi, o, rfl, th, k⟩ := h
    refine ⟨_, (pss_one (ps_ret (pe_and (pe_callB call_isi (by rfl) T.n_isinstance (by decide +kernel) (pa_cons (pv 0) (pa_cons (pe_bltn (v := .ty "int") (by rfl) T.n_int (by decide +kernel) rfl) pa_nil))) (pe_and (pe_not (pe_callB call_isi (by rfl) T.n_isinstance (by decide +kernel) (pa_cons (pv 0) (pa_cons (pe_bltn (v := .ty "bool") (by rfl) T.n_bool (by decide +kernel) rfl) pa_nil)))) (pe_one (pe_chain op_le op_le (pv 1) (pv 0) (pv 2))))))), ?_⟩
    refine ⟨_, rfl, ?_⟩
    cases th with
    | int i =>
      refine ⟨_, _, _, _, true, rfl, .ty "int", .base (.int i), kit_ty (by decide +kernel), true, rfl, iteT ?_⟩
      refine ⟨_, rfl, _, _, _, _, false, rfl, .ty "bool", .base (.int i), kit_ty (by decide +kernel), false, rfl, true, rfl, iteT ?_⟩
      refine ⟨_, rfl, _, rfl, _, _, rfl, rfl, _, rfl, ?_⟩
      refine ite2 (fun c => ?_) (fun c => ?_)
      · refine ⟨_, rfl, _, _, rfl, rfl, ?_⟩
        have e : among (some i) lo hi = decide (i ≤ hi) := by
          show (decide (lo ≤ i) && decide (i ≤ hi)) = decide (i ≤ hi)
          rw [c, Bool.true_and]
        rw [e] at k
        exact k
      · have e : among (some i) lo hi = false := by
          show (decide (lo ≤ i) && decide (i ≤ hi)) = false
          rw [Bool.eq_false_iff.mpr c, Bool.false_and]
        rw [e] at k
        exact k
    | bl b =>
      refine ⟨_, _, _, _, true, rfl, .ty "int", .base (.bl b), kit_ty (by decide +kernel), true, rfl, iteT ?_⟩
      refine ⟨_, rfl, _, _, _, _, true, rfl, .ty "bool", .base (.bl b), kit_ty (by decide +kernel), true, rfl, false, rfl, iteF ?_⟩
      exact k
    | oth ty ni =>
      refine ⟨_, _, _, _, false, rfl, .ty "int", ty, ni, false, rfl, iteF ?_⟩
      exact k
def sp_need_counts (K : PySem.W.Frag) (C : Addr) : Sp := fun vs H Q E => ∃ (x y : V) (o1 o2 : Option Int), vs = [x, y] ∧ Thg K H x o1 ∧ Thg K H y o2 ∧ (goodC o1 o2 = true → Q .non H) ∧ (goodC o1 o2 = false → E (.ref C) none H)
theorem ok_need_counts (T : Txt K mg) : OkF P w K mg base "need_counts" 2 ["steps", "room"] (sp_need_counts K T.aBadCount) := by
  obtain ⟨f_is_among, fd_is_among, m_is_among, k_is_among, b_is_among, G_is_among⟩ := ok_is_among (P := P) (w := w) (base := base) T
  refine okf T.d_need_counts sc_need_counts (fun vs H Q E h => ?_) (fun f cdv A outer s H vs Q E hr h => ?_)
  · obtain ⟨x, y, o1, o2, rfl, t1, t2, kg, kb⟩ := h
    rfl
  · obtain ⟨x, y, o1, o2, rfl, t1, t2, kg, kb⟩ := h
    refine ⟨_, (pss_cons (ps_if (pt_not (pt_val (pe_call G_is_among (hr.mono (by decide)) (by rfl) m_is_among k_is_among b_is_among .nil passL (pa_cons (pv 0) (pa_cons pe_int (pa_cons (pe_glob (v := .int 100) (by rfl) T.c_MOST_STEPS.choose_spec ⟨_, rfl⟩) pa_nil))))))
        (pss_one (ps_raise rfl (takes_of rfl rfl rfl rfl) (pmk_own PySem.F.excBase_ValueError T.x_BadCount.x T.x_BadCount.g T.x_BadCount.k (raises_own T.x_BadCount.b T.x_BadCount.t) rfl)))
        pss_nil)
        (pss_one (ps_if (pt_not (pt_val (pe_call G_is_among (hr.mono (by decide)) (by rfl) m_is_among k_is_among b_is_among .nil passL (pa_cons (pv 1) (pa_cons pe_int (pa_cons (pe_glob (v := .int 12) (by rfl) T.c_MOST_ROOM.choose_spec ⟨_, rfl⟩) pa_nil))))))
        (pss_one (ps_raise rfl (takes_of rfl rfl rfl rfl) (pmk_own PySem.F.excBase_ValueError T.x_BadCount.x T.x_BadCount.g T.x_BadCount.k (raises_own T.x_BadCount.b T.x_BadCount.t) rfl)))
        pss_nil))), ?_⟩
    refine ⟨_, rfl, x, 0, 100, o1, rfl, t1, _, rfl, ?_⟩
    cases c1 : among o1 0 100 with
    | false =>
      refine iteT ?_
      refine kb ?_
      unfold goodC
      rw [c1, Bool.false_and]
    | true =>
      refine iteF ?_
      refine ⟨_, rfl, y, 1, 12, o2, rfl, t2, _, rfl, ?_⟩
      cases c2 : among o2 1 12 with
      | false =>
        refine iteT ?_
        refine kb ?_
        unfold goodC
        rw [c1, c2, Bool.true_and]
      | true =>
        refine iteF ?_
        refine kg ?_
        unfold goodC
        rw [c1, c2, Bool.true_and]
def sp_choices : Sp := fun vs H Q _ => ∃ m c : Nat, vs = [.int (m : Int), .int (c : Int)] ∧ c ≤ m ∧ m ≤ 1000 ∧ Q (.int (choN m c : Int)) H
theorem ok_choices (T : Txt K mg) : OkF P w K mg base "choices" 1 ["many", "chosen"] (sp_choices) := by
  refine okf T.d_choices sc_choices (fun vs H Q E h => ?_) (fun f cdv A outer s H vs Q E hr h => ?_)
  · obtain ⟨m, c, rfl, hc, hm, k⟩ := h
    rfl
  · obtain ⟨m, c, rfl, hc, hm, k⟩ := h
    refine ⟨_, (pss_cons (ps_set (i := 2) sc_choices.nd rfl (Or.inl rfl) pe_int)
        (pss_cons (ps_for (passes_of rfl) rfl (pi_range1 (by rfl) T.n_range (pa_cons (pv 1) pa_nil)) (pg_name (i := 3) sc_choices.nd rfl (Or.inl rfl))
        (pss_one (ps_set (i := 2) sc_choices.nd rfl (Or.inl rfl) (pe_op op_fdiv (pe_op op_mul (pv 2) (pe_op op_sub (pv 0) (pv 3))) (pe_op op_add (pv 3) pe_int)))))
        (pss_one (ps_ret (pv 2))))), ?_⟩
    refine ⟨_, rfl, _, rfl, by omega, by omega, ?_⟩
    refine for_range (lo := 0) (n := (c : Int).toNat) (fun i σ H' => H' = H ∧ ∃ v, σ = [some (.int (m : Int)), some (.int (c : Int)), some (.int (choN m i : Int)), v]) ⟨rfl, none, rfl⟩ ?_ ?_
    · rintro i σ H' hi ⟨rfl, v, rfl⟩
      rw [Int.toNat_natCast] at hi
      refine ⟨_, rfl, _, rfl, _, rfl, _, _, rfl, rfl, _, _, rfl, rfl, .inr ⟨by show -(2 ^ 64 : Int) < (m : Int) - (0 + (i : Int)); omega, by show (m : Int) - (0 + (i : Int)) < 2 ^ 64; omega⟩, _, rfl, _, _, rfl, rfl, _, _, rfl, rfl, ⟨by show (0 : Int) < 0 + (i : Int) + 1; omega, by show (0 : Int) + (i : Int) + 1 < 1073741824; omega⟩, ?_⟩
      refine ⟨rfl, some (.int (0 + (i : Int))), ?_⟩
      have e1 : ((m : Int) - (0 + (i : Int))) = ((m - i : Nat) : Int) := by omega
      have e2 : ((0 : Int) + (i : Int) + 1) = ((i + 1 : Nat) : Int) := by omega
      have e : ((choN m i : Int) * ((m : Int) - (0 + (i : Int)))) / (0 + (i : Int) + 1) = (choN m (i + 1) : Int) := by
        rw [e1, e2, choN_succ]
        show _ = ((choN m i * (m - i) / (i + 1) : Nat) : Int)
        rw [Int.natCast_ediv, Int.natCast_mul]
      show [some (V.int (m : Int)), some (V.int (c : Int)), some (V.int (((choN m i : Int) * ((m : Int) - (0 + (i : Int)))) / (0 + (i : Int) + 1))), some (V.int (0 + (i : Int)))] = _
      rw [e]
    · rintro σ H' ⟨rfl, v, rfl⟩
      rw [Int.toNat_natCast]
      exact ⟨_, rfl, k⟩
def sp_ways : Sp := fun vs H Q _ => ∃ r t : Nat, vs = [.int (r : Int), .int (t : Int)] ∧ r + t ≤ 1000 ∧ Q (.int (waysN r t : Int)) H
theorem ok_ways (T : Txt K mg) : OkF P w K mg base "ways" 2 ["room", "times"] (sp_ways) := by
  obtain ⟨f_choices, fd_choices, m_choices, k_choices, b_choices, G_choices⟩ := ok_choices (P := P) (w := w) (base := base) T
  refine okf T.d_ways sc_ways (fun vs H Q E h => ?_) (fun f cdv A outer s H vs Q E hr h => ?_)
  · obtain ⟨r, t, rfl, hb, k⟩ := h
    rfl
  · obtain ⟨r, t, rfl, hb, k⟩ := h
    refine ⟨_, (pss_one (ps_ret (pe_call G_choices (hr.mono (by decide)) (by rfl) m_choices k_choices b_choices .nil passL (pa_cons (pe_op op_add (pv 0) (pv 1)) (pa_cons (pv 0) pa_nil))))), ?_⟩
    exact ⟨_, rfl, _, rfl, _, _, rfl, rfl, _, rfl, r + t, r, by rw [Int.natCast_add] <;> rfl, Nat.le_add_right _ _, hb, k⟩
def sp_often : Sp := fun vs H Q _ => ∃ s r : Nat, vs = [.int (s : Int), .int (r : Int)] ∧ s ≤ 100 ∧ 1 ≤ r ∧ r ≤ 12 ∧ Q (.int (oftN s r : Int)) H
theorem ok_often (T : Txt K mg) : OkF P w K mg base "often" 3 ["steps", "room"] (sp_often) := by
  obtain ⟨f_ways, fd_ways, m_ways, k_ways, b_ways, G_ways⟩ := ok_ways (P := P) (w := w) (base := base) T
  refine okf T.d_often sc_often (fun vs H Q E h => ?_) (fun f cdv A outer s H vs Q E hr h => ?_)
  · obtain ⟨s', r, rfl, hs, h1, h2, k⟩ := h
    rfl
  · obtain ⟨s', r, rfl, hs, h1, h2, k⟩ := h
    refine ⟨_, (pss_cons (ps_set (i := 2) sc_often.nd rfl (Or.inl rfl) pe_int)
        (pss_cons (ps_while (passes_of rfl) (pt_cmpR op_le (pe_call G_ways (hr.mono (by decide)) (by rfl) m_ways k_ways b_ways .nil passL (pa_cons (pv 1) (pa_cons (pv 2) pa_nil))) (pv 0) (nomark _))
        (pss_one (ps_set (i := 2) sc_often.nd rfl (Or.inl rfl) (pe_op op_add (pv 2) pe_int))))
        (pss_one (ps_ret (pv 2))))), ?_⟩
    refine ⟨fun n σ H' => ∃ t : Nat, t + n = 101 ∧ H' = H ∧ σ = [some (.int (s' : Int)), some (.int (r : Int)), some (.int (t : Int))] ∧ oftGo s' r n t = oftN s' r, ⟨101, 0, rfl, rfl, rfl, rfl⟩, ?_⟩
    rintro n σ H' ⟨t, ht, rfl, rfl, e⟩
    refine ⟨_, rfl, _, rfl, r, t, rfl, by omega, _, rfl, _, _, rfl, rfl, _, rfl, ?_⟩
    refine ite2 (fun c => ?_) (fun c => ?_)
    · have c' : waysN r t ≤ s' := by
        have := of_decide_eq_true c
        omega
      cases n with
      | zero =>
        have f := ways_far r (by omega) h1
        have z : t = 101 := by omega
        rw [z] at c'
        omega
      | succ n =>
        rw [oft_yes c'] at e
        refine ⟨fun σ' H'' => ∃ t : Nat, t + n = 101 ∧ H'' = H' ∧ σ' = [some (.int (s' : Int)), some (.int (r : Int)), some (.int (t : Int))] ∧ oftGo s' r n t = oftN s' r, fun σ' H'' q => ⟨n, Nat.lt_succ_self n, q⟩, ?_⟩
        exact ⟨_, rfl, _, _, rfl, rfl, t + 1, by omega, rfl, rfl, e⟩
    · have c' : ¬ waysN r t ≤ s' := fun z => c (decide_eq_true (by omega))
      rw [oft_no c'] at e
      rw [← e] at k
      exact ⟨_, rfl, k⟩
def sp_cost : Sp := fun vs H Q _ => ∃ s r : Nat, vs = [.int (s : Int), .int (r : Int)] ∧ s ≤ 100 ∧ 1 ≤ r ∧ r ≤ 12 ∧ Q (.int (costN s r)) H
theorem ok_cost (T : Txt K mg) : OkF P w K mg base "cost" 4 ["steps", "room"] (sp_cost) := by
  obtain ⟨f_often, fd_often, m_often, k_often, b_often, G_often⟩ := ok_often (P := P) (w := w) (base := base) T
  obtain ⟨f_ways, fd_ways, m_ways, k_ways, b_ways, G_ways⟩ := ok_ways (P := P) (w := w) (base := base) T
  refine okf T.d_cost sc_cost (fun vs H Q E h => ?_) (fun f cdv A outer s H vs Q E hr h => ?_)
  · obtain ⟨s', r, rfl, hs, h1, h2, k⟩ := h
    rfl
  · obtain ⟨s', r, rfl, hs, h1, h2, k⟩ := h
    refine ⟨_, (pss_cons (ps_set (i := 2) sc_cost.nd rfl (Or.inl rfl) (pe_call G_often (hr.mono (by decide)) (by rfl) m_often k_often b_often .nil passL (pa_cons (pv 0) (pa_cons (pv 1) pa_nil))))
        (pss_cons (ps_if (pt_cmpR op_eq (pv 2) pe_int (nomark _))
        (pss_one (ps_ret pe_int))
        pss_nil)
        (pss_one (ps_ret (pe_op op_sub (pe_op op_mul (pv 2) (pe_op op_add (pv 0) pe_int)) (pe_call G_ways (hr.mono (by decide)) (by rfl) m_ways k_ways b_ways .nil passL (pa_cons (pe_op op_add (pv 1) pe_int) (pa_cons (pe_op op_sub (pv 2) pe_int) pa_nil)))))))), ?_⟩
    refine ⟨_, rfl, _, rfl, s', r, rfl, hs, h1, h2, ?_⟩
    refine ⟨_, rfl, rfl, _, rfl, ?_⟩
    have lb := oftN_le s' r
    refine ite2 (fun c => ?_) (fun c => ?_)
    · have c' : oftN s' r = 0 := by
        have := V.int.inj (of_decide_eq_true c)
        omega
      unfold costN at k
      rw [if_pos c'] at k
      exact k
    · have c' : ¬ oftN s' r = 0 := fun z => c (decide_eq_true (by rw [z] <;> rfl))
      unfold costN at k
      rw [if_neg c'] at k
      refine ⟨_, rfl, _, rfl, _, _, rfl, rfl, _, _, rfl, rfl, .inl ⟨by omega, by omega⟩, _, rfl, _, _, rfl, rfl, _, rfl, _, _, rfl, rfl, r + 1, oftN s' r - 1, ?_, by omega, _, _, rfl, rfl, k⟩
      have e : ((oftN s' r : Int) - 1) = ((oftN s' r - 1 : Nat) : Int) := by omega
      show [V.int ((r : Int) + 1), V.int ((oftN s' r : Int) - 1)] = _
      rw [e] <;> rfl
def sp_least (K : PySem.W.Frag) (C : Addr) : Sp := fun vs H Q E => (∃ s r : Nat, vs = [.int (s : Int), .int (r : Int)] ∧ s ≤ 100 ∧ 1 ≤ r ∧ r ≤ 12 ∧ Q (.int (costN s r)) H) ∨
  (∃ (x y : V) (o1 o2 : Option Int), vs = [x, y] ∧ Thg K H x o1 ∧ Thg K H y o2 ∧ goodC o1 o2 = false ∧ E (.ref C) none H)
theorem good_ok {s r : Nat} (h1 : s ≤ 100) (h2 : 1 ≤ r) (h3 : r ≤ 12) : goodC (some (s : Int)) (some (r : Int)) = true := by
  show ((decide ((0 : Int) ≤ (s : Int)) && decide ((s : Int) ≤ 100)) && (decide ((1 : Int) ≤ (r : Int)) && decide ((r : Int) ≤ 12))) = true
  simp only [Bool.and_eq_true, decide_eq_true_eq]
  omega
theorem good_nums {K : PySem.W.Frag} {H : Hp} {x y : V} {o1 o2 : Option Int} (t1 : Thg K H x o1) (t2 : Thg K H y o2) (g : goodC o1 o2 = true) : ∃ s r : Nat, s ≤ 100 ∧ 1 ≤ r ∧ r ≤ 12 ∧ x = .int (s : Int) ∧ y = .int (r : Int) := by
  unfold goodC at g
  obtain ⟨g1, g2⟩ := (Bool.and_eq_true _ _ ▸ g : _ ∧ _)
  cases t1 with
  | int i =>
    cases t2 with
    | int j =>
      have g1' : (decide ((0 : Int) ≤ i) && decide (i ≤ 100)) = true := g1
      have g2' : (decide ((1 : Int) ≤ j) && decide (j ≤ 12)) = true := g2
      simp only [Bool.and_eq_true, decide_eq_true_eq] at g1' g2'
      exact ⟨i.toNat, j.toNat, by omega, by omega, by omega, by rw [Int.toNat_of_nonneg g1'.1], by rw [Int.toNat_of_nonneg (by omega)]⟩
    | bl b => exact absurd (show false = true from g2) (by decide)
    | oth _ _ => exact absurd (show false = true from g2) (by decide)
  | bl b => exact absurd (show false = true from g1) (by decide)
  | oth _ _ => exact absurd (show false = true from g1) (by decide)
theorem ok_least (T : Txt K mg) : OkF P w K mg base "least" 5 ["steps", "room"] (sp_least K T.aBadCount) := by
  obtain ⟨f_need_counts, fd_need_counts, m_need_counts, k_need_counts, b_need_counts, G_need_counts⟩ := ok_need_counts (P := P) (w := w) (base := base) T
  obtain ⟨f_cost, fd_cost, m_cost, k_cost, b_cost, G_cost⟩ := ok_cost (P := P) (w := w) (base := base) T
  refine okf T.d_least sc_least (fun vs H Q E h => ?_) (fun f cdv A outer s H vs Q E hr h => ?_)
  · rcases h with ⟨s', r, rfl, h1, h2, h3, k⟩ | ⟨x, y, o1, o2, rfl, t1, t2, g, k⟩ <;> rfl
  · skip
    refine ⟨_, (pss_cons (ps_expr (pe_call G_need_counts (hr.mono (by decide)) (by rfl) m_need_counts k_need_counts b_need_counts .nil (passes_call (W := fun cls d _ H => E cls d H) (takes_of rfl rfl rfl rfl) (fun _ _ _ _ h => h)) (pa_cons (pv 0) (pa_cons (pv 1) pa_nil))))
        (pss_one (ps_ret (pe_call G_cost (hr.mono (by decide)) (by rfl) m_cost k_cost b_cost .nil passL (pa_cons (pv 0) (pa_cons (pv 1) pa_nil)))))), ?_⟩
    rcases h with ⟨s', r, rfl, h1, h2, h3, k⟩ | ⟨x, y, o1, o2, rfl, t1, t2, g, k⟩
    · refine ⟨_, rfl, _, rfl, _, _, _, _, rfl, .int _, .int _, fun _ => ?_, fun z => absurd (good_ok h1 h2 h3) (by rw [z]; decide)⟩
      exact ⟨_, rfl, _, rfl, s', r, rfl, h1, h2, h3, k⟩
    · exact ⟨_, rfl, _, rfl, x, y, o1, o2, rfl, t1, t2, fun z => absurd g (by rw [z]; decide), fun _ => k⟩
def sp_first_mark : Sp := fun vs H Q _ => ∃ s r : Nat, vs = [.int (s : Int), .int (r : Int)] ∧ 1 ≤ s ∧ s ≤ 100 ∧ 2 ≤ r ∧ r ≤ 12 ∧ Q (.int (markN s r : Int)) H
theorem ok_first_mark (T : Txt K mg) : OkF P w K mg base "first_mark" 4 ["steps", "room"] (sp_first_mark) := by
  obtain ⟨f_often, fd_often, m_often, k_often, b_often, G_often⟩ := ok_often (P := P) (w := w) (base := base) T
  obtain ⟨f_ways, fd_ways, m_ways, k_ways, b_ways, G_ways⟩ := ok_ways (P := P) (w := w) (base := base) T
  refine okf T.d_first_mark sc_first_mark (fun vs H Q E h => ?_) (fun f cdv A outer s H vs Q E hr h => ?_)
  · obtain ⟨s', r, rfl, hs0, hs, h1, h2, k⟩ := h
    rfl
  · obtain ⟨s', r, rfl, hs0, hs, h1, h2, k⟩ := h
    refine ⟨_, (pss_cons (ps_set (i := 2) sc_first_mark.nd rfl (Or.inl rfl) (pe_call G_often (hr.mono (by decide)) (by rfl) m_often k_often b_often .nil passL (pa_cons (pv 0) (pa_cons (pv 1) pa_nil))))
        (pss_one (ps_ret (pe_callB (call_min2 rfl) (by rfl) T.n_min (by decide +kernel) (pa_cons (pe_call G_ways (hr.mono (by decide)) (by rfl) m_ways k_ways b_ways .nil passL (pa_cons (pv 1) (pa_cons (pe_op op_sub (pv 2) pe_int) pa_nil))) (pa_cons (pe_op op_sub (pe_op op_add (pv 0) pe_int) (pe_call G_ways (hr.mono (by decide)) (by rfl) m_ways k_ways b_ways .nil passL (pa_cons (pe_op op_sub (pv 1) pe_int) (pa_cons (pe_op op_sub (pv 2) pe_int) pa_nil)))) pa_nil)))))), ?_⟩
    have o := oft_le (s := s') (r := r) (by omega) (by omega) (by omega)
    obtain ⟨oa, ob⟩ := oft_spec (s := s') (r := r) (by omega) (by omega) (by omega)
    have o1 : 1 ≤ oftN s' r := by
      by_cases z : oftN s' r = 0
      · rw [z, ways_zero r (by omega)] at ob
        omega
      · omega
    have ow := oa (oftN s' r - 1) (by omega)
    have ow2 : waysN (r - 1) (oftN s' r - 1) ≤ waysN r (oftN s' r - 1) := by
      obtain ⟨q, rfl⟩ : ∃ q, r = q + 1 := ⟨r - 1, by omega⟩
      rw [show q + 1 - 1 = q by omega]
      have hu : oftN s' (q + 1) - 1 ≤ 100 := by omega
      generalize oftN s' (q + 1) - 1 = u at ow hu ⊢
      cases u with
      | zero => rw [ways_zero q (by omega), ways_zero (q + 1) (by omega)]; omega
      | succ u => rw [pascal (r := q) (t := u) (by omega) (by omega)]; omega
    have e1 : ((oftN s' r : Int) - 1) = ((oftN s' r - 1 : Nat) : Int) := by omega
    have e2 : ((r : Int) - 1) = ((r - 1 : Nat) : Int) := by omega
    refine ⟨_, rfl, _, rfl, s', r, rfl, by omega, by omega, by omega, ?_⟩
    refine ⟨_, rfl, _, rfl, _, _, rfl, rfl, r, oftN s' r - 1, by rw [← e1] <;> rfl, by omega, ?_⟩
    refine ⟨_, rfl, _, _, rfl, rfl, _, rfl, _, _, rfl, rfl, _, rfl, _, _, rfl, rfl, r - 1, oftN s' r - 1, by rw [← e1, ← e2] <;> rfl, by omega, _, _, rfl, rfl, _, _, rfl, ?_⟩
    have e3 : ((s' : Int) + 1 - (waysN (r - 1) (oftN s' r - 1) : Int)) = ((s' + 1 - waysN (r - 1) (oftN s' r - 1) : Nat) : Int) := by omega
    have em : (if ((s' : Int) + 1 - (waysN (r - 1) (oftN s' r - 1) : Int)) < (waysN r (oftN s' r - 1) : Int) then ((s' : Int) + 1 - (waysN (r - 1) (oftN s' r - 1) : Int)) else (waysN r (oftN s' r - 1) : Int)) = (markN s' r : Int) := by
      unfold markN
      rw [e3]
      by_cases z : ((s' + 1 - waysN (r - 1) (oftN s' r - 1) : Nat) : Int) < (waysN r (oftN s' r - 1) : Int)
      · rw [if_pos z]
        omega
      · rw [if_neg z]
        omega
    rw [← em] at k
    exact k
def sp_again_and_again : Sp := fun vs H Q _ => ∃ a n : Nat, vs = [.int (a : Int), .int (n : Int)] ∧ n ≤ 100 ∧ RetD H (againN a n) Q
theorem ok_again_and_again (T : Txt K mg) : OkF P w K mg base "again_and_again" 1 ["start", "steps"] (sp_again_and_again) := by
  refine okf T.d_again_and_again sc_again_and_again (fun vs H Q E h => ?_) (fun f cdv A outer s H vs Q E hr h => ?_)
  · obtain ⟨a, n, rfl, hn, k⟩ := h
    rfl
  · obtain ⟨a, n, rfl, hn, k⟩ := h
    refine ⟨_, (pss_cons (ps_set (i := 2) sc_again_and_again.nd rfl (Or.inl rfl) (pe_lst pa_nil))
        (pss_cons (ps_for (passes_of rfl) rfl (pi_range3 (by rfl) T.n_range (pa_cons (pv 1) (pa_cons pe_int (pa_cons (pe_un un_neg pe_int) pa_nil)))) (pg_name (i := 3) sc_again_and_again.nd rfl (Or.inl rfl))
        (pss_one (ps_expr (pe_bm PySem.F.plainAttrs_list PySem.F.slot_list_extend PySem.F.type_list_extend mt_extend (pv 2) (pa_cons (pe_lst (pa_cons (pe_tup (pa_cons pe_str (pa_cons (pv 3) pa_nil))) (pa_cons (pe_tup (pa_cons pe_str pa_nil)) (pa_cons (pe_tup (pa_cons pe_str (pa_cons (pv 0) pa_nil))) pa_nil)))) pa_nil)))))
        (pss_one (ps_ret (pe_op op_cat (pv 2) (pe_lst (pa_cons (pe_tup (pa_cons pe_str pa_nil)) pa_nil))))))), ?_⟩
    refine ⟨by show 0 ≤ sizeLine; decide, fun p hp => ?_⟩
    refine ⟨_, rfl, _, rfl, _, _, _, _, rfl, RgC.neg (by omega) (by omega) (by omega) (by omega), ?_⟩
    have e0 : ((n : Int) - 0).toNat = n := by omega
    refine for_rangeC (lo := (n : Int)) (c := -1) (n := ((n : Int) - 0).toNat) (fun i σ H' => ∃ u ps, σ = [some (.int (a : Int)), some (.int (n : Int)), some (.ref p), u] ∧ Same H H' ∧ H' p = some (.lst (refs ps)) ∧ DS H' ps ∧ ps.map (·.2) = aPre a n i)
      ⟨none, [], rfl, Same.new hp, upd_same, fun q hq => (nomatch hq), rfl⟩ ?_ ?_
    · rintro i σ H' hi ⟨u, ps, rfl, sm, hP, hD, hps⟩
      rw [e0] at hi
      refine ⟨_, rfl, .inl ⟨rfl, _, SqL.of hP⟩, ?_⟩
      refine ⟨_, rfl, by show 2 ≤ sizeLine; decide, fun t1 h1 => ?_⟩
      refine ⟨by show 1 ≤ sizeLine; decide, fun t2 h2 => ?_⟩
      refine ⟨_, rfl, by show 2 ≤ sizeLine; decide, fun t3 h3 => ?_⟩
      refine ⟨by show 3 ≤ sizeLine; decide, fun l hl => ?_⟩
      have lp := (len_of hps).trans (aPre_len a n i)
      have hp0 : H p = none := hp
      have n1 : p ≠ t1 := ne_of_none hP h1
      have n2 : p ≠ t2 := ne_of_none (o := .lst (refs ps)) (by rw [upd_ne n1]; exact hP) h2
      have n3 : p ≠ t3 := ne_of_none (o := .lst (refs ps)) (by rw [upd_ne n2, upd_ne n1]; exact hP) h3
      have n4 : p ≠ l := ne_of_none (o := .lst (refs ps)) (by rw [upd_ne n3, upd_ne n2, upd_ne n1]; exact hP) hl
      refine ⟨p, l, _, _, rfl, rfl, by rw [upd_ne n4, upd_ne n3, upd_ne n2, upd_ne n1]; exact hP, upd_same, sz5 (by rw [refs_len, lp]; show 3 * i + 3 ≤ 100000; omega), ?_⟩
      have sA := ((Same.new (o := .tup [.str "go", .int ((n : Int) + (i : Int) * -1)]) h1).trans (Same.new (o := .tup [.str "meet"]) h2)).trans ((Same.new (o := .tup [.str "take", .int (a : Int)]) h3).trans (Same.new (o := .lst [.ref t1, .ref t2, .ref t3]) hl))
      have eg : (n : Int) + (i : Int) * -1 = ((n - i : Nat) : Int) := by omega
      refine ⟨_, ps ++ [(t1, .go (n - i)), (t2, .meet), (t3, .take a)], rfl, Same.mut (sm.trans sA) hp0, ?_, ?_, ?_⟩
      · rw [upd_same, refs_append] <;> rfl
      · have m12 : t1 ≠ t2 := ne_of_none upd_same h2
        have m13 : t1 ≠ t3 := ne_of_none (o := .tup [.str "go", .int ((n : Int) + (i : Int) * -1)]) (by rw [upd_ne m12]; exact upd_same) h3
        have m14 : t1 ≠ l := ne_of_none (o := .tup [.str "go", .int ((n : Int) + (i : Int) * -1)]) (by rw [upd_ne m13, upd_ne m12]; exact upd_same) hl
        have m23 : t2 ≠ t3 := ne_of_none upd_same h3
        have m24 : t2 ≠ l := ne_of_none (o := .tup [.str "meet"]) (by rw [upd_ne m23]; exact upd_same) hl
        have m34 : t3 ≠ l := ne_of_none upd_same hl
        intro q hq
        rcases List.mem_append.mp hq with z | z
        · have nq : q.1 ≠ p := by
            intro e
            have w1 := hD q z
            rw [e, hP] at w1
            cases w1
          rw [upd_ne nq]
          exact sA _ _ (hD q z)
        · simp only [List.mem_cons, List.not_mem_nil, or_false] at z
          rcases z with rfl | rfl | rfl
          · show upd _ p _ t1 = some (.tup [.str "go", .int ((n - i : Nat) : Int)])
            rw [upd_ne n1.symm, upd_ne m14, upd_ne m13, upd_ne m12, upd_same, eg]
          · show upd _ p _ t2 = some (.tup [.str "meet"])
            rw [upd_ne n2.symm, upd_ne m24, upd_ne m23, upd_same]
          · show upd _ p _ t3 = some (.tup [.str "take", .int (a : Int)])
            rw [upd_ne n3.symm, upd_ne m34, upd_same]
      · rw [List.map_append, hps] <;> rfl
    · rintro σ H' ⟨u, ps, rfl, sm, hP, hD, hps⟩
      rw [e0] at hps
      refine ⟨_, rfl, by show 1 ≤ sizeLine; decide, fun t ht => ?_⟩
      refine ⟨by show 1 ≤ sizeLine; decide, fun l hl => ?_⟩
      have lp := (len_of hps).trans (aPre_len a n n)
      have n1 : p ≠ t := ne_of_none hP ht
      have n2 : p ≠ l := ne_of_none (o := .lst (refs ps)) (by rw [upd_ne n1]; exact hP) hl
      have sA := (Same.new (o := .tup [.str "meet"]) ht).trans (Same.new (o := .lst [.ref t]) hl)
      refine ⟨p, l, _, _, rfl, rfl, by rw [upd_ne n2, upd_ne n1]; exact hP, upd_same, sz5 (by rw [refs_len, lp]; show 3 * n + 1 ≤ 100000; omega), fun q hq => ?_⟩
      have sB := sA.trans (Same.new (o := .lst (refs ps ++ [.ref t])) hq)
      refine k q _ (ps ++ [(t, .meet)]) (sm.free (sA.free hq)) (sm.trans sB) ?_ ?_ ?_
      · rw [List.map_append, hps] <;> rfl
      · rw [upd_same, refs_append] <;> rfl
      · refine (hD.same sB).append fun x hx => ?_
        rw [List.mem_singleton.mp hx]
        have m1 : t ≠ l := ne_of_none upd_same hl
        have m2 : t ≠ q := ne_of_none (o := .tup [.str "meet"]) (by rw [upd_ne m1]; exact upd_same) hq
        show upd _ q _ t = some (.tup [.str "meet"])
        rw [upd_ne m2, upd_ne m1, upd_same]
def sp_from_mark (j : Nat) : Sp := fun vs H Q _ => ∃ a n r : Nat, vs = [.int (a : Int), .int (n : Int), .int (r : Int)] ∧ n < j ∧ n ≤ 100 ∧ 1 ≤ r ∧ r ≤ 12 ∧ RetD H (fromN j a n r) Q
theorem ok_from_mark_at (T : Txt K mg) {f : Addr} {fd : FuncData} (m_from_mark : mg "from_mark" = some (.ref f)) (F : Fun K "from_mark" "from_mark" s_from_mark f fd) (b_from_mark : Binds K fd ["start", "steps", "room"] []) :
    ∀ j, FnOk P w K mg base (L2.CX P w) (4 + j) f fd ["start", "steps", "room"] (sp_from_mark j)
  | 0 => ⟨fun vs H Q E h => by obtain ⟨_, _, _, _, h, _⟩ := h; omega, fun A outer s H args us vs Q E _ _ _ _ h => by obtain ⟨_, _, _, _, h, _⟩ := h; omega⟩
  | j + 1 => by
    have G_from_mark := ok_from_mark_at T m_from_mark F b_from_mark j
    have k_from_mark := F.kp
    obtain ⟨f_again_and_again, fd_again_and_again, m_again_and_again, k_again_and_again, b_again_and_again, G_again_and_again⟩ := ok_again_and_again (P := P) (w := w) (base := base) T
    obtain ⟨f_first_mark, fd_first_mark, m_first_mark, k_first_mark, b_first_mark, G_first_mark⟩ := ok_first_mark (P := P) (w := w) (base := base) T
    refine F.okX sc_from_mark (fun vs H Q E h => ?_) (fun cdv A outer s H vs Q E hr h => ?_)
    · obtain ⟨a, n, r, rfl, _⟩ := h
      rfl
    · obtain ⟨a, n, r, rfl, hj, hn, h1, h2, k⟩ := h
      have hr : Room (4 + j) _ := hr
      refine ⟨_, (Evl.pss_cut (ps_if (PW.pt (pw_or (pt_cmpR op_eq (pv 1) pe_int (nomark _)) (pw_or1 (pt_cmpR op_eq (pv 2) pe_int (nomark _)))))
    (pss_one (ps_ret (pe_call G_again_and_again (hr.mono (by omega)) (by rfl) m_again_and_again k_again_and_again b_again_and_again .nil passL (pa_cons (pv 0) (pa_cons (pv 1) pa_nil)))))
    pss_nil)
    (pss_cons (ps_set (i := 3) sc_from_mark.nd rfl (Or.inl rfl) (pe_call G_first_mark (hr.mono (by omega)) (by rfl) m_first_mark k_first_mark b_first_mark .nil passL (pa_cons (pv 1) (pa_cons (pv 2) pa_nil))))
    (pss_cons (ps_set (i := 4) sc_from_mark.nd rfl (Or.inl rfl) (pe_op op_cat (pe_lst (pa_cons (pe_tup (pa_cons pe_str (pa_cons (pv 3) pa_nil))) (pa_cons (pe_tup (pa_cons pe_str pa_nil)) pa_nil))) (pe_call G_from_mark (hr.mono (by omega)) (by rfl) m_from_mark k_from_mark b_from_mark .nil passL (pa_cons (pe_op op_add (pv 0) (pv 3)) (pa_cons (pe_op op_sub (pv 1) (pv 3)) (pa_cons (pe_op op_sub (pv 2) pe_int) pa_nil))))))
    (pss_cons (ps_expr (pe_bm PySem.F.plainAttrs_list PySem.F.slot_list_extend PySem.F.type_list_extend mt_extend (pv 4) (pa_cons (pe_lst (pa_cons (pe_tup (pa_cons pe_str (pa_cons (pe_op op_add (pv 0) (pv 3)) pa_nil))) (pa_cons (pe_tup (pa_cons pe_str (pa_cons (pv 0) pa_nil))) pa_nil))) pa_nil)))
    (pss_one (ps_ret (pe_op op_cat (pv 4) (pe_call G_from_mark (hr.mono (by omega)) (by rfl) m_from_mark k_from_mark b_from_mark .nil passL (pa_cons (pv 0) (pa_cons (pe_op op_sub (pv 3) pe_int) (pa_cons (pv 2) pa_nil))))))))))), ?_⟩
      have tl : ∀ X : Prop, (¬ (n = 0 ∨ r = 1) → X) → (n = 0 ∨ r = 1 → X) → X := fun X x1 x2 => by
        by_cases c : n = 0 ∨ r = 1
        · exact x2 c
        · exact x1 c
      refine ⟨fun σ H' => H' = H ∧ σ = [some (.int (a : Int)), some (.int (n : Int)), some (.int (r : Int)), none, none] ∧ ¬ (n = 0 ∨ r = 1), ?_, ?_⟩
      · have base' : n = 0 ∨ r = 1 → RetD H (againN a n) Q := fun c => by
          have e : fromN (j + 1) a n r = againN a n := by
            show (if n = 0 ∨ r = 1 then againN a n else _) = _
            rw [if_pos c]
          rw [e] at k
          exact k
        refine ⟨_, rfl, rfl, _, rfl, ?_⟩
        refine ite2 (fun c => ?_) (fun c => ?_)
        · have c' : n = 0 := by
            have := V.int.inj (of_decide_eq_true c)
            omega
          exact iteT ⟨_, rfl, _, rfl, a, n, rfl, hn, base' (.inl c')⟩
        · refine ⟨_, rfl, rfl, _, rfl, ?_⟩
          refine ite2 (fun c2 => ?_) (fun c2 => ?_)
          · have c' : r = 1 := by
              have := V.int.inj (of_decide_eq_true c2)
              omega
            exact ⟨_, rfl, _, rfl, a, n, rfl, hn, base' (.inr c')⟩
          · refine ⟨rfl, rfl, fun z => ?_⟩
            rcases z with z | z
            · exact c (decide_eq_true (by rw [z] <;> rfl))
            · exact c2 (decide_eq_true (by rw [z] <;> rfl))
      rintro σ H' ⟨rfl, rfl, hc⟩
      obtain ⟨m1, m2, _⟩ := mark_ok (s := n) (r := r - 1) hn (by omega) (by omega) (by omega)
      rw [show r - 1 + 1 = r by omega] at m1 m2
      have ek : fromN (j + 1) a n r = ([.go (markN n r), .keep] ++ fromN j (a + markN n r) (n - markN n r) (r - 1) ++ [.drop (a + markN n r), .take a]) ++ fromN j a (markN n r - 1) r := by
        show (if n = 0 ∨ r = 1 then againN a n else _) = _
        rw [if_neg hc]
      refine ⟨_, rfl, _, rfl, n, r, rfl, by omega, hn, by omega, h2, ?_⟩
      refine ⟨_, rfl, by show 2 ≤ sizeLine; decide, fun t1 q1 => ?_⟩
      refine ⟨by show 1 ≤ sizeLine; decide, fun t2 q2 => ?_⟩
      refine ⟨by show 2 ≤ sizeLine; decide, fun l ql => ?_⟩
      have n12 : t1 ≠ t2 := ne_of_none upd_same q2
      have n1l : t1 ≠ l := ne_of_none (o := .tup [.str "go", .int (markN n r : Int)]) (by rw [upd_ne n12]; exact upd_same) ql
      have n2l : t2 ≠ l := ne_of_none upd_same ql
      have sA := ((Same.new (o := .tup [.str "go", .int (markN n r : Int)]) q1).trans (Same.new (o := .tup [.str "keep"]) q2)).trans (Same.new (o := .lst [.ref t1, .ref t2]) ql)
      refine ⟨_, rfl, _, rfl, _, _, rfl, rfl, _, rfl, _, rfl, _, _, rfl, rfl, _, rfl, _, _, rfl, rfl, a + markN n r, n - markN n r, r - 1, ?_, by omega, by omega, by omega, by omega, fun p1 H1 ps1 hp1 sB hps1 hP1 hD1 => ?_⟩
      · have e1 : ((n : Int) - (markN n r : Int)) = ((n - markN n r : Nat) : Int) := by omega
        have e2 : ((r : Int) - 1) = ((r - 1 : Nat) : Int) := by omega
        rw [Int.natCast_add, ← e1, ← e2] <;> rfl
      have l1 := from_len j (a + markN n r) (n - markN n r) (r - 1) (by omega) (by omega) (by omega) (by omega)
      have l2 := from_len j a (markN n r - 1) r (by omega) h1 h2 (by omega)
      have lp1 := len_of hps1
      refine ⟨l, p1, _, _, rfl, rfl, sB _ _ upd_same, hP1, sz5 (by rw [refs_len, lp1]; show 2 + _ ≤ 100000; omega), fun g qg => ?_⟩
      have sC := (sA.trans sB).trans (Same.new (o := .lst ([.ref t1, .ref t2] ++ refs ps1)) qg)
      have D0 : DS (upd H1 g (.lst ([.ref t1, .ref t2] ++ refs ps1))) ([(t1, .go (markN n r)), (t2, .keep)] ++ ps1) := by
        refine DS.append (fun x hx => ?_) (hD1.same (Same.new qg))
        simp only [List.mem_cons, List.not_mem_nil, or_false] at hx
        rcases hx with rfl | rfl
        · exact (Same.new qg) _ _ (sB _ _ (by rw [upd_ne n1l, upd_ne n12]; exact upd_same))
        · exact (Same.new qg) _ _ (sB _ _ (by rw [upd_ne n2l]; exact upd_same))
      -- found.extend(..)
      refine ⟨_, rfl, .inl ⟨rfl, _, SqL.of upd_same⟩, ?_⟩
      refine ⟨_, rfl, _, rfl, _, _, rfl, rfl, by show 2 ≤ sizeLine; decide, fun t3 q3 => ?_⟩
      refine ⟨_, rfl, by show 2 ≤ sizeLine; decide, fun t4 q4 => ?_⟩
      refine ⟨by show 2 ≤ sizeLine; decide, fun l' ql' => ?_⟩
      have g3 : g ≠ t3 := ne_of_none upd_same q3
      have g4 : g ≠ t4 := ne_of_none (o := .lst ([.ref t1, .ref t2] ++ refs ps1)) (by rw [upd_ne g3]; exact upd_same) q4
      have gl : g ≠ l' := ne_of_none (o := .lst ([.ref t1, .ref t2] ++ refs ps1)) (by rw [upd_ne g4, upd_ne g3]; exact upd_same) ql'
      have n34 : t3 ≠ t4 := ne_of_none upd_same q4
      have n3l : t3 ≠ l' := ne_of_none (o := .tup [.str "drop", .int ((a : Int) + (markN n r : Int))]) (by rw [upd_ne n34]; exact upd_same) ql'
      have n4l : t4 ≠ l' := ne_of_none upd_same ql'
      refine ⟨g, l', _, _, rfl, rfl, by rw [upd_ne gl, upd_ne g4, upd_ne g3]; exact upd_same, upd_same, sz5 (by rw [List.length_append, refs_len, lp1]; show 2 + _ + 2 ≤ 100000; omega), ?_⟩
      have sD := ((Same.new (o := .tup [.str "drop", .int ((a : Int) + (markN n r : Int))]) q3).trans (Same.new (o := .tup [.str "take", .int (a : Int)]) q4)).trans (Same.new (o := .lst [.ref t3, .ref t4]) ql')
      have hg0 : H' g = none := sA.free (sB.free qg)
      have D1 := D0.same sD
      have D2 : ∀ zs, DS (upd (upd (upd (upd (upd H1 g (.lst ([.ref t1, .ref t2] ++ refs ps1))) t3 (.tup [.str "drop", .int ((a : Int) + (markN n r : Int))])) t4 (.tup [.str "take", .int (a : Int)])) l' (.lst [.ref t3, .ref t4])) g (.lst zs)) (([(t1, .go (markN n r)), (t2, .keep)] ++ ps1) ++ [(t3, .drop (a + markN n r)), (t4, .take a)]) := fun zs => by
        intro x hx
        rcases List.mem_append.mp hx with z | z
        · have nq : x.1 ≠ g := by
            intro e
            have w1 := D0 x z
            rw [e, upd_same] at w1
            cases w1
          rw [upd_ne nq]
          exact D1 x z
        · simp only [List.mem_cons, List.not_mem_nil, or_false] at z
          rcases z with rfl | rfl
          · show upd _ g _ t3 = some (.tup [.str "drop", .int ((a + markN n r : Nat) : Int)])
            rw [upd_ne g3.symm, upd_ne n3l, upd_ne n34, upd_same, Int.natCast_add]
          · show upd _ g _ t4 = some (.tup [.str "take", .int (a : Int)])
            rw [upd_ne g4.symm, upd_ne n4l, upd_same]
      -- found + from_mark(..)
      refine ⟨_, rfl, _, rfl, _, rfl, _, _, rfl, rfl, _, rfl, a, markN n r - 1, r, ?_, by omega, by omega, h1, h2, fun p2 H2 ps2 hp2 sE hps2 hP2 hD2 => ?_⟩
      · have e1 : ((markN n r : Int) - 1) = ((markN n r - 1 : Nat) : Int) := by omega
        rw [← e1] <;> rfl
      have lp2 := len_of hps2
      refine ⟨g, p2, _, _, rfl, rfl, sE _ _ upd_same, hP2, sz5 (by rw [List.length_append, List.length_append, refs_len, lp1, refs_len, lp2]; show 2 + _ + 2 + _ ≤ 100000; omega), fun e qe => ?_⟩
      have sF := Same.mut (sC.trans sD) (o := .lst (([.ref t1, .ref t2] ++ refs ps1) ++ [.ref t3, .ref t4])) hg0
      have sG := (sF.trans sE).trans (Same.new (o := .lst ((([.ref t1, .ref t2] ++ refs ps1) ++ [.ref t3, .ref t4]) ++ refs ps2)) qe)
      refine k e _ ((([(t1, .go (markN n r)), (t2, .keep)] ++ ps1) ++ [(t3, .drop (a + markN n r)), (t4, .take a)]) ++ ps2) ((sF.trans sE).free qe) sG ?_ ?_ ?_
      · rw [ek, List.map_append, List.map_append, List.map_append, hps1, hps2] <;> rfl
      · rw [upd_same, refs_append, refs_append, refs_append] <;> rfl
      · exact (((D2 _).same sE).same (Same.new qe)).append (hD2.same (Same.new qe))
theorem ok_from_mark (T : Txt K mg) : OkF P w K mg base "from_mark" 105 ["start", "steps", "room"] (sp_from_mark 101) := by
  obtain ⟨f, fd, hm, F, hb⟩ := T.d_from_mark
  exact ⟨f, fd, hm, F.kp, hb, ok_from_mark_at T hm F hb 101⟩
def sp_plan (K : PySem.W.Frag) (C : Addr) : Sp := fun vs H Q E => (∃ s r : Nat, vs = [.int (s : Int), .int (r : Int)] ∧ s ≤ 100 ∧ 1 ≤ r ∧ r ≤ 12 ∧ RetD H (planN s r) Q) ∨
  (∃ (x y : V) (o1 o2 : Option Int), vs = [x, y] ∧ Thg K H x o1 ∧ Thg K H y o2 ∧ goodC o1 o2 = false ∧ E (.ref C) none H)
theorem ok_plan (T : Txt K mg) : OkF P w K mg base "plan" 106 ["steps", "room"] (sp_plan K T.aBadCount) := by
  obtain ⟨f_need_counts, fd_need_counts, m_need_counts, k_need_counts, b_need_counts, G_need_counts⟩ := ok_need_counts (P := P) (w := w) (base := base) T
  obtain ⟨f_from_mark, fd_from_mark, m_from_mark, k_from_mark, b_from_mark, G_from_mark⟩ := ok_from_mark (P := P) (w := w) (base := base) T
  refine okf T.d_plan sc_plan (fun vs H Q E h => ?_) (fun f cdv A outer s H vs Q E hr h => ?_)
  · rcases h with ⟨s', r, rfl, h1, h2, h3, k⟩ | ⟨x, y, o1, o2, rfl, t1, t2, g, k⟩ <;> rfl
  · skip
    refine ⟨_, (pss_cons (ps_expr (pe_call G_need_counts (hr.mono (by decide)) (by rfl) m_need_counts k_need_counts b_need_counts .nil (passes_call (W := fun cls d _ H => E cls d H) (takes_of rfl rfl rfl rfl) (fun _ _ _ _ h => h)) (pa_cons (pv 0) (pa_cons (pv 1) pa_nil))))
        (pss_cons (ps_if (pt_cmpR op_eq (pv 0) pe_int (nomark _))
        (pss_one (ps_ret (pe_lst (pa_cons (pe_tup (pa_cons pe_str pa_nil)) pa_nil))))
        pss_nil)
        (pss_one (ps_ret (pe_op op_cat (pe_lst (pa_cons (pe_tup (pa_cons pe_str pa_nil)) pa_nil)) (pe_call G_from_mark (hr.mono (by decide)) (by rfl) m_from_mark k_from_mark b_from_mark .nil passL (pa_cons pe_int (pa_cons (pv 0) (pa_cons (pv 1) pa_nil))))))))), ?_⟩
    rcases h with ⟨n, r, rfl, h1, h2, h3, k⟩ | ⟨x, y, o1, o2, rfl, t1, t2, g, k⟩
    case inr => exact ⟨_, rfl, _, rfl, x, y, o1, o2, rfl, t1, t2, fun z => absurd g (by rw [z]; decide), fun _ => k⟩
    refine ⟨_, rfl, _, rfl, _, _, _, _, rfl, .int _, .int _, fun _ => ?_, fun z => absurd (good_ok h1 h2 h3) (by rw [z]; decide)⟩
    refine ⟨_, rfl, rfl, _, rfl, ?_⟩
    unfold planN at k
    refine ite2 (fun c => ?_) (fun c => ?_)
    · have c' : n = 0 := by
        have := V.int.inj (of_decide_eq_true c)
        omega
      rw [if_pos c'] at k
      refine ⟨by show 1 ≤ sizeLine; decide, fun t ht => ?_⟩
      refine ⟨by show 1 ≤ sizeLine; decide, fun l hl => ?_⟩
      refine k l _ [(t, .meet)] ((Same.new ht).free hl) ((Same.new ht).trans (Same.new hl)) rfl upd_same fun x hx => ?_
      rw [List.mem_singleton.mp hx]
      exact (Same.new hl) _ _ upd_same
    · have c' : ¬ n = 0 := fun z => c (decide_eq_true (by rw [z] <;> rfl))
      rw [if_neg c'] at k
      refine ⟨by show 1 ≤ sizeLine; decide, fun t ht => ?_⟩
      refine ⟨by show 1 ≤ sizeLine; decide, fun l hl => ?_⟩
      refine ⟨_, rfl, _, rfl, 0, n, r, rfl, by omega, h1, h2, h3, fun p H1 ps hp s1 hps hP hD => ?_⟩
      have lf := from_len 101 0 n r (by omega) h2 h3 h1
      refine ⟨l, p, _, _, rfl, rfl, s1 _ _ upd_same, hP, sz5 (by rw [refs_len, len_of hps]; show 1 + _ ≤ 100000; omega), fun e he => ?_⟩
      have sA := ((Same.new (o := .tup [.str "keep"]) ht).trans (Same.new (o := .lst [.ref t]) hl)).trans s1
      refine k e _ ([(t, .keep)] ++ ps) (sA.free he) (sA.trans (Same.new he)) (by rw [List.map_append, hps] <;> rfl) (by rw [upd_same, refs_append] <;> rfl) ?_
      refine DS.append (fun x hx => ?_) (hD.same (Same.new he))
      rw [List.mem_singleton.mp hx]
      exact (Same.new he) _ _ (s1 _ _ ((Same.new hl) _ _ upd_same))
def sp_cost_of (K : PySem.W.Frag) : Sp := fun vs H Q _ => ∃ (p : Addr) (ps : List (Addr × Deed)), vs = [.ref p] ∧ SqL K H p (refs ps) ∧ DS H ps ∧ ps.length ≤ 10000 ∧ ∀ H', Same H H' → Q (.int (costD (ps.map (·.2)) : Int)) H'
theorem ok_cost_of (T : Txt K mg) : OkF P w K mg base "cost_of" 1 ["deeds"] (sp_cost_of K) := by
  refine okf T.d_cost_of sc_cost_of (fun vs H Q E h => ?_) (fun f cdv A outer s H vs Q E hr h => ?_)
  · obtain ⟨p, ps, rfl, hP, hD, hl, k⟩ := h
    rfl
  · obtain ⟨p, ps, rfl, hP, hD, hl, k⟩ := h
    refine ⟨_, (pss_one (ps_ret (pe_callB (cr_sum rfl) (by rfl) T.n_sum (by decide +kernel) (pa_cons (pe_lc (own := [("deed", 1)]) rfl sc_cost_of.nd (pi_list (pv 0)) (blkOk_by (own := [("deed", 1)]) (N := ["deeds", "deed"]) (sc := defScope s_cost_of) (by decide +kernel)) (fun _ _ _ _ _ => (pg_name (i := 1) sc_cost_of.nd rfl (Or.inl rfl))) (fun _ _ _ _ _ => (pts_one (pt_cmpR op_eq (pe_ix (r := rIxT K) ix_tup (pv 1) pe_int (fun _ _ => rfl)) pe_str (nomark _)))) (fun _ _ _ _ _ => (pe_ix (r := rIxT K) ix_tup (pv 1) pe_int (fun _ _ => rfl)))) pa_nil)))), ?_⟩
    refine ⟨_, rfl, p, rfl, ⟨_, hP⟩, fun D hD' => ?_⟩
    refine lc_list (K := K) (a := p) (xs := refs ps) (fun i H' => Same H H' ∧ H' D = some (.lst ((goes ((ps.take i).map (·.2))).map V.int))) ⟨Same.new hD', upd_same⟩ (fun i H' _ ⟨s1, _⟩ => s1.seq hP) ?_ ?_
    · rintro i y H' hi ⟨s1, hQ⟩
      obtain ⟨q, hq, rfl⟩ := get_map hi
      have hq' := hD q (List.mem_of_getElem? hq)
      have lt : ((goes ((ps.take i).map (·.2))).map V.int).length < sizeLine := sz5' (by
        rw [List.length_map]
        have := goes_len ((ps.take i).map (·.2))
        rw [List.length_map, List.length_take] at this
        omega)
      refine ⟨rfl, ?_⟩
      refine ⟨_, rfl, q.1, q.2.vs, _, _, rfl, rfl, SqT.of (s1 _ _ hq'), q.2.at0, rfl, _, rfl, ?_⟩
      have key : goes ((ps.take (i + 1)).map (·.2)) = goes ((ps.take i).map (·.2)) ++ (match q.2 with | .go n => [(n : Int)] | _ => []) := by
        rw [take_succ hq, List.map_append]
        exact goes_snoc _ _
      cases ed : q.2 with
      | go n =>
        refine iteT ?_
        rw [ed] at hq'
        refine ⟨_, rfl, q.1, (Deed.go n).vs, _, .int (n : Int), rfl, rfl, SqT.of (s1 _ _ hq'), rfl, _, hQ, lt, Same.mut s1 hD', ?_⟩
        rw [upd_same, key, ed, List.map_append] <;> rfl
      | keep =>
        rw [show decide (V.str Deed.keep.word = V.str "go") = false by decide +kernel]
        refine iteF ⟨s1, ?_⟩
        rw [hQ, key, ed, List.append_nil]
      | meet =>
        rw [show decide (V.str Deed.meet.word = V.str "go") = false by decide +kernel]
        refine iteF ⟨s1, ?_⟩
        rw [hQ, key, ed, List.append_nil]
      | take m =>
        rw [show decide (V.str (Deed.take m).word = V.str "go") = false from (by decide +kernel : decide (V.str "take" = V.str "go") = false)]
        refine iteF ⟨s1, ?_⟩
        rw [hQ, key, ed, List.append_nil]
      | drop m =>
        rw [show decide (V.str (Deed.drop m).word = V.str "go") = false from (by decide +kernel : decide (V.str "drop" = V.str "go") = false)]
        refine iteF ⟨s1, ?_⟩
        rw [hQ, key, ed, List.append_nil]
    · rintro H' ⟨s1, hQ⟩
      rw [refs_len, List.take_length] at hQ
      refine ⟨D, _, rfl, SqL.of hQ, ?_⟩
      rw [goes_sum]
      exact k _ s1
def sp_most_kept (K : PySem.W.Frag) : Sp := fun vs H Q _ => ∃ (p : Addr) (ps : List (Addr × Deed)), vs = [.ref p] ∧ SqL K H p (refs ps) ∧ DS H ps ∧ Q (.int (mostD (ps.map (·.2)))) H
theorem ok_most_kept (T : Txt K mg) : OkF P w K mg base "most_kept" 1 ["deeds"] (sp_most_kept K) := by
  refine okf T.d_most_kept sc_most_kept (fun vs H Q E h => ?_) (fun f cdv A outer s H vs Q E hr h => ?_)
  · obtain ⟨p, ps, rfl, hP, hD, k⟩ := h
    rfl
  · obtain ⟨p, ps, rfl, hP, hD, k⟩ := h
    refine ⟨_, (pss_cons (ps_set (i := 1) sc_most_kept.nd rfl (Or.inl rfl) pe_int)
        (pss_cons (ps_set (i := 2) sc_most_kept.nd rfl (Or.inl rfl) pe_int)
        (pss_cons (ps_for (passes_of rfl) rfl (pi_list (pv 0)) (pg_name (i := 3) sc_most_kept.nd rfl (Or.inl rfl))
        (Evl.pss_cut (ps_if (pt_cmpR op_eq (pe_ix ix_tup (pv 3) pe_int (fun _ _ => rfl)) pe_str (nomark _))
        (pss_one (ps_set (i := 1) sc_most_kept.nd rfl (Or.inl rfl) (pe_op op_add (pv 1) pe_int)))
        pss_nil)
        (Evl.pss_cut (ps_if (pt_cmpR op_eq (pe_ix ix_tup (pv 3) pe_int (fun _ _ => rfl)) pe_str (nomark _))
        (pss_one (ps_set (i := 1) sc_most_kept.nd rfl (Or.inl rfl) (pe_op op_sub (pv 1) pe_int)))
        pss_nil)
        (pss_one (ps_set (i := 2) sc_most_kept.nd rfl (Or.inl rfl) (pe_callB (call_max2 rfl) (by rfl) T.n_max (by decide +kernel) (pa_cons (pv 2) (pa_cons (pv 1) pa_nil))))))))
        (pss_one (ps_ret (pv 2)))))), ?_⟩
    refine ⟨_, rfl, p, rfl, ⟨_, hP⟩, ?_⟩
    refine for_list (K := K) (a := p) (xs := refs ps) (fun i σ H' => H' = H ∧ ∃ u, σ = [some (.ref p), some (.int (((ps.take i).map (·.2)).foldl mostStep (0, 0)).1), some (.int (((ps.take i).map (·.2)).foldl mostStep (0, 0)).2), u]) ⟨rfl, none, rfl⟩ (fun i σ H' _ ⟨e, _⟩ => by rw [e]; exact hP) ?_ ?_
    · rintro i y σ H' hi ⟨rfl, u, rfl⟩
      obtain ⟨q, hq, rfl⟩ := get_map hi
      have hq' := hD q (List.mem_of_getElem? hq)
      rw [take_succ hq, List.map_append, List.foldl_append]
      generalize ((ps.take i).map (·.2)).foldl mostStep (0, 0) = m
      refine ⟨fun σ H2 => H2 = H' ∧ σ = [some (.ref p), some (.int (if q.2 = .keep then m.1 + 1 else m.1)), some (.int m.2), some (.ref q.1)], ?_, ?_⟩
      · refine ⟨_, rfl, q.1, q.2.vs, _, _, rfl, rfl, SqT.of hq', q.2.at0, rfl, _, rfl, ?_⟩
        cases ed : q.2 with
        | keep =>
          rw [if_pos rfl]
          refine iteT ?_
          exact ⟨_, rfl, _, _, rfl, rfl, rfl, rfl⟩
        | go n =>
          rw [show decide (V.str (Deed.go n).word = V.str "keep") = false from (by decide +kernel : decide (V.str "go" = V.str "keep") = false), if_neg (by intro z; cases z)]
          exact ⟨rfl, rfl⟩
        | meet =>
          rw [show decide (V.str Deed.meet.word = V.str "keep") = false by decide +kernel, if_neg (by intro z; cases z)]
          exact ⟨rfl, rfl⟩
        | take n =>
          rw [show decide (V.str (Deed.take n).word = V.str "keep") = false from (by decide +kernel : decide (V.str "take" = V.str "keep") = false), if_neg (by intro z; cases z)]
          exact ⟨rfl, rfl⟩
        | drop n =>
          rw [show decide (V.str (Deed.drop n).word = V.str "keep") = false from (by decide +kernel : decide (V.str "drop" = V.str "keep") = false), if_neg (by intro z; cases z)]
          exact ⟨rfl, rfl⟩
      rintro σ H2 ⟨rfl, rfl⟩
      refine ⟨fun σ H3 => H3 = H2 ∧ σ = [some (.ref p), some (.int (mostStep m q.2).1), some (.int m.2), some (.ref q.1)], ?_, ?_⟩
      · refine ⟨_, rfl, q.1, q.2.vs, _, _, rfl, rfl, SqT.of hq', q.2.at0, rfl, _, rfl, ?_⟩
        cases ed : q.2 with
        | drop n =>
          rw [if_neg (show ¬ (Deed.drop n = Deed.keep) by intro z; cases z)]
          refine iteT ?_
          exact ⟨_, rfl, _, _, rfl, rfl, rfl, rfl⟩
        | keep =>
          rw [show decide (V.str Deed.keep.word = V.str "drop") = false by decide +kernel, if_pos rfl]
          exact ⟨rfl, rfl⟩
        | go n =>
          rw [show decide (V.str (Deed.go n).word = V.str "drop") = false from (by decide +kernel : decide (V.str "go" = V.str "drop") = false), if_neg (by intro z; cases z)]
          exact ⟨rfl, rfl⟩
        | meet =>
          rw [show decide (V.str Deed.meet.word = V.str "drop") = false by decide +kernel, if_neg (by intro z; cases z)]
          exact ⟨rfl, rfl⟩
        | take n =>
          rw [show decide (V.str (Deed.take n).word = V.str "drop") = false from (by decide +kernel : decide (V.str "take" = V.str "drop") = false), if_neg (by intro z; cases z)]
          exact ⟨rfl, rfl⟩
      rintro σ H3 ⟨rfl, rfl⟩
      refine ⟨_, rfl, _, rfl, _, _, rfl, rfl, some (.ref q.1), ?_⟩
      have em : (if (mostStep m q.2).1 > m.2 then (mostStep m q.2).1 else m.2) = (mostStep m q.2).2 := by
        rw [max_if]
        cases q.2 <;> rfl
      show [some (V.ref p), some (V.int (mostStep m q.2).1), some (V.int (if (mostStep m q.2).1 > m.2 then (mostStep m q.2).1 else m.2)), some (V.ref q.1)] = _
      rw [em] <;> rfl
    · rintro σ H' ⟨rfl, u, rfl⟩
      rw [refs_len, List.take_length]
      exact ⟨_, rfl, k⟩

/-- _law_cell_at(script, k): the k-th number, or 0 -/
def cellAt (ns : List Int) (k : Nat) : Int := ns.getD k 0
def sp_l_cell_at (K : PySem.W.Frag) : Sp := fun vs H Q _ => ∃ (a : Addr) (ns : List Int) (j : Nat), vs = [.ref a, .int (j : Int)] ∧ SqL K H a (ns.map V.int) ∧ Q (.int (cellAt ns j)) H
theorem ok_l_cell_at (T : Txt K mg) : OkF P w K mg base "_law_cell_at" 1 ["_law_script", "_law_k"] (sp_l_cell_at K) := by
  refine okf T.d_l_cell_at sc_l_cell_at (fun vs H Q E h => ?_) (fun f cdv A outer s H vs Q E hr h => ?_)
  · obtain ⟨a, ns, j, rfl, hS, k⟩ := h
    rfl
  · obtain ⟨a, ns, j, rfl, hS, k⟩ := h
    refine ⟨_, (pss_cons (ps_if (pt_cmpR op_lt (pv 1) (pe_callB call_len_seq (by rfl) T.n_len PySem.boot_len (pa_cons (pv 0) pa_nil)) (nomark _))
        (pss_one (ps_ret (pe_ix ix_list (pv 0) (pv 1) (fun _ _ => rfl))))
        pss_nil)
        (pss_one (ps_ret pe_int))), ?_⟩
    refine ⟨_, rfl, _, rfl, a, _, rfl, .inl hS, _, _, rfl, rfl, _, rfl, ?_⟩
    refine ite2 (fun c => ?_) (fun c => ?_)
    · have c' := of_decide_eq_true c
      rw [List.length_map] at c'
      have hj : j < ns.length := by omega
      refine ⟨_, rfl, _, rfl, a, _, _, .int (cellAt ns j), rfl, rfl, hS, ?_, k⟩
      refine at_map rfl ?_
      unfold cellAt
      rw [List.getElem?_eq_getElem hj, List.getD_eq_getElem?_getD, List.getElem?_eq_getElem hj] <;> rfl
    · have c' : ¬ ((j : Int) < ((ns.map V.int).length : Int)) := fun z => c (decide_eq_true z)
      rw [List.length_map] at c'
      have e : cellAt ns j = 0 := by
        unfold cellAt
        rw [List.getD_eq_getElem?_getD, List.getElem?_eq_none (by omega)] <;> rfl
      rw [e] at k
      exact k

def sp_l_whole (K : PySem.W.Frag) : Sp := fun vs H Q _ => ∃ (x : V) (o : Option Int), vs = [x] ∧ Thg K H x o ∧ Q (.bl (whole o)) H
theorem ok_l_whole (T : Txt K mg) : OkF P w K mg base "_law_whole" 1 ["_law_found"] (sp_l_whole K) := by
  refine okf T.d_l_whole sc_l_whole (fun vs H Q E h => ?_) (fun f cdv A outer s H vs Q E hr h => ?_)
  · obtain ⟨x, o, rfl, th, k⟩ := h
    rfl
  · obtain ⟨x, o, rfl, th, k⟩ := h
    refine ⟨_, (pss_one (ps_ret (pe_and (pe_callB call_isi (by rfl) T.n_isinstance (by decide +kernel) (pa_cons (pv 0) (pa_cons (pe_bltn (v := .ty "int") (by rfl) T.n_int (by decide +kernel) rfl) pa_nil))) (pe_one (pe_not (pe_callB call_isi (by rfl) T.n_isinstance (by decide +kernel) (pa_cons (pv 0) (pa_cons (pe_bltn (v := .ty "bool") (by rfl) T.n_bool (by decide +kernel) rfl) pa_nil)))))))), ?_⟩
    refine ⟨_, rfl, ?_⟩
    cases th with
    | int i =>
      refine ⟨_, _, _, _, true, rfl, .ty "int", .base (.int i), kit_ty (by decide +kernel), true, rfl, iteT ?_⟩
      exact ⟨_, rfl, _, _, _, _, false, rfl, .ty "bool", .base (.int i), kit_ty (by decide +kernel), false, rfl, k⟩
    | bl b =>
      refine ⟨_, _, _, _, true, rfl, .ty "int", .base (.bl b), kit_ty (by decide +kernel), true, rfl, iteT ?_⟩
      exact ⟨_, rfl, _, _, _, _, true, rfl, .ty "bool", .base (.bl b), kit_ty (by decide +kernel), true, rfl, k⟩
    | oth ty ni =>
      refine ⟨_, _, _, _, false, rfl, .ty "int", ty, ni, false, rfl, iteF ?_⟩
      exact k
def sp_l_formed (K : PySem.W.Frag) : Sp := fun vs H Q _ => ∃ (q : Addr) (d : Deed), vs = [.ref q] ∧ H q = some (.tup d.vs) ∧ ∀ H', Same H H' → Q (.bl true) H'
theorem Deed.len (d : Deed) : (decide (V.int (d.vs.length : Int) = V.int 0)) = false := by cases d <;> rfl
theorem ok_l_formed (T : Txt K mg) : OkF P w K mg base "_law_formed" 2 ["_law_deed"] (sp_l_formed K) := by
  obtain ⟨f_l_whole, fd_l_whole, m_l_whole, k_l_whole, b_l_whole, G_l_whole⟩ := ok_l_whole (P := P) (w := w) (base := base) T
  refine okf T.d_l_formed sc_l_formed (fun vs H Q E h => ?_) (fun f cdv A outer s H vs Q E hr h => ?_)
  · obtain ⟨q, d, rfl, hq, k⟩ := h
    rfl
  · obtain ⟨q, d, rfl, hq, k⟩ := h
    refine ⟨_, (pss_cons (ps_if (PW.pt (pw_or (pt_not (pt_val (pe_callB call_isi (by rfl) T.n_isinstance (by decide +kernel) (pa_cons (pv 0) (pa_cons (pe_bltn (v := .ty "tuple") (by rfl) T.n_tuple (by decide +kernel) rfl) pa_nil))))) (pw_or (pt_cmpR op_eq (pe_callB call_len_seq (by rfl) T.n_len PySem.boot_len (pa_cons (pv 0) pa_nil)) pe_int (nomark _)) (pw_or1 (pt_not (pt_val (pe_callB call_isi (by rfl) T.n_isinstance (by decide +kernel) (pa_cons (pe_ix ix_tup (pv 0) pe_int (fun _ _ => rfl)) (pa_cons (pe_bltn (v := .ty "str") (by rfl) T.n_str (by decide +kernel) rfl) pa_nil)))))))))
        (pss_one (ps_ret pe_bl))
        pss_nil)
        (pss_cons (ps_if (pt_cmpR op_in_seq (pe_ix ix_tup (pv 0) pe_int (fun _ _ => rfl)) (pe_tup (pa_cons pe_str (pa_cons pe_str pa_nil))) (by rfl))
        (pss_one (ps_ret (pe_cmpR op_eq (pe_callB call_len_seq (by rfl) T.n_len PySem.boot_len (pa_cons (pv 0) pa_nil)) pe_int (nomark _))))
        pss_nil)
        (pss_one (ps_ret (pe_and (pe_cmpR op_eq (pe_callB call_len_seq (by rfl) T.n_len PySem.boot_len (pa_cons (pv 0) pa_nil)) pe_int (nomark _)) (pe_and (pe_cmpR op_in_seq (pe_ix ix_tup (pv 0) pe_int (fun _ _ => rfl)) (pe_tup (pa_cons pe_str (pa_cons pe_str (pa_cons pe_str pa_nil)))) (by rfl)) (pe_one (pe_call G_l_whole (hr.mono (by decide)) (by rfl) m_l_whole k_l_whole b_l_whole .nil passL (pa_cons (pe_ix ix_tup (pv 0) pe_int (fun _ _ => rfl)) pa_nil))))))))), ?_⟩
    refine ⟨_, rfl, .ref q, _, _, _, true, rfl, .ty "tuple", .base (.tup hq), kit_ty (by decide +kernel), true, rfl, iteF ?_⟩
    refine ⟨_, rfl, q, _, rfl, .inr (SqT.of hq), rfl, _, rfl, ?_⟩
    rw [d.len]
    refine iteF ?_
    refine ⟨_, rfl, q, _, _, .str d.word, rfl, rfl, SqT.of hq, d.at0, _, _, _, _, true, rfl, .ty "str", .base (.str _), kit_ty (by decide +kernel), true, rfl, iteF ?_⟩
    refine ⟨_, rfl, q, _, _, .str d.word, rfl, rfl, SqT.of hq, d.at0, by show 2 ≤ sizeLine; decide, fun t ht => ?_⟩
    have hq1 := (Same.new (o := .tup [.str "keep", .str "meet"]) ht) _ _ hq
    refine ⟨t, _, rfl, .inr (SqT.of upd_same), rfl, rfl, _, rfl, ?_⟩
    cases d with
    | keep =>
      rw [show (if false = true then !inV (V.str Deed.keep.word) [.str "keep", .str "meet"] else inV (V.str Deed.keep.word) [.str "keep", .str "meet"]) = true by decide +kernel]
      refine iteT ⟨_, rfl, q, _, rfl, .inr (SqT.of hq1), rfl, k _ (Same.new ht)⟩
    | meet =>
      rw [show (if false = true then !inV (V.str Deed.meet.word) [.str "keep", .str "meet"] else inV (V.str Deed.meet.word) [.str "keep", .str "meet"]) = true by decide +kernel]
      refine iteT ⟨_, rfl, q, _, rfl, .inr (SqT.of hq1), rfl, k _ (Same.new ht)⟩
    | take n =>
      rw [show (if false = true then !inV (V.str (Deed.take n).word) [.str "keep", .str "meet"] else inV (V.str (Deed.take n).word) [.str "keep", .str "meet"]) = false from (by decide +kernel : inV (V.str "take") [.str "keep", .str "meet"] = false)]
      refine iteF ⟨_, rfl, q, _, rfl, .inr (SqT.of hq1), rfl, _, rfl, iteT ?_⟩
      refine ⟨_, rfl, q, _, _, .str "take", rfl, rfl, SqT.of hq1, rfl, by show 3 ≤ sizeLine; decide, fun t2 ht2 => ?_⟩
      have hq2 := (Same.new (o := .tup [.str "take", .str "drop", .str "go"]) ht2) _ _ hq1
      refine ⟨t2, _, rfl, .inr (SqT.of upd_same), rfl, rfl, _, rfl, ?_⟩
      rw [show (if false = true then !inV (V.str "take") [.str "take", .str "drop", .str "go"] else inV (V.str "take") [.str "take", .str "drop", .str "go"]) = true by decide +kernel]
      refine iteT ⟨_, rfl, q, _, _, .int (n : Int), rfl, rfl, SqT.of hq2, rfl, .int (n : Int), some _, rfl, .int _, k _ ((Same.new ht).trans (Same.new ht2))⟩
    | drop n =>
      rw [show (if false = true then !inV (V.str (Deed.drop n).word) [.str "keep", .str "meet"] else inV (V.str (Deed.drop n).word) [.str "keep", .str "meet"]) = false from (by decide +kernel : inV (V.str "drop") [.str "keep", .str "meet"] = false)]
      refine iteF ⟨_, rfl, q, _, rfl, .inr (SqT.of hq1), rfl, _, rfl, iteT ?_⟩
      refine ⟨_, rfl, q, _, _, .str "drop", rfl, rfl, SqT.of hq1, rfl, by show 3 ≤ sizeLine; decide, fun t2 ht2 => ?_⟩
      have hq2 := (Same.new (o := .tup [.str "take", .str "drop", .str "go"]) ht2) _ _ hq1
      refine ⟨t2, _, rfl, .inr (SqT.of upd_same), rfl, rfl, _, rfl, ?_⟩
      rw [show (if false = true then !inV (V.str "drop") [.str "take", .str "drop", .str "go"] else inV (V.str "drop") [.str "take", .str "drop", .str "go"]) = true by decide +kernel]
      refine iteT ⟨_, rfl, q, _, _, .int (n : Int), rfl, rfl, SqT.of hq2, rfl, .int (n : Int), some _, rfl, .int _, k _ ((Same.new ht).trans (Same.new ht2))⟩
    | go n =>
      rw [show (if false = true then !inV (V.str (Deed.go n).word) [.str "keep", .str "meet"] else inV (V.str (Deed.go n).word) [.str "keep", .str "meet"]) = false from (by decide +kernel : inV (V.str "go") [.str "keep", .str "meet"] = false)]
      refine iteF ⟨_, rfl, q, _, rfl, .inr (SqT.of hq1), rfl, _, rfl, iteT ?_⟩
      refine ⟨_, rfl, q, _, _, .str "go", rfl, rfl, SqT.of hq1, rfl, by show 3 ≤ sizeLine; decide, fun t2 ht2 => ?_⟩
      have hq2 := (Same.new (o := .tup [.str "take", .str "drop", .str "go"]) ht2) _ _ hq1
      refine ⟨t2, _, rfl, .inr (SqT.of upd_same), rfl, rfl, _, rfl, ?_⟩
      rw [show (if false = true then !inV (V.str "go") [.str "take", .str "drop", .str "go"] else inV (V.str "go") [.str "take", .str "drop", .str "go"]) = true by decide +kernel]
      refine iteT ⟨_, rfl, q, _, _, .int (n : Int), rfl, rfl, SqT.of hq2, rfl, .int (n : Int), some _, rfl, .int _, k _ ((Same.new ht).trans (Same.new ht2))⟩
def kPl : Key := Sum.inr ("place" : Str)
def kMk : Key := Sum.inr ("marks" : Str)
def kWa : Key := Sum.inr ("wanted" : Str)
def kCo : Key := Sum.inr ("cost" : Str)
def kMo : Key := Sum.inr ("most" : Str)
theorem n_pm : ¬ (kPl = kMk) := by decide +kernel
theorem n_pw : ¬ (kPl = kWa) := by decide +kernel
theorem n_pc : ¬ (kPl = kCo) := by decide +kernel
theorem n_po : ¬ (kPl = kMo) := by decide +kernel
theorem n_mp : ¬ (kMk = kPl) := by decide +kernel
theorem n_mw : ¬ (kMk = kWa) := by decide +kernel
theorem n_mc : ¬ (kMk = kCo) := by decide +kernel
theorem n_mo : ¬ (kMk = kMo) := by decide +kernel
theorem n_wp : ¬ (kWa = kPl) := by decide +kernel
theorem n_wm : ¬ (kWa = kMk) := by decide +kernel
theorem n_wc : ¬ (kWa = kCo) := by decide +kernel
theorem n_wo : ¬ (kWa = kMo) := by decide +kernel
theorem n_cp : ¬ (kCo = kPl) := by decide +kernel
theorem n_cm : ¬ (kCo = kMk) := by decide +kernel
theorem n_cw : ¬ (kCo = kWa) := by decide +kernel
theorem n_co : ¬ (kCo = kMo) := by decide +kernel
theorem n_op : ¬ (kMo = kPl) := by decide +kernel
theorem n_om : ¬ (kMo = kMk) := by decide +kernel
theorem n_ow : ¬ (kMo = kWa) := by decide +kernel
theorem n_oc : ¬ (kMo = kCo) := by decide +kernel
/-- the law's own hand -/
def mD (pl : Int) (mk : Addr) (wa co mo : Int) : List (Key × V) := [(kPl, .int pl), (kMk, .ref mk), (kWa, .int wa), (kCo, .int co), (kMo, .int mo)]
section
variable (pl wa co mo x : Int) (mk : Addr)
theorem mD_p : valV (mD pl mk wa co mo) kPl = some (V.int pl) := valV_pos (p := (kPl, V.int pl)) rfl
theorem mD_m : valV (mD pl mk wa co mo) kMk = some (V.ref mk) := (valV_neg (p := (kPl, V.int pl)) n_pm).trans (valV_pos (p := (kMk, V.ref mk)) rfl)
theorem mD_w : valV (mD pl mk wa co mo) kWa = some (V.int wa) := (valV_neg (p := (kPl, V.int pl)) n_pw).trans ((valV_neg (p := (kMk, V.ref mk)) n_mw).trans (valV_pos (p := (kWa, V.int wa)) rfl))
theorem mD_c : valV (mD pl mk wa co mo) kCo = some (V.int co) := (valV_neg (p := (kPl, V.int pl)) n_pc).trans ((valV_neg (p := (kMk, V.ref mk)) n_mc).trans ((valV_neg (p := (kWa, V.int wa)) n_wc).trans (valV_pos (p := (kCo, V.int co)) rfl)))
theorem mD_o : valV (mD pl mk wa co mo) kMo = some (V.int mo) := (valV_neg (p := (kPl, V.int pl)) n_po).trans ((valV_neg (p := (kMk, V.ref mk)) n_mo).trans ((valV_neg (p := (kWa, V.int wa)) n_wo).trans ((valV_neg (p := (kCo, V.int co)) n_co).trans (valV_pos (p := (kMo, V.int mo)) rfl))))
theorem mD_sp : putK (mD pl mk wa co mo) kPl (.int x) = mD x mk wa co mo := by
  unfold putK mD
  simp only [List.any_cons, List.any_nil, List.map_cons, List.map_nil, if_neg n_mp, if_neg n_wp, if_neg n_cp, if_neg n_op, decide_true, Bool.true_or, if_true]
theorem mD_sw : putK (mD pl mk wa co mo) kWa (.int x) = mD pl mk x co mo := by
  unfold putK mD
  simp only [List.any_cons, List.any_nil, List.map_cons, List.map_nil, if_neg n_pw, if_neg n_mw, if_neg n_cw, if_neg n_ow, decide_true, Bool.true_or, Bool.or_true, if_true]
theorem mD_sc : putK (mD pl mk wa co mo) kCo (.int x) = mD pl mk wa x mo := by
  unfold putK mD
  simp only [List.any_cons, List.any_nil, List.map_cons, List.map_nil, if_neg n_pc, if_neg n_mc, if_neg n_wc, if_neg n_oc, decide_true, Bool.true_or, Bool.or_true, if_true]
theorem mD_so : putK (mD pl mk wa co mo) kMo (.int x) = mD pl mk wa co x := by
  unfold putK mD
  simp only [List.any_cons, List.any_nil, List.map_cons, List.map_nil, if_neg n_po, if_neg n_mo, if_neg n_wo, if_neg n_co, decide_true, Bool.true_or, Bool.or_true, if_true]
end
section
variable {H : Hp} {m mk : Addr} {pl wa co mo : Int}
theorem get_p (h : H m = some (.dK (mD pl mk wa co mo))) : DGet H m (.str "place") (some (.int pl)) := (mD_p pl wa co mo mk) ▸ DGet.k (k := kPl) h
theorem get_m (h : H m = some (.dK (mD pl mk wa co mo))) : DGet H m (.str "marks") (some (.ref mk)) := (mD_m pl wa co mo mk) ▸ DGet.k (k := kMk) h
theorem get_w (h : H m = some (.dK (mD pl mk wa co mo))) : DGet H m (.str "wanted") (some (.int wa)) := (mD_w pl wa co mo mk) ▸ DGet.k (k := kWa) h
theorem get_c (h : H m = some (.dK (mD pl mk wa co mo))) : DGet H m (.str "cost") (some (.int co)) := (mD_c pl wa co mo mk) ▸ DGet.k (k := kCo) h
theorem get_o (h : H m = some (.dK (mD pl mk wa co mo))) : DGet H m (.str "most") (some (.int mo)) := (mD_o pl wa co mo mk) ▸ DGet.k (k := kMo) h
theorem set_p (x : Int) (h : H m = some (.dK (mD pl mk wa co mo))) : DPut H m (.str "place") (.int x) (upd H m (.dK (mD x mk wa co mo))) := (mD_sp pl wa co mo x mk) ▸ DPut.k (k := kPl) h (small1000 (by show 5 ≤ 1000; decide))
theorem set_w (x : Int) (h : H m = some (.dK (mD pl mk wa co mo))) : DPut H m (.str "wanted") (.int x) (upd H m (.dK (mD pl mk x co mo))) := (mD_sw pl wa co mo x mk) ▸ DPut.k (k := kWa) h (small1000 (by show 5 ≤ 1000; decide))
theorem set_c (x : Int) (h : H m = some (.dK (mD pl mk wa co mo))) : DPut H m (.str "cost") (.int x) (upd H m (.dK (mD pl mk wa x mo))) := (mD_sc pl wa co mo x mk) ▸ DPut.k (k := kCo) h (small1000 (by show 5 ≤ 1000; decide))
theorem set_o (x : Int) (h : H m = some (.dK (mD pl mk wa co mo))) : DPut H m (.str "most") (.int x) (upd H m (.dK (mD pl mk wa co x))) := (mD_so pl wa co mo x mk) ▸ DPut.k (k := kMo) h (small1000 (by show 5 ≤ 1000; decide))
end
def mkD (ms : List Nat) : List (Key × V) := ms.map fun (p : Nat) => ((Sum.inl (p : Int) : Key), V.bl true)
theorem mkD_len (ms : List Nat) : (mkD ms).length = ms.length := List.length_map ..
theorem mkD_val : ∀ (ms : List Nat) (p : Nat), valV (mkD ms) (Sum.inl (p : Int) : Key) = if p ∈ ms then some (.bl true) else none
  | [], p => by rw [if_neg (by simp)] <;> rfl
  | q :: ms, p => by
    have ih := mkD_val ms p
    by_cases e : q = p
    · rw [if_pos (by rw [e]; exact List.mem_cons_self)]
      exact valV_pos (by show (Sum.inl (q : Int) : Key) = Sum.inl (p : Int); rw [e])
    · have ne : ¬ ((Sum.inl (q : Int) : Key) = Sum.inl (p : Int)) := fun z => e (by have := Sum.inl.inj z; omega)
      show valV (((Sum.inl (q : Int) : Key), V.bl true) :: mkD ms) _ = _
      rw [valV_neg ne, ih]
      by_cases m : p ∈ ms
      · rw [if_pos m, if_pos (List.mem_cons_of_mem _ m)]
      · rw [if_neg m, if_neg (fun z => (List.mem_cons.mp z).elim (fun w => e w.symm) m)]
theorem mkD_put {ms : List Nat} {p : Nat} (h : p ∉ ms) : putK (mkD ms) (Sum.inl (p : Int) : Key) (.bl true) = mkD (ms ++ [p]) := by
  rw [putK_new _ (by rw [mkD_val, if_neg h])]
  unfold mkD
  rw [List.map_append] <;> rfl
theorem mkD_drop (p : Nat) : ∀ ms : List Nat, dropK (mkD ms) (Sum.inl (p : Int) : Key) = mkD (ms.filter (· ≠ p))
  | [] => rfl
  | q :: ms => by
    have ih := mkD_drop p ms
    show dropK (((Sum.inl (q : Int) : Key), V.bl true) :: mkD ms) _ = _
    by_cases e : q = p
    · rw [dropK_pos (by show (Sum.inl (q : Int) : Key) = Sum.inl (p : Int); rw [e]), ih, List.filter_cons, if_neg (by rw [e]; simp)]
    · rw [dropK_neg (fun z : (Sum.inl (q : Int) : Key) = Sum.inl (p : Int) => e (by have := Sum.inl.inj z; omega)), ih, List.filter_cons, if_pos (decide_eq_true e)] <;> rfl
def HandAt (H : Hp) (m mk : Addr) (s : WSt) : Prop := H m = some (.dK (mD (s.pl : Int) mk s.wa (s.co : Int) (s.mo : Int))) ∧ H mk = some (.dK (mkD s.mks))
def sp_l_goes (K : PySem.W.Frag) : Sp := fun vs H Q _ => ∃ (m mk q : Addr) (s t : WSt) (d : Deed) (n R : Nat), vs = [.ref m, .ref q, .int (n : Int), .int (R : Int)] ∧ HandAt H m mk s ∧ H q = some (.tup d.vs) ∧ stepW n R s d = some t ∧ s.mks.length ≤ 1000 ∧
  ∀ H', (∀ b o, H b = some o → b ≠ m → b ≠ mk → H' b = some o) → HandAt H' m mk t → Q (.bl true) H'
theorem ok_l_goes (T : Txt K mg) : OkF P w K mg base "_law_goes" 1 ["_law_m", "_law_deed", "_law_steps", "_law_room"] (sp_l_goes K) := by
  refine okf T.d_l_goes sc_l_goes (fun vs H Q E h => ?_) (fun f cdv A outer s H vs Q E hr h => ?_)
  · obtain ⟨m, mk, q, s', t, d, n, R, rfl, ⟨hM, hK⟩, hq, st, hl, k⟩ := h
    rfl
  · obtain ⟨m, mk, q, s', t, d, n, R, rfl, ⟨hM, hK⟩, hq, st, hl, k⟩ := h
    refine ⟨_, (pss_cons (ps_set (i := 4) sc_l_goes.nd rfl (Or.inl rfl) (pe_ix ix_tup (pv 1) pe_int (fun _ _ => rfl)))
        (pss_cons (ps_if (pt_cmpR op_eq (pv 4) pe_str (nomark _))
        (pss_cons (ps_set (i := 5) sc_l_goes.nd rfl (Or.inl rfl) (pe_and (pe_cmp (pc_dnotin (hu_of hr) (pe_dget (hu_of hr) (pv 0) pe_str (fun _ _ => rfl)) (pe_dget (hu_of hr) (pv 0) pe_str (fun _ _ => rfl))) rfl) (pe_one (pe_cmpR op_lt (pe_callB call_lenD (by rfl) T.n_len PySem.boot_len (pa_cons (pe_dget (hu_of hr) (pv 0) pe_str (fun _ _ => rfl)) pa_nil)) (pv 3) (nomark _)))))
        (pss_cons (ps_dput (hu_of hr) (pe_dget (hu_of hr) (pv 0) pe_str (fun _ _ => rfl)) (pe_dget (hu_of hr) (pv 0) pe_str (fun _ _ => rfl)) pe_bl rfl)
        (pss_cons (ps_dput (hu_of hr) (pv 0) pe_str (pe_callB (call_max2 rfl) (by rfl) T.n_max (by decide +kernel) (pa_cons (pe_dget (hu_of hr) (pv 0) pe_str (fun _ _ => rfl)) (pa_cons (pe_callB call_lenD (by rfl) T.n_len PySem.boot_len (pa_cons (pe_dget (hu_of hr) (pv 0) pe_str (fun _ _ => rfl)) pa_nil)) pa_nil))) rfl)
        (pss_one (ps_ret (pv 5))))))
        pss_nil)
        (pss_cons (ps_if (pt_cmpR op_eq (pv 4) pe_str (nomark _))
        (pss_cons (ps_dput (hu_of hr) (pv 0) pe_str (pe_op op_sub (pe_dget (hu_of hr) (pv 0) pe_str (fun _ _ => rfl)) pe_int) rfl)
        (pss_one (ps_ret (pe_cmpR op_eq (pe_dget (hu_of hr) (pv 0) pe_str (fun _ _ => rfl)) (pe_op op_add (pe_dget (hu_of hr) (pv 0) pe_str (fun _ _ => rfl)) pe_int) (nomark _)))))
        pss_nil)
        (pss_cons (ps_if (pt_cmpR op_eq (pv 4) pe_str (nomark _))
        (pss_cons (ps_dput (hu_of hr) (pv 0) pe_str (pe_op op_add (pe_dget (hu_of hr) (pv 0) pe_str (fun _ _ => rfl)) (pe_ix ix_tup (pv 1) pe_int (fun _ _ => rfl))) rfl)
        (pss_cons (ps_dput (hu_of hr) (pv 0) pe_str (pe_op op_add (pe_dget (hu_of hr) (pv 0) pe_str (fun _ _ => rfl)) (pe_ix ix_tup (pv 1) pe_int (fun _ _ => rfl))) rfl)
        (pss_one (ps_ret (pe_and (pe_cmpR op_gt (pe_ix ix_tup (pv 1) pe_int (fun _ _ => rfl)) pe_int (nomark _)) (pe_one (pe_cmpR op_le (pe_dget (hu_of hr) (pv 0) pe_str (fun _ _ => rfl)) (pv 2) (nomark _))))))))
        pss_nil)
        (pss_cons (ps_if (pt_cmp (pc_dnotin (hu_of hr) (pe_ix ix_tup (pv 1) pe_int (fun _ _ => rfl)) (pe_dget (hu_of hr) (pv 0) pe_str (fun _ _ => rfl))))
        (pss_one (ps_ret pe_bl))
        pss_nil)
        (pss_cons (ps_if (pt_cmpR op_eq (pv 4) pe_str (nomark _))
        (pss_one (ps_dput (hu_of hr) (pv 0) pe_str (pe_ix ix_tup (pv 1) pe_int (fun _ _ => rfl)) rfl))
        (pss_one (ps_expr (pe_dpop1 (pe_dget (hu_of hr) (pv 0) pe_str (fun _ _ => rfl)) (pe_ix ix_tup (pv 1) pe_int (fun _ _ => rfl)) ⟨rfl, rfl, rfl, rfl⟩))))
        (pss_one (ps_ret pe_bl)))))))), ?_⟩
    have hu := hu_of hr
    have nmk : m ≠ mk := by
      rintro rfl
      rw [hM] at hK
      have e := congrArg List.head? (HO.dK.inj (Option.some.inj hK))
      cases hs : s'.mks with
      | nil =>
        rw [hs] at e
        cases e
      | cons a r =>
        rw [hs] at e
        have e2 := congrArg Prod.fst (Option.some.inj e)
        cases e2
    refine ⟨_, rfl, q, _, _, .str d.word, rfl, rfl, SqT.of hq, d.at0, ?_⟩
    refine ⟨_, rfl, rfl, _, rfl, ?_⟩
    cases d with
    | keep =>
      obtain ⟨⟨c1, c2⟩, rfl⟩ := ite_some (α := WSt) st
      refine iteT ?_
      refine ⟨_, rfl, m, _, rfl, get_p hM, _, rfl, m, _, rfl, get_m hM, mk, _, rfl, DGet.k (k := Sum.inl (s'.pl : Int)) hK, true, ?_, iteT ?_⟩
      · rw [mkD_val, if_neg c1] <;> rfl
      refine ⟨_, rfl, m, _, rfl, get_m hM, mk, _, rfl, hK, _, rfl, _, _, rfl, rfl, ?_⟩
      refine ⟨_, rfl, m, _, rfl, get_m hM, _, rfl, m, _, rfl, get_p hM, mk, _, rfl, DPut.k (k := Sum.inl (s'.pl : Int)) hK (small1000 (by rw [mkD_len]; exact hl)), ?_⟩
      rw [mkD_put c1]
      have hM1 : (upd H mk (.dK (mkD (s'.mks ++ [s'.pl])))) m = some (.dK (mD (s'.pl : Int) mk s'.wa (s'.co : Int) (s'.mo : Int))) := by
        rw [upd_ne nmk]
        exact hM
      refine ⟨_, rfl, m, _, rfl, get_o hM1, _, rfl, m, _, rfl, get_m hM1, mk, _, rfl, upd_same, _, _, rfl, _, rfl, m, _, rfl, set_o _ hM1, ?_⟩
      have e1 : (if ((mkD (s'.mks ++ [s'.pl])).length : Int) > (s'.mo : Int) then ((mkD (s'.mks ++ [s'.pl])).length : Int) else (s'.mo : Int)) = ((max s'.mo (s'.mks.length + 1) : Nat) : Int) := by
        rw [max_if, mkD_len, List.length_append]
        show max (s'.mo : Int) ((s'.mks.length + 1 : Nat) : Int) = _
        omega
      have e2 : decide (((mkD s'.mks).length : Int) < (R : Int)) = true := by
        rw [mkD_len]
        exact decide_eq_true (by omega)
      refine ⟨V.bl true, ?_, k _ (fun b o h n1 n2 => ?_) ⟨?_, ?_⟩⟩
      · rw [← e2] <;> rfl
      · rw [upd_ne n1, upd_ne n2]
        exact h
      · rw [upd_same, ← e1] <;> rfl
      · rw [upd_ne nmk.symm, upd_same]
    | meet =>
      obtain ⟨c1, rfl⟩ := ite_some (α := WSt) st
      rw [show decide (V.str Deed.meet.word = V.str "keep") = false by decide +kernel]
      refine iteF ?_
      refine ⟨_, rfl, rfl, _, rfl, iteT ?_⟩
      refine ⟨_, rfl, m, _, rfl, get_w hM, _, _, rfl, rfl, _, rfl, m, _, rfl, set_w _ hM, ?_⟩
      refine ⟨_, rfl, m, _, rfl, get_p upd_same, _, rfl, m, _, rfl, get_w upd_same, _, _, rfl, rfl, rfl, ?_⟩
      have e2 : decide (V.int (s'.pl : Int) = V.int (s'.wa - 1 + 1)) = true := decide_eq_true (by rw [c1]; congr 1; omega)
      rw [e2]
      refine k _ (fun b o h n1 n2 => ?_) ⟨upd_same, ?_⟩
      · rw [upd_ne n1]
        exact h
      · rw [upd_ne nmk.symm]
        exact hK
    | go j =>
      obtain ⟨⟨c1, c2⟩, rfl⟩ := ite_some (α := WSt) st
      rw [show decide (V.str (Deed.go j).word = V.str "keep") = false from (by decide +kernel : decide (V.str "go" = V.str "keep") = false)]
      refine iteF ?_
      refine ⟨_, rfl, rfl, _, rfl, ?_⟩
      rw [show decide (V.str (Deed.go j).word = V.str "meet") = false from (by decide +kernel : decide (V.str "go" = V.str "meet") = false)]
      refine iteF ?_
      refine ⟨_, rfl, rfl, _, rfl, iteT ?_⟩
      refine ⟨_, rfl, m, _, rfl, get_p hM, _, rfl, q, _, _, .int (j : Int), rfl, rfl, SqT.of hq, rfl, _, _, rfl, rfl, _, rfl, m, _, rfl, set_p _ hM, ?_⟩
      have nq : q ≠ m := by
        rintro rfl
        rw [hM] at hq
        cases hq
      have hq1 : (upd H m (.dK (mD ((s'.pl : Int) + (j : Int)) mk s'.wa (s'.co : Int) (s'.mo : Int)))) q = some (.tup (Deed.go j).vs) := by
        rw [upd_ne nq]
        exact hq
      refine ⟨_, rfl, m, _, rfl, get_c upd_same, _, rfl, q, _, _, .int (j : Int), rfl, rfl, SqT.of hq1, rfl, _, _, rfl, rfl, _, rfl, m, _, rfl, set_c _ upd_same, ?_⟩
      have hq2 : (upd (upd H m (.dK (mD ((s'.pl : Int) + (j : Int)) mk s'.wa (s'.co : Int) (s'.mo : Int)))) m (.dK (mD ((s'.pl : Int) + (j : Int)) mk s'.wa ((s'.co : Int) + (j : Int)) (s'.mo : Int)))) q = some (.tup (Deed.go j).vs) := by
        rw [upd_ne nq]
        exact hq1
      refine ⟨_, rfl, q, _, _, .int (j : Int), rfl, rfl, SqT.of hq2, rfl, _, _, rfl, rfl, true, ?_, iteT ?_⟩
      · show V.bl (decide ((0 : Int) < (j : Int))) = V.bl true
        rw [decide_eq_true (show (0 : Int) < (j : Int) by omega)]
      refine ⟨_, rfl, m, _, rfl, get_p upd_same, _, rfl, _, _, rfl, rfl, ?_⟩
      have e2 : decide ((s'.pl : Int) + (j : Int) ≤ (n : Int)) = true := decide_eq_true (by omega)
      show Q (V.bl (decide ((s'.pl : Int) + (j : Int) ≤ (n : Int)))) _
      rw [e2]
      refine k _ (fun b o h n1 n2 => ?_) ⟨?_, ?_⟩
      · rw [upd_ne n1, upd_ne n1]
        exact h
      · rw [upd_same, Int.natCast_add, Int.natCast_add]
      · rw [upd_ne nmk.symm, upd_ne nmk.symm]
        exact hK
    | take p =>
      obtain ⟨c1, rfl⟩ := ite_some (α := WSt) st
      rw [show decide (V.str (Deed.take p).word = V.str "keep") = false from (by decide +kernel : decide (V.str "take" = V.str "keep") = false)]
      refine iteF ?_
      refine ⟨_, rfl, rfl, _, rfl, ?_⟩
      rw [show decide (V.str (Deed.take p).word = V.str "meet") = false from (by decide +kernel : decide (V.str "take" = V.str "meet") = false)]
      refine iteF ?_
      refine ⟨_, rfl, rfl, _, rfl, ?_⟩
      rw [show decide (V.str (Deed.take p).word = V.str "go") = false from (by decide +kernel : decide (V.str "take" = V.str "go") = false)]
      refine iteF ?_
      refine ⟨_, rfl, q, _, _, .int (p : Int), rfl, rfl, SqT.of hq, rfl, _, rfl, m, _, rfl, get_m hM, mk, _, rfl, DGet.k (k := Sum.inl (p : Int)) hK, false, ?_, iteF ?_⟩
      · rw [mkD_val, if_pos c1] <;> rfl
      refine ⟨_, rfl, rfl, _, rfl, iteT ?_⟩
      refine ⟨_, rfl, q, _, _, .int (p : Int), rfl, rfl, SqT.of hq, rfl, _, rfl, m, _, rfl, set_p _ hM, ?_⟩
      refine k _ (fun b o h n1 n2 => ?_) ⟨upd_same, ?_⟩
      · rw [upd_ne n1]
        exact h
      · rw [upd_ne nmk.symm]
        exact hK
    | drop p =>
      obtain ⟨c1, rfl⟩ := ite_some (α := WSt) st
      rw [show decide (V.str (Deed.drop p).word = V.str "keep") = false from (by decide +kernel : decide (V.str "drop" = V.str "keep") = false)]
      refine iteF ?_
      refine ⟨_, rfl, rfl, _, rfl, ?_⟩
      rw [show decide (V.str (Deed.drop p).word = V.str "meet") = false from (by decide +kernel : decide (V.str "drop" = V.str "meet") = false)]
      refine iteF ?_
      refine ⟨_, rfl, rfl, _, rfl, ?_⟩
      rw [show decide (V.str (Deed.drop p).word = V.str "go") = false from (by decide +kernel : decide (V.str "drop" = V.str "go") = false)]
      refine iteF ?_
      refine ⟨_, rfl, q, _, _, .int (p : Int), rfl, rfl, SqT.of hq, rfl, _, rfl, m, _, rfl, get_m hM, mk, _, rfl, DGet.k (k := Sum.inl (p : Int)) hK, false, ?_, iteF ?_⟩
      · rw [mkD_val, if_pos c1] <;> rfl
      refine ⟨_, rfl, rfl, _, rfl, ?_⟩
      rw [show decide (V.str (Deed.drop p).word = V.str "take") = false from (by decide +kernel : decide (V.str "drop" = V.str "take") = false)]
      refine iteF ?_
      refine ⟨_, rfl, m, _, rfl, get_m hM, mk, rfl, .inl ⟨_, .inl hK⟩, _, rfl, q, _, _, .int (p : Int), rfl, rfl, SqT.of hq, rfl, _, Sum.inl (p : Int), .bl true, hK, rfl, by rw [mkD_val, if_pos c1], ?_⟩
      rw [mkD_drop]
      refine k _ (fun b o h n1 n2 => ?_) ⟨?_, upd_same⟩
      · rw [upd_ne n2]
        exact h
      · rw [upd_ne nmk]
        exact hM
theorem runW_take {n R : Nat} {ds : List Deed} {s0 t : WSt} (h : runW n R ds s0 = some t) : ∀ i, i ≤ ds.length → ∃ u, runW n R (ds.take i) s0 = some u ∧ runW n R (ds.drop i) u = some t := by
  intro i hi
  have e : ds.take i ++ ds.drop i = ds := List.take_append_drop i ds
  rw [← e, runW_append] at h
  cases q : runW n R (ds.take i) s0 with
  | none => rw [q] at h; cases h
  | some u => rw [q] at h; exact ⟨u, rfl, h⟩
theorem runW_step {n R : Nat} {ds : List Deed} {s0 t u : WSt} {i : Nat} {d : Deed} (h : runW n R ds s0 = some t) (hu : runW n R (ds.take i) s0 = some u) (hd : ds[i]? = some d) : ∃ v, stepW n R u d = some v ∧ runW n R (ds.take (i + 1)) s0 = some v := by
  have hl := (List.getElem?_eq_some_iff.mp hd).1
  obtain ⟨v, hv, _⟩ := runW_take h (i + 1) hl
  rw [take_succ hd, runW_append, hu] at hv
  have hv' : (stepW n R u d).bind (fun s => some s) = some v := hv
  cases q : stepW n R u d with
  | none => rw [q] at hv'; cases hv'
  | some z =>
    rw [q] at hv'
    have e : z = v := Option.some.inj hv'
    refine ⟨z, rfl, ?_⟩
    rw [take_succ hd, runW_append, hu]
    show (stepW n R u d).bind (fun s => some s) = some z
    rw [q] <;> rfl
theorem runW_nodup {n R : Nat} : ∀ {ds : List Deed} {s t : WSt}, runW n R ds s = some t → s.mks.Nodup → s.mks.length ≤ R → t.mks.Nodup ∧ t.mks.length ≤ R
  | [], s, t, h, hn, hl => by
    have e : s = t := Option.some.inj h
    rw [← e]
    exact ⟨hn, hl⟩
  | d :: ds, s, t, h, hn, hl => by
    have h : (stepW n R s d).bind (runW n R ds) = some t := h
    cases e : stepW n R s d with
    | none => rw [e] at h; cases h
    | some u =>
      rw [e] at h
      have key : u.mks.Nodup ∧ u.mks.length ≤ R := by
        cases d with
        | keep =>
          obtain ⟨c, rfl⟩ := ite_some (α := WSt) e
          refine ⟨nodup_snoc hn c.1, ?_⟩
          show (s.mks ++ [s.pl]).length ≤ R
          rw [List.length_append]
          show s.mks.length + 1 ≤ R
          omega
        | meet => obtain ⟨_, rfl⟩ := ite_some (α := WSt) e; exact ⟨hn, hl⟩
        | go m => obtain ⟨_, rfl⟩ := ite_some (α := WSt) e; exact ⟨hn, hl⟩
        | take p => obtain ⟨_, rfl⟩ := ite_some (α := WSt) e; exact ⟨hn, hl⟩
        | drop p =>
          obtain ⟨c, rfl⟩ := ite_some (α := WSt) e
          have fl := filter_len_drop hn c
          refine ⟨hn.filter _, ?_⟩
          show (s.mks.filter (· ≠ p)).length ≤ R
          omega
      exact runW_nodup h key.1 key.2
def sp_l_good (K : PySem.W.Frag) : Sp := fun vs H Q _ => ∃ (p : Addr) (ps : List (Addr × Deed)) (n R : Nat) (t : WSt), vs = [.ref p, .int (n : Int), .int (R : Int)] ∧ H p = some (.lst (refs ps)) ∧ DS H ps ∧ ps.length ≤ 10000 ∧ n ≤ 100 ∧ 1 ≤ R ∧ R ≤ 12 ∧
  runW n R (ps.map (·.2)) (wst0 n) = some t ∧ t.wa = -1 ∧ (t.co : Int) = costN n R ∧ ∀ H', Same H H' → Q (.bl true) H'
theorem ok_l_good (T : Txt K mg) : OkF P w K mg base "_law_good" 6 ["_law_deeds", "_law_steps", "_law_room"] (sp_l_good K) := by
  obtain ⟨f_l_goes, fd_l_goes, m_l_goes, k_l_goes, b_l_goes, G_l_goes⟩ := ok_l_goes (P := P) (w := w) (base := base) T
  obtain ⟨f_l_formed, fd_l_formed, m_l_formed, k_l_formed, b_l_formed, G_l_formed⟩ := ok_l_formed (P := P) (w := w) (base := base) T
  obtain ⟨f_least, fd_least, m_least, k_least, b_least, G_least⟩ := ok_least (P := P) (w := w) (base := base) T
  obtain ⟨f_cost_of, fd_cost_of, m_cost_of, k_cost_of, b_cost_of, G_cost_of⟩ := ok_cost_of (P := P) (w := w) (base := base) T
  obtain ⟨f_most_kept, fd_most_kept, m_most_kept, k_most_kept, b_most_kept, G_most_kept⟩ := ok_most_kept (P := P) (w := w) (base := base) T
  obtain ⟨f_l_whole, fd_l_whole, m_l_whole, k_l_whole, b_l_whole, G_l_whole⟩ := ok_l_whole (P := P) (w := w) (base := base) T
  refine okf T.d_l_good sc_l_good (fun vs H Q E h => ?_) (fun f cdv A outer s H vs Q E hr h => ?_)
  · obtain ⟨p, ps, n, R, t, rfl, hP, hD, hl, h1, h2, h3, hrun, hwa, hco, k⟩ := h
    rfl
  · obtain ⟨p, ps, n, R, t, rfl, hP, hD, hl, h1, h2, h3, hrun, hwa, hco, k⟩ := h
    refine ⟨_, (pss_cons (ps_if (pt_not (pt_val (pe_callB call_isi (by rfl) T.n_isinstance (by decide +kernel) (pa_cons (pv 0) (pa_cons (pe_bltn (v := .ty "list") (by rfl) T.n_list (by decide +kernel) rfl) pa_nil)))))
        (pss_one (ps_ret pe_bl))
        pss_nil)
        (Evl.pss_cut (ps_set (i := 3) sc_l_good.nd rfl (Or.inl rfl) (pe_disp (pps_cons pe_str pe_int (pps_cons pe_str pe_dnewK (pps_cons pe_str (pv 1) (pps_cons pe_str pe_int (pps_cons pe_str pe_int pps_nil))))) (by rfl) (by rfl) (fun z => by cases z) (by decide)))
        (Evl.pss_cut (ps_for (passes_of rfl) rfl (pi_list (pv 0)) (pg_name (i := 4) sc_l_good.nd rfl (Or.inl rfl))
        (pss_one (ps_if (PW.pt (pw_or (pt_not (pt_val (pe_call G_l_formed (hr.mono (by decide)) (by rfl) m_l_formed k_l_formed b_l_formed .nil passL (pa_cons (pv 4) pa_nil)))) (pw_or1 (pt_not (pt_val (pe_call G_l_goes (hr.mono (by decide)) (by rfl) m_l_goes k_l_goes b_l_goes .nil passL (pa_cons (pv 3) (pa_cons (pv 4) (pa_cons (pv 1) (pa_cons (pv 2) pa_nil))))))))))
        (pss_one (ps_ret pe_bl))
        pss_nil)))
        (Evl.pss_cut (ps_set (i := 5) sc_l_good.nd rfl (Or.inl rfl) (pe_lst (pa_cons (pe_call G_least (hr.mono (by decide)) (by rfl) m_least k_least b_least .nil passL (pa_cons (pv 1) (pa_cons (pv 2) pa_nil))) (pa_cons (pe_call G_cost_of (hr.mono (by decide)) (by rfl) m_cost_of k_cost_of b_cost_of .nil passL (pa_cons (pe_callTy (T := "list") (r := rListOf K) call_list_of (by rfl) T.n_list (by decide +kernel) (pa_cons (pv 0) pa_nil)) pa_nil)) (pa_cons (pe_call G_most_kept (hr.mono (by decide)) (by rfl) m_most_kept k_most_kept b_most_kept .nil passL (pa_cons (pe_callTy (T := "list") (r := rListOf K) call_list_of (by rfl) T.n_list (by decide +kernel) (pa_cons (pv 0) pa_nil)) pa_nil)) pa_nil)))))
        (pss_cons (ps_if (pt_not (pt_val (pe_callB (cr_all rfl) (by rfl) T.n_all (by decide +kernel) (pa_cons (pe_lc (own := [("_law_one", 6)]) rfl sc_l_good.nd (pi_list (pv 5)) (blkOk_by (own := [("_law_one", 6)]) (N := ["_law_deeds", "_law_steps", "_law_room", "_law_m", "_law_deed", "_law_told_here", "_law_one"]) (sc := defScope s_l_good) (by decide +kernel)) (fun _ _ _ _ _ => (pg_name (i := 6) sc_l_good.nd rfl (Or.inl rfl))) (fun _ _ _ _ _ => pts_nil) (fun _ _ _ _ _ => (pe_call G_l_whole (hr.mono (by decide)) (by rfl) m_l_whole k_l_whole b_l_whole .nil passL (pa_cons (pv 6) pa_nil)))) pa_nil))))
        (pss_one (ps_ret pe_bl))
        pss_nil)
        (pss_one (ps_ret (pe_and (pe_cmpR op_eq (pe_dget (hu_of hr) (pv 3) pe_str (fun _ _ => rfl)) (pe_un un_neg pe_int) (nomark _)) (pe_one (pe_cmpR (op_eqD hr.units) (pv 5) (pe_lst (pa_cons (pe_dget (hu_of hr) (pv 3) pe_str (fun _ _ => rfl)) (pa_cons (pe_dget (hu_of hr) (pv 3) pe_str (fun _ _ => rfl)) (pa_cons (pe_dget (hu_of hr) (pv 3) pe_str (fun _ _ => rfl)) pa_nil)))) (nomark _))))))))))), ?_⟩
    refine ⟨_, rfl, .ref p, _, _, _, true, rfl, .ty "list", .base (.lst hP), kit_ty (by decide +kernel), true, rfl, iteF ?_⟩
    refine ⟨fun σ H1 => ∃ m mk, σ = [some (.ref p), some (.int (n : Int)), some (.int (R : Int)), some (.ref m), none, none, none] ∧ Same H H1 ∧ H m = none ∧ H mk = none ∧ HandAt H1 m mk (wst0 n), ?_, ?_⟩
    · intro m hm
      refine fun mk hmk => ?_
      have hmk0 : H mk = none := (Same.new hm).free hmk
      have nmk : m ≠ mk := ne_of_none upd_same hmk
      refine ⟨_, rfl, ?_⟩
      refine ⟨by rw [upd_ne nmk]; exact upd_same, [(kPl, .int 0), (kMk, .ref mk), (kWa, .int (n : Int)), (kCo, .int 0), (kMo, .int 0)], rfl, by show 5 ≤ 15; decide, ?_⟩
      refine ⟨m, mk, rfl, ?_, hm, hmk0, ?_, ?_⟩
      · exact Same.mut ((Same.new hm).trans (Same.new hmk)) hm
      · rw [upd_same]
        have e : mergeK [] [(kPl, V.int 0), (kMk, .ref mk), (kWa, .int (n : Int)), (kCo, .int 0), (kMo, .int 0)] = mD 0 mk (n : Int) 0 0 := by
          unfold mergeK mD putK
          simp only [List.foldl_cons, List.foldl_nil, List.any_cons, List.any_nil, List.nil_append, List.cons_append, decide_eq_false n_pm, decide_eq_false n_pw, decide_eq_false n_pc, decide_eq_false n_po, decide_eq_false n_mw, decide_eq_false n_mc, decide_eq_false n_mo, decide_eq_false n_wc, decide_eq_false n_wo, decide_eq_false n_co, Bool.or_false, if_neg Bool.false_ne_true, Bool.false_eq_true, if_false]
        rw [e] <;> rfl
      · rw [upd_ne nmk.symm, upd_same] <;> rfl
    rintro σ H1 ⟨m, mk, rfl, s1, hm, hmk, hW⟩
    have hP1 := s1 _ _ hP
    refine ⟨fun σ H2 => ∃ u, σ = [some (.ref p), some (.int (n : Int)), some (.int (R : Int)), some (.ref m), u, none, none] ∧ Same H H2 ∧ HandAt H2 m mk t, ?_, ?_⟩
    · refine ⟨_, rfl, p, rfl, ⟨_, SqL.of hP1⟩, ?_⟩
      refine for_list (K := K) (a := p) (xs := refs ps) (fun i σ H2 => ∃ u s, σ = [some (.ref p), some (.int (n : Int)), some (.int (R : Int)), some (.ref m), u, none, none] ∧ Same H H2 ∧ runW n R ((ps.map (·.2)).take i) (wst0 n) = some s ∧ HandAt H2 m mk s) ⟨none, wst0 n, rfl, s1, rfl, hW⟩ (fun i σ H2 _ ⟨_, _, _, s2, _⟩ => SqL.of (s2 _ _ hP)) ?_ ?_
      · rintro i y σ H2 hi ⟨u, s', rfl, s2, hr2, hW2⟩
        obtain ⟨q, hq, rfl⟩ := get_map hi
        have hqD := s2 _ _ (hD q (List.mem_of_getElem? hq))
        have hd : (ps.map (·.2))[i]? = some q.2 := by rw [List.getElem?_map, hq] <;> rfl
        obtain ⟨v, hv, hrv⟩ := runW_step hrun hr2 hd
        obtain ⟨nd, nl⟩ := runW_nodup hr2 (by show ([] : List Nat).Nodup; exact List.nodup_nil) (Nat.zero_le _)
        refine ⟨_, rfl, q.1, q.2, rfl, hqD, fun H3 s3 => ⟨_, rfl, iteF ?_⟩⟩
        refine ⟨_, rfl, _, rfl, _, rfl, _, rfl, m, mk, q.1, s', v, q.2, n, R, rfl, ⟨s3 _ _ hW2.1, s3 _ _ hW2.2⟩, s3 _ _ hqD, hv, by omega, fun H4 kp hW4 => ⟨_, rfl, iteF ?_⟩⟩
        exact ⟨_, v, rfl, fun b o e => kp b o (s3 _ _ (s2 _ _ e)) (ne_of_none e hm) (ne_of_none e hmk), hrv, hW4⟩
      · rintro σ H2 ⟨u, s', rfl, s2, hr2, hW2⟩
        rw [refs_len, List.take_of_length_le (by rw [List.length_map]; exact Nat.le_refl _), hrun] at hr2
        have e : t = s' := Option.some.inj hr2
        rw [← e] at hW2
        exact ⟨u, rfl, s2, hW2⟩
    rintro σ H2 ⟨u, rfl, s2, hW2⟩
    have hP2 := s2 _ _ hP
    have hD2 := hD.same s2
    have hcost : ((costD (ps.map (·.2)) : Nat) : Int) = (t.co : Int) := by
      have := runW_cost hrun
      have z : t.co = 0 + costD (ps.map (·.2)) := this
      omega
    have hmost : mostD (ps.map (·.2)) = (t.mo : Int) := runW_most (m := (0, 0)) hrun List.nodup_nil rfl rfl (Nat.le_refl _)
    refine ⟨fun σ H4 => Same H2 H4 ∧ ∃ u l3, σ = [some (.ref p), some (.int (n : Int)), some (.int (R : Int)), some (.ref m), u, some (.ref l3), none] ∧ H4 l3 = some (.lst ([costN n R, (t.co : Int), (t.mo : Int)].map V.int)), ?_, ?_⟩
    · refine ⟨_, rfl, _, rfl, .inl ⟨n, R, rfl, h1, h2, h3, ?_⟩⟩
      refine ⟨_, rfl, p, _, rfl, .inl (SqL.of hP2), fun l1 hl1 => ?_⟩
      have w1 := Same.new (o := .lst (refs ps)) hl1
      refine ⟨l1, ps, rfl, SqL.of upd_same, hD2.same w1, hl, fun H3 s3 => ?_⟩
      refine ⟨_, rfl, p, _, rfl, .inl (SqL.of (s3 _ _ (w1 _ _ hP2))), fun l2 hl2 => ?_⟩
      have w2 := w1.trans (s3.trans (Same.new (o := .lst (refs ps)) hl2))
      refine ⟨l2, ps, rfl, SqL.of upd_same, hD2.same w2, ?_⟩
      refine ⟨by show 3 ≤ sizeLine; decide, fun l3 hl3 => ?_⟩
      refine ⟨w2.trans (Same.new hl3), _, l3, rfl, ?_⟩
      rw [upd_same, hcost, hmost] <;> rfl
    rintro σ H4 ⟨s4, u, l3, rfl, hl3⟩
    refine ⟨_, rfl, l3, rfl, ⟨_, SqL.of hl3⟩, fun D hD' => ?_⟩
    refine lc_list (K := K) (a := l3) (xs := [costN n R, (t.co : Int), (t.mo : Int)].map V.int) (fun j H5 => Same H4 H5 ∧ H5 D = some (.lst ((List.replicate j true).map V.bl))) ⟨Same.new hD', upd_same⟩ (fun j H5 _ ⟨s5, _⟩ => SqL.of (s5 _ _ hl3)) ?_ ?_
    · rintro j y H5 hj ⟨s5, hQ⟩
      obtain ⟨z, hz, rfl⟩ := get_map hj
      have hzl : j < 3 := (List.getElem?_eq_some_iff.mp hz).1
      refine ⟨rfl, ?_⟩
      refine ⟨_, rfl, .int z, some z, rfl, .int z, _, hQ, sz5' (by rw [List.length_map, List.length_replicate]; omega), Same.mut s5 hD', ?_⟩
      rw [upd_same, List.replicate_succ', List.map_append] <;> rfl
    · rintro H5 ⟨s5, hQ⟩
      refine ⟨D, _, rfl, SqL.of hQ, _, rfl, iteF ?_⟩
      have s45 := s4.trans s5
      have hM5 := s45 _ _ hW2.1
      refine ⟨_, rfl, m, _, rfl, get_w hM5, _, rfl, rfl, true, ?_, iteT ?_⟩
      · show V.bl (decide (V.int t.wa = V.int (-1))) = V.bl true
        rw [hwa] <;> rfl
      refine ⟨_, rfl, _, rfl, m, _, rfl, get_c hM5, _, rfl, m, _, rfl, get_c hM5, _, rfl, m, _, rfl, get_o hM5, by show 3 ≤ sizeLine; decide, fun l4 hl4 => ?_⟩
      have w4 := Same.new (o := .lst [.int (t.co : Int), .int (t.co : Int), .int (t.mo : Int)]) hl4
      refine ⟨.list ([costN n R, (t.co : Int), (t.mo : Int)].map PyData.int), .list ([(t.co : Int), (t.co : Int), (t.mo : Int)].map PyData.int), .lst (SqL.of (w4 _ _ (s5 _ _ hl3))) (dp_ints _), .lst (SqL.of upd_same) (dp_ints [(t.co : Int), (t.co : Int), (t.mo : Int)]), (sh_ints (n := 0) _).shaped (by decide), (sh_ints (n := 0) _).shaped (by decide), ?_⟩
      rw [← hco, (sh_ints (n := 0) _).refl]
      exact k _ ((s2.trans s45).trans w4)
def kinds8 (i : Nat) : List V := [.bl (decide (0 = i)), .bl (decide (1 = i)), .bl (decide (2 = i)), .bl (decide (3 = i)), .bl (decide (4 = i)), .bl (decide (5 = i)), .bl (decide (6 = i)), .bl (decide (7 = i))]
theorem kinds_count {i : Nat} (h : i < 8) : ((kinds8 i).countP fun z => eqV z (.bl true)) = 1 := eight (P := fun i => ((kinds8 i).countP fun z => eqV z (.bl true)) = 1) h rfl rfl rfl rfl rfl rfl rfl rfl
theorem kinds_at {i : Nat} (h : i < 8) : (kinds8 i)[i]? = some (.bl true) := eight (P := fun i => (kinds8 i)[i]? = some (.bl true)) h rfl rfl rfl rfl rfl rfl rfl rfl
theorem kinds_ahead {i m : Nat} (h : i < 8) (hm : m < i) : (kinds8 i)[m]? = some (.bl false) := by
  have g : ∀ i, i < 8 → ∀ m, m < i → (kinds8 i)[m]? = some (.bl false) := by decide
  exact g i h m hm
theorem words_at {i : Nat} (h : i < 8) : (words8.map V.str)[i]? = some (.str (words8.getD i "")) := eight (P := fun i => (words8.map V.str)[i]? = some (.str (words8.getD i ""))) h rfl rfl rfl rfl rfl rfl rfl rfl
theorem ok_l_class (T : Txt K mg) : ∃ (f : Addr) (fd : FuncData), mg "_law_class" = some (.ref f) ∧ PySem.W.keepIn K (.ref f) = true ∧ Binds K fd ["_law_e"] [] ∧ FnE P w K mg base 1 f fd ["_law_e"] (sp_class K T.c8) := by
  obtain ⟨f, fd, hm, F, hb⟩ := T.d_l_class
  refine ⟨f, fd, hm, F.kp, hb, fn_ofE F sc_l_class (fun a c d vs H Q h => ?_) (fun cdv A outer s H vs Q p c d hz hf hr h => ?_)⟩
  · obtain ⟨rfl, _⟩ := h
    rfl
  · obtain ⟨rfl, D, i, rfl, rfl, KD, k⟩ := h
    refine ⟨_, (pss_cons (ps_set (i := 1) sc_l_class.nd rfl (Or.inl rfl) (pe_lst (pa_cons (pe_callB (call_isP (List.mem_singleton_self _) hz hf) (by rfl) T.n_isinstance (by decide +kernel) (pa_cons (pv 0) (pa_cons (pe_glob (v := .ref T.aBadCount) (by rfl) T.x_BadCount.g rfl) pa_nil))) (pa_cons (pe_callB (call_isP (List.mem_singleton_self _) hz hf) (by rfl) T.n_isinstance (by decide +kernel) (pa_cons (pv 0) (pa_cons (pe_glob (v := .ref T.aBadRule) (by rfl) T.x_BadRule.g rfl) pa_nil))) (pa_cons (pe_callB (call_isP (List.mem_singleton_self _) hz hf) (by rfl) T.n_isinstance (by decide +kernel) (pa_cons (pv 0) (pa_cons (pe_glob (v := .ref T.aBadDeed) (by rfl) T.x_BadDeed.g rfl) pa_nil))) (pa_cons (pe_callB (call_isP (List.mem_singleton_self _) hz hf) (by rfl) T.n_isinstance (by decide +kernel) (pa_cons (pv 0) (pa_cons (pe_glob (v := .ref T.aFull) (by rfl) T.x_Full.g rfl) pa_nil))) pa_nil))))))
    (pss_cons (ps_set (i := 1) sc_l_class.nd rfl (Or.inl rfl) (pe_op op_cat (pv 1) (pe_lst (pa_cons (pe_callB (call_isP (List.mem_singleton_self _) hz hf) (by rfl) T.n_isinstance (by decide +kernel) (pa_cons (pv 0) (pa_cons (pe_glob (v := .ref T.aTwice) (by rfl) T.x_Twice.g rfl) pa_nil))) (pa_cons (pe_callB (call_isP (List.mem_singleton_self _) hz hf) (by rfl) T.n_isinstance (by decide +kernel) (pa_cons (pv 0) (pa_cons (pe_glob (v := .ref T.aNotKept) (by rfl) T.x_NotKept.g rfl) pa_nil))) (pa_cons (pe_callB (call_isP (List.mem_singleton_self _) hz hf) (by rfl) T.n_isinstance (by decide +kernel) (pa_cons (pv 0) (pa_cons (pe_glob (v := .ref T.aAtEnd) (by rfl) T.x_AtEnd.g rfl) pa_nil))) (pa_cons (pe_callB (call_isP (List.mem_singleton_self _) hz hf) (by rfl) T.n_isinstance (by decide +kernel) (pa_cons (pv 0) (pa_cons (pe_glob (v := .ref T.aNotWanted) (by rfl) T.x_NotWanted.g rfl) pa_nil))) pa_nil)))))))
    (pss_cons (ps_if (PW.pt (pw_or (pt_cmpR op_ne (pe_bm PySem.F.plainAttrs_list PySem.F.slot_list_count PySem.F.type_list_count mt_countV (pv 1) (pa_cons pe_bl pa_nil)) pe_int (nomark _)) (pw_or1 (pt_not (pt_val (pe_callB (call_isP (List.mem_singleton_self _) hz hf) (by rfl) T.n_isinstance (by decide +kernel) (pa_cons (pv 0) (pa_cons (pe_bltn (v := .ty "ValueError") (by rfl) T.n_ValueError (by decide +kernel) rfl) pa_nil))))))))
    (pss_one (ps_ret (pe_tup (pa_cons pe_str (pa_cons pe_str pa_nil)))))
    pss_nil)
    (pss_cons (ps_set (i := 2) sc_l_class.nd rfl (Or.inl rfl) (pe_lst (pa_cons pe_str (pa_cons pe_str (pa_cons pe_str (pa_cons pe_str (pa_cons pe_str (pa_cons pe_str (pa_cons pe_str (pa_cons pe_str pa_nil))))))))))
    (pss_one (ps_ret (pe_tup (pa_cons pe_str (pa_cons (pe_ix ix_list (pv 2) (pe_bm PySem.F.plainAttrs_list PySem.F.slot_list_index PySem.F.type_list_index mt_index (pv 1) (pa_cons pe_bl pa_nil)) (fun _ _ => rfl)) pa_nil))))))))), ?_⟩
    refine ⟨_, rfl, D, .ref _, .ref _, _, rfl, rfl, KD.ex, rfl, fun u r => r, KD.is 0 (by decide), _, rfl, D, .ref _, .ref _, _, rfl, rfl, KD.ex, rfl, fun u r => r, KD.is 1 (by decide), _, rfl, D, .ref _, .ref _, _, rfl, rfl, KD.ex, rfl, fun u r => r, KD.is 2 (by decide), _, rfl, D, .ref _, .ref _, _, rfl, rfl, KD.ex, rfl, fun u r => r, KD.is 3 (by decide), by show 4 ≤ sizeLine; decide, fun p1 h1 => ?_⟩
    refine ⟨_, rfl, ?_⟩
    refine ⟨_, rfl, D, .ref _, .ref _, _, rfl, rfl, KD.ex, rfl, fun u r => r, KD.is 4 (by decide), _, rfl, D, .ref _, .ref _, _, rfl, rfl, KD.ex, rfl, fun u r => r, KD.is 5 (by decide), _, rfl, D, .ref _, .ref _, _, rfl, rfl, KD.ex, rfl, fun u r => r, KD.is 6 (by decide), _, rfl, D, .ref _, .ref _, _, rfl, rfl, KD.ex, rfl, fun u r => r, KD.is 7 (by decide), by show 4 ≤ sizeLine; decide, fun p2 h2 => ?_⟩
    have n12 : p1 ≠ p2 := ne_of_none upd_same h2
    refine ⟨p1, p2, _, _, rfl, rfl, by rw [upd_ne n12]; exact upd_same, upd_same, by show 8 ≤ sizeLine; decide, fun p3 h3 => ?_⟩
    have sm := fun (o : HO) => ((Same.new h1).trans (Same.new h2)).trans (Same.new (o := o) h3)
    -- the two refusals of the shape
    refine ⟨_, rfl, .inl ⟨rfl, _, SqL.of upd_same⟩, p3, kinds8 i, .bl true, rfl, rfl, SqL.of upd_same, rfl, rfl, ?_⟩
    rw [kinds_count KD.lt]
    refine ⟨rfl, _, rfl, iteNS rfl ?_⟩
    refine ⟨_, rfl, D, .ty "ValueError", .type "ValueError", _, rfl, rfl, KD.ex, rfl, fun u r => r, KD.ve, _, rfl, iteF ?_⟩
    refine ⟨by show 8 ≤ sizeLine; decide, fun p4 h4 => ?_⟩
    have n34 : p3 ≠ p4 := ne_of_none upd_same h4
    refine ⟨_, rfl, _, rfl, .inl ⟨rfl, _, SqL.of (by rw [upd_ne n34]; exact upd_same)⟩, p3, kinds8 i, .bl true, i, .bl true, rfl, rfl, SqL.of (by rw [upd_ne n34]; exact upd_same), rfl, rfl, kinds_at KD.lt, rfl, fun m z' hm hz' => ?_, ?_⟩
    · rw [kinds_ahead KD.lt hm] at hz'
      cases hz'
      rfl
    refine ⟨p4, words8.map V.str, _, _, rfl, rfl, SqL.of upd_same, atI_nat (words_at KD.lt), by show 2 ≤ sizeLine; decide, fun t ht => ?_⟩
    exact k t _ (((sm _).trans (Same.new h4)).free ht) (((sm _).trans (Same.new h4)).trans (Same.new ht)) upd_same

def sp_l_told (K : PySem.W.Frag) : Sp := fun vs H Q _ => ∃ (x y : V) (o1 o2 : Option Int), vs = [x, y] ∧ Thg K H x o1 ∧ Thg K H y o2 ∧ goodC o1 o2 = false ∧ RetT H [.str "refused", .str "count"] Q
theorem ok_l_told (T : Txt K mg) : OkF P w K mg base "_law_told" 107 ["_law_steps", "_law_room"] (sp_l_told K) := by
  obtain ⟨f_plan, fd_plan, m_plan, k_plan, b_plan, G_plan⟩ := ok_plan (P := P) (w := w) (base := base) T
  obtain ⟨f_l_class, fd_l_class, m_l_class, k_l_class, b_l_class, G_l_class⟩ := ok_l_class (P := P) (w := w) (base := base) T
  refine okf T.d_l_told sc_l_told (fun vs H Q E h => ?_) (fun f cdv A outer s H vs Q E hr h => ?_)
  · obtain ⟨x, y, o1, o2, rfl, t1, t2, g, k⟩ := h
    rfl
  · obtain ⟨x, y, o1, o2, rfl, t1, t2, g, k⟩ := h
    refine ⟨_, (pss_one (ps_try_as (i := 2) rfl rfl sc_l_told.nd rfl rfl ⟨rfl, by decide, .inl T.x_MarkError.g⟩ takes0 (fun W pn xe tk po => (pss_one (ps_ret (pe_callS G_plan (hr.mono (by decide)) (by rfl) m_plan k_plan b_plan (fun σ => passAt tk σ) (pa_cons (pv 0) (pa_cons (pv 1) pa_nil)))))) (fun a oe cls d pn hz hf => (pss_one (ps_ret (pe_hotE G_l_class (hr.mono (by decide)) hz hf (by rfl) m_l_class k_l_class b_l_class (pa_cons (pv 2) pa_nil))))))), ?_⟩
    refine ⟨_, rfl, _, rfl, .inr ⟨x, y, o1, o2, rfl, t1, t2, g, ?_⟩⟩
    refine ⟨true, T.e_BadCount, fun _ a ha => ?_, fun q => Bool.noConfusion q⟩
    exact ⟨_, rfl, rfl, T.aBadCount, 0, rfl, rfl, T.q_BadCount, k⟩
def refC : PyData := .tuple [.str "refused", .str "count"]
theorem refC_sh : Sh 1 refC := .tup fun d hd => by
  rcases List.mem_cons.mp hd with e | hd
  · rw [e]; exact .str (by decide +kernel)
  · rw [List.mem_singleton.mp hd]; exact .str (by decide +kernel)
theorem refC_dp {K : PySem.W.Frag} {H : Hp} {t : Addr} (h : H t = some (.tup [.str "refused", .str "count"])) : Dp K H (.ref t) refC := .tup (SqT.of h) (.cons (.str _) (.cons (.str _) .nil))
def Deed.pd : Deed → PyData
  | .keep => .tuple [.str "keep"]
  | .meet => .tuple [.str "meet"]
  | .take p => .tuple [.str "take", .int (p : Int)]
  | .drop p => .tuple [.str "drop", .int (p : Int)]
  | .go n => .tuple [.str "go", .int (n : Int)]
theorem Deed.sh (d : Deed) : Sh 1 d.pd := by
  have w : ∀ s : Str, (PyData.str s).canLay0 = true → Sh 1 (.tuple [.str s]) := fun s h => .tup fun d hd => by
    rw [List.mem_singleton.mp hd]
    exact .str h
  have w2 : ∀ (s : Str) (i : Int), (PyData.str s).canLay0 = true → Sh 1 (.tuple [.str s, .int i]) := fun s i h => .tup fun d hd => by
    rcases List.mem_cons.mp hd with e | hd
    · rw [e]; exact .str h
    · rw [List.mem_singleton.mp hd]; exact .int i
  cases d with
  | keep => exact w _ (by decide +kernel)
  | meet => exact w _ (by decide +kernel)
  | take p => exact w2 _ _ (by decide +kernel)
  | drop p => exact w2 _ _ (by decide +kernel)
  | go n => exact w2 _ _ (by decide +kernel)
theorem Deed.dp {K : PySem.W.Frag} {H : Hp} {a : Addr} (d : Deed) (h : H a = some (.tup d.vs)) : Dp K H (.ref a) d.pd := by
  cases d with
  | keep => exact .tup (SqT.of h) (.cons (.str _) .nil)
  | meet => exact .tup (SqT.of h) (.cons (.str _) .nil)
  | take p => exact .tup (SqT.of h) (.cons (.str _) (.cons (.int _) .nil))
  | drop p => exact .tup (SqT.of h) (.cons (.str _) (.cons (.int _) .nil))
  | go n => exact .tup (SqT.of h) (.cons (.str _) (.cons (.int _) .nil))
theorem deeds_dp {K : PySem.W.Frag} {H : Hp} : ∀ {ps : List (Addr × Deed)}, DS H ps → DpAll K H (refs ps) (ps.map fun q => q.2.pd)
  | [], _ => .nil
  | q :: ps, h => .cons (q.2.dp (h q List.mem_cons_self)) (deeds_dp fun x hx => h x (List.mem_cons_of_mem _ hx))
theorem deeds_sh (ps : List (Addr × Deed)) : Sh 2 (.list (ps.map fun q => q.2.pd)) := .lst fun d hd => by
  obtain ⟨q, _, rfl⟩ := List.mem_map.mp hd
  exact q.2.sh
/-- a thing that is no whole number within the bounds -/
def Odd (K : PySem.W.Frag) (H : Hp) (lo hi : Int) (v : V) : Prop := ∃ o, Thg K H v o ∧ among o lo hi = false
theorem Odd.same {K : PySem.W.Frag} {H H' : Hp} {lo hi : Int} {v : V} (e : Same H H') (h : Odd K H lo hi v) : Odd K H' lo hi v := by
  obtain ⟨o, t, q⟩ := h
  exact ⟨o, t.same e, q⟩
theorem odd1 {K : PySem.W.Frag} {H : Hp} {l : Addr} (h : H l = some (.lst [.int 1])) : ∀ v ∈ [V.int (-1), .int 101, .bl false, .str "2", .non, .ref l], Odd K H 0 100 v := by
  intro v hv
  simp only [List.mem_cons, List.not_mem_nil, or_false] at hv
  rcases hv with rfl | rfl | rfl | rfl | rfl | rfl
  · exact ⟨_, .int _, rfl⟩
  · exact ⟨_, .int _, rfl⟩
  · exact ⟨_, .bl _, rfl⟩
  · exact ⟨_, .str _, rfl⟩
  · exact ⟨_, .non, rfl⟩
  · exact ⟨_, .lst h, rfl⟩
theorem odd2 {K : PySem.W.Frag} {H : Hp} {l : Addr} (h : H l = some (.lst [.int 1])) : ∀ v ∈ [V.int 0, .int 13, .bl true, .str "2", .non, .ref l], Odd K H 1 12 v := by
  intro v hv
  simp only [List.mem_cons, List.not_mem_nil, or_false] at hv
  rcases hv with rfl | rfl | rfl | rfl | rfl | rfl
  · exact ⟨_, .int _, rfl⟩
  · exact ⟨_, .int _, rfl⟩
  · exact ⟨_, .bl _, rfl⟩
  · exact ⟨_, .str _, rfl⟩
  · exact ⟨_, .non, rfl⟩
  · exact ⟨_, .lst h, rfl⟩
theorem ok_law_at (T : Txt K mg) {f : Addr} {fd : FuncData} (F : Fun K "law" "law" s_law f fd) : FnOk P w K mg base (L2.CX P w) 108 f fd ["_law_script"] (sp_law K) := by
  obtain ⟨f_l_cell_at, fd_l_cell_at, m_l_cell_at, k_l_cell_at, b_l_cell_at, G_l_cell_at⟩ := ok_l_cell_at (P := P) (w := w) (base := base) T
  obtain ⟨f_l_told, fd_l_told, m_l_told, k_l_told, b_l_told, G_l_told⟩ := ok_l_told (P := P) (w := w) (base := base) T
  obtain ⟨f_plan, fd_plan, m_plan, k_plan, b_plan, G_plan⟩ := ok_plan (P := P) (w := w) (base := base) T
  obtain ⟨f_l_good, fd_l_good, m_l_good, k_l_good, b_l_good, G_l_good⟩ := ok_l_good (P := P) (w := w) (base := base) T
  refine F.okX sc_law (fun vs H Q E h => ?_) (fun cdv A outer s H vs Q E hr h => ?_)
  · obtain ⟨a, ns, rfl, hS, hl, k⟩ := h
    rfl
  · obtain ⟨a, ns, rfl, hS, hl, k⟩ := h
    refine ⟨_, (Evl.pss_cut (ps_set (i := 1) sc_law.nd rfl (Or.inl rfl) (pe_call G_l_cell_at (hr.mono (by decide)) (by rfl) m_l_cell_at k_l_cell_at b_l_cell_at .nil passL (pa_cons (pv 0) (pa_cons pe_int pa_nil))))
        (Evl.pss_cut (ps_set (i := 2) sc_law.nd rfl (Or.inl rfl) (pe_op op_mod (pe_call G_l_cell_at (hr.mono (by decide)) (by rfl) m_l_cell_at k_l_cell_at b_l_cell_at .nil passL (pa_cons (pv 0) (pa_cons pe_int pa_nil))) pe_int))
        (Evl.pss_cut (ps_set (i := 3) sc_law.nd rfl (Or.inl rfl) (pe_op op_add pe_int (pe_op op_mod (pe_call G_l_cell_at (hr.mono (by decide)) (by rfl) m_l_cell_at k_l_cell_at b_l_cell_at .nil passL (pa_cons (pv 0) (pa_cons pe_int pa_nil))) pe_int)))
        (Evl.pss_cut (ps_if (pt_cmpR op_eq (pe_op op_mod (pv 1) pe_int) pe_int (nomark _))
        (pss_one (ps_set (i := 2) sc_law.nd rfl (Or.inl rfl) (pe_op op_mod (pe_call G_l_cell_at (hr.mono (by decide)) (by rfl) m_l_cell_at k_l_cell_at b_l_cell_at .nil passL (pa_cons (pv 0) (pa_cons pe_int pa_nil))) pe_int)))
        pss_nil)
        (Evl.pss_cut (ps_if (pt_cmpR op_eq (pe_op op_mod (pv 1) pe_int) pe_int (nomark _))
        (pss_one (ps_set (i := 3) sc_law.nd rfl (Or.inl rfl) (pe_op op_add pe_int (pe_op op_mod (pe_call G_l_cell_at (hr.mono (by decide)) (by rfl) m_l_cell_at k_l_cell_at b_l_cell_at .nil passL (pa_cons (pv 0) (pa_cons pe_int pa_nil))) pe_int))))
        pss_nil)
        (Evl.pss_cut (ps_if (pt_cmpR op_eq (pe_op op_mod (pv 1) pe_int) pe_int (nomark _))
        (Evl.pss_cut (ps_set (i := 2) sc_law.nd rfl (Or.inl rfl) (pe_op op_mod (pe_call G_l_cell_at (hr.mono (by decide)) (by rfl) m_l_cell_at k_l_cell_at b_l_cell_at .nil passL (pa_cons (pv 0) (pa_cons pe_int pa_nil))) pe_int))
        (pss_one (ps_set (i := 3) sc_law.nd rfl (Or.inl rfl) (pe_op op_add pe_int (pe_op op_mod (pe_call G_l_cell_at (hr.mono (by decide)) (by rfl) m_l_cell_at k_l_cell_at b_l_cell_at .nil passL (pa_cons (pv 0) (pa_cons pe_int pa_nil))) pe_int)))))
        pss_nil)
        (Evl.pss_cut (ps_set (i := 4) sc_law.nd rfl (Or.inl rfl) (pe_ix ix_list (pe_lst (pa_cons pe_int (pa_cons pe_int (pa_cons pe_bl (pa_cons pe_str (pa_cons pe_non (pa_cons (pe_lst (pa_cons pe_int pa_nil)) pa_nil))))))) (pe_op op_mod (pe_op op_fdiv (pv 1) pe_int) pe_int) (fun _ _ => rfl)))
        (Evl.pss_cut (ps_set (i := 5) sc_law.nd rfl (Or.inl rfl) (pe_ix ix_list (pe_lst (pa_cons (pe_un un_neg pe_int) (pa_cons pe_int (pa_cons pe_bl (pa_cons pe_str (pa_cons pe_non (pa_cons (pe_lst (pa_cons pe_int pa_nil)) pa_nil))))))) (pe_op op_mod (pe_op op_fdiv (pv 1) pe_int) pe_int) (fun _ _ => rfl)))
        (Evl.pss_cut (ps_set (i := 6) sc_law.nd rfl (Or.inl rfl) (pe_lst (pa_cons (pe_call G_l_told (hr.mono (by decide)) (by rfl) m_l_told k_l_told b_l_told .nil passL (pa_cons (pv 2) (pa_cons (pv 4) pa_nil))) (pa_cons (pe_call G_l_told (hr.mono (by decide)) (by rfl) m_l_told k_l_told b_l_told .nil passL (pa_cons (pv 5) (pa_cons (pv 3) pa_nil))) (pa_cons (pe_call G_l_told (hr.mono (by decide)) (by rfl) m_l_told k_l_told b_l_told .nil passL (pa_cons (pv 5) (pa_cons (pv 4) pa_nil))) pa_nil)))))
        (pss_cons (ps_if (pt_cmpR (op_neD hr.units) (pv 6) (pe_op op_rep (pe_lst (pa_cons (pe_tup (pa_cons pe_str (pa_cons pe_str pa_nil))) pa_nil)) pe_int) (nomark _))
        (pss_one (ps_ret pe_bl))
        pss_nil)
        (pss_cons (ps_set (i := 7) sc_law.nd rfl (Or.inl rfl) (pe_call G_plan (hr.mono (by decide)) (by rfl) m_plan k_plan b_plan .nil passL (pa_cons (pv 2) (pa_cons (pv 3) pa_nil))))
        (Evl.pss_cut (ps_if (pt_not (pt_val (pe_call G_l_good (hr.mono (by decide)) (by rfl) m_l_good k_l_good b_l_good .nil passL (pa_cons (pv 7) (pa_cons (pv 2) (pa_cons (pv 3) pa_nil))))))
        (pss_one (ps_ret pe_bl))
        pss_nil)
        (pss_cons (ps_set (i := 8) sc_law.nd rfl (Or.inl rfl) (pe_op op_cat (pe_callTy (T := "list") (r := rListOf K) call_list_of (by rfl) T.n_list (by decide +kernel) (pa_cons (pv 7) pa_nil)) (pe_lst (pa_cons (pe_tup (pa_cons pe_str (pa_cons pe_int pa_nil))) pa_nil))))
        (pss_cons (ps_expr (pe_bm PySem.F.plainAttrs_list PySem.F.slot_list_append PySem.F.type_list_append mt_append (pv 7) (pa_cons (pe_tup (pa_cons pe_str (pa_cons pe_int pa_nil))) pa_nil)))
        (pss_cons (ps_set (i := 9) sc_law.nd rfl (Or.inl rfl) (pe_call G_plan (hr.mono (by decide)) (by rfl) m_plan k_plan b_plan .nil passL (pa_cons (pv 2) (pa_cons (pv 3) pa_nil))))
        (pss_one (ps_ret (pe_and (pe_call G_l_good (hr.mono (by decide)) (by rfl) m_l_good k_l_good b_l_good .nil passL (pa_cons (pv 9) (pa_cons (pv 2) (pa_cons (pv 3) pa_nil)))) (pe_one (pe_cmpR (op_eqD hr.units) (pv 7) (pv 8) (nomark _))))))))))))))))))))), ?_⟩
    obtain ⟨c, hc⟩ : ∃ c, cellAt ns 2 = c := ⟨_, rfl⟩
    refine ⟨fun σ H' => H' = H ∧ σ = [some (.ref a), some (.int c), none, none, none, none, none, none, none, none], ⟨_, rfl, a, ns, 2, rfl, hS, rfl, ?_⟩, ?_⟩
    · rw [← hc] <;> rfl
    rintro σ H' ⟨rfl, rfl⟩
    refine ⟨fun σ H1 => H1 = H' ∧ ∃ s0 : Nat, s0 ≤ 100 ∧ σ = [some (.ref a), some (.int c), some (.int (s0 : Int)), none, none, none, none, none, none, none], ?_, ?_⟩
    · obtain ⟨s0, hs0, es0⟩ := rem_nat (z := cellAt ns 0) (m := 31) (by decide)
      refine ⟨_, rfl, a, ns, 0, rfl, hS, _, _, rfl, rfl, by show (0 : Int) < 31; decide, rfl, s0, by omega, ?_⟩
      rw [← es0] <;> rfl
    rintro σ H1 ⟨rfl, s0, hs0, rfl⟩
    refine ⟨fun σ H2 => H2 = H1 ∧ ∃ s0 r : Nat, s0 ≤ 100 ∧ 1 ≤ r ∧ r ≤ 12 ∧ σ = [some (.ref a), some (.int c), some (.int (s0 : Int)), some (.int (r : Int)), none, none, none, none, none, none], ?_, ?_⟩
    · obtain ⟨r0, hr0, er0⟩ := rem_nat (z := cellAt ns 1) (m := 5) (by decide)
      refine ⟨_, rfl, a, ns, 1, rfl, hS, _, _, rfl, rfl, by show (0 : Int) < 5; decide, _, _, rfl, rfl, rfl, s0, 1 + r0, hs0, by omega, by omega, ?_⟩
      rw [Int.natCast_add, ← er0] <;> rfl
    rintro σ H2 ⟨rfl, s0, r, hs0, h1, h2, rfl⟩
    refine ⟨fun σ H3 => H3 = H2 ∧ ∃ s0 r : Nat, s0 ≤ 100 ∧ 1 ≤ r ∧ r ≤ 12 ∧ σ = [some (.ref a), some (.int c), some (.int (s0 : Int)), some (.int (r : Int)), none, none, none, none, none, none], ?_, ?_⟩
    · refine ⟨_, rfl, _, _, rfl, rfl, by show (0 : Int) < 8; decide, rfl, _, rfl, ?_⟩
      refine ite2 (fun _ => ?_) (fun _ => ?_)
      · obtain ⟨s1, hs1, es1⟩ := rem_nat (z := cellAt ns 0) (m := 101) (by decide)
        refine ⟨_, rfl, a, ns, 0, rfl, hS, _, _, rfl, rfl, by show (0 : Int) < 101; decide, rfl, s1, r, by omega, h1, h2, ?_⟩
        rw [← es1] <;> rfl
      · exact ⟨rfl, s0, r, hs0, h1, h2, rfl⟩
    rintro σ H2 ⟨rfl, s0, r, hs0, h1, h2, rfl⟩
    refine ⟨fun σ H3 => H3 = H2 ∧ ∃ s0 r : Nat, s0 ≤ 100 ∧ 1 ≤ r ∧ r ≤ 12 ∧ σ = [some (.ref a), some (.int c), some (.int (s0 : Int)), some (.int (r : Int)), none, none, none, none, none, none], ?_, ?_⟩
    · refine ⟨_, rfl, _, _, rfl, rfl, by show (0 : Int) < 8; decide, rfl, _, rfl, ?_⟩
      refine ite2 (fun _ => ?_) (fun _ => ?_)
      · obtain ⟨r0, hr0, er0⟩ := rem_nat (z := cellAt ns 1) (m := 12) (by decide)
        refine ⟨_, rfl, a, ns, 1, rfl, hS, _, _, rfl, rfl, by show (0 : Int) < 12; decide, _, _, rfl, rfl, rfl, s0, 1 + r0, hs0, by omega, by omega, ?_⟩
        rw [Int.natCast_add, ← er0] <;> rfl
      · exact ⟨rfl, s0, r, hs0, h1, h2, rfl⟩
    rintro σ H2 ⟨rfl, s0, r, hs0, h1, h2, rfl⟩
    refine ⟨fun σ H3 => H3 = H2 ∧ ∃ s0 r : Nat, s0 ≤ 100 ∧ 1 ≤ r ∧ r ≤ 12 ∧ σ = [some (.ref a), some (.int c), some (.int (s0 : Int)), some (.int (r : Int)), none, none, none, none, none, none], ?_, ?_⟩
    · refine ⟨_, rfl, _, _, rfl, rfl, by show (0 : Int) < 8; decide, rfl, _, rfl, ?_⟩
      refine ite2 (fun _ => ?_) (fun _ => ?_)
      · obtain ⟨s1, hs1, es1⟩ := rem_nat (z := cellAt ns 0) (m := 101) (by decide)
        obtain ⟨r0, hr0, er0⟩ := rem_nat (z := cellAt ns 1) (m := 12) (by decide)
        refine ⟨fun σ H3 => H3 = H2 ∧ σ = [some (.ref a), some (.int c), some (.int (s1 : Int)), some (.int (r : Int)), none, none, none, none, none, none], ?_, ?_⟩
        · refine ⟨_, rfl, a, ns, 0, rfl, hS, _, _, rfl, rfl, by show (0 : Int) < 101; decide, rfl, ?_⟩
          rw [← es1] <;> rfl
        rintro σ H3 ⟨rfl, rfl⟩
        refine ⟨_, rfl, a, ns, 1, rfl, hS, _, _, rfl, rfl, by show (0 : Int) < 12; decide, _, _, rfl, rfl, rfl, s1, 1 + r0, by omega, by omega, by omega, ?_⟩
        rw [Int.natCast_add, ← er0] <;> rfl
      · exact ⟨rfl, s0, r, hs0, h1, h2, rfl⟩
    rintro σ H2 ⟨rfl, s0, r, hs0, h1, h2, rfl⟩
    refine ⟨fun σ H3 => ∃ y, Odd K H3 1 12 y ∧ σ = [some (.ref a), some (.int c), some (.int (s0 : Int)), some (.int (r : Int)), some y, none, none, none, none, none], ?_, ?_⟩
    · obtain ⟨j, hj, ej⟩ := rem_nat (z := c / 8) (m := 6) (by decide)
      refine ⟨by show 1 ≤ sizeLine; decide, fun l3 hl3 => ?_⟩
      refine ⟨by show 6 ≤ sizeLine; decide, fun l hl => ?_⟩
      have n3 : l3 ≠ l := ne_of_none upd_same hl
      obtain ⟨v, hv, q⟩ := pick (odd2 (K := K) (H := upd (upd H2 l3 (.lst [.int 1])) l (.lst [.int 0, .int 13, .bl true, .str "2", .non, .ref l3])) (l := l3) (by rw [upd_ne n3]; exact upd_same)) (j := j) (by show j < 6; omega)
      exact ⟨_, rfl, _, _, rfl, rfl, ⟨by decide, by decide⟩, _, _, rfl, rfl, by show (0 : Int) < 6; decide, l, _, _, v, rfl, rfl, SqL.of upd_same, at_of ej hv, v, q, rfl⟩
    rintro σ H3 ⟨y, oy, rfl⟩
    refine ⟨fun σ H4 => ∃ x, Odd K H4 0 100 x ∧ Odd K H4 1 12 y ∧ σ = [some (.ref a), some (.int c), some (.int (s0 : Int)), some (.int (r : Int)), some y, some x, none, none, none, none], ?_, ?_⟩
    · obtain ⟨j, hj, ej⟩ := rem_nat (z := c / 48) (m := 6) (by decide)
      refine ⟨_, rfl, by show 1 ≤ sizeLine; decide, fun l3 hl3 => ?_⟩
      refine ⟨by show 6 ≤ sizeLine; decide, fun l hl => ?_⟩
      have n3 : l3 ≠ l := ne_of_none upd_same hl
      obtain ⟨v, hv, q⟩ := pick (odd1 (K := K) (H := upd (upd H3 l3 (.lst [.int 1])) l (.lst [.int (-1), .int 101, .bl false, .str "2", .non, .ref l3])) (l := l3) (by rw [upd_ne n3]; exact upd_same)) (j := j) (by show j < 6; omega)
      exact ⟨_, rfl, _, _, rfl, rfl, ⟨by decide, by decide⟩, _, _, rfl, rfl, by show (0 : Int) < 6; decide, l, _, _, v, rfl, rfl, SqL.of upd_same, at_of ej hv, v, q, oy.same ((Same.new hl3).trans (Same.new hl)), rfl⟩
    rintro σ H4 ⟨x, ox, oy, rfl⟩
    obtain ⟨oX, tX, qX⟩ := ox
    obtain ⟨oY, tY, qY⟩ := oy
    refine ⟨fun σ H5 => ∃ L t1 t2 t3, H5 L = some (.lst [.ref t1, .ref t2, .ref t3]) ∧ H5 t1 = some (.tup [.str "refused", .str "count"]) ∧ H5 t2 = some (.tup [.str "refused", .str "count"]) ∧ H5 t3 = some (.tup [.str "refused", .str "count"]) ∧
      σ = [some (.ref a), some (.int c), some (.int (s0 : Int)), some (.int (r : Int)), some y, some x, some (.ref L), none, none, none], ?_, ?_⟩
    · refine ⟨_, rfl, _, rfl, .int (s0 : Int), y, some _, oY, rfl, .int _, tY, by unfold goodC; rw [qY, Bool.and_false], fun t1 G1 ht1 g1 hT1 => ?_⟩
      refine ⟨_, rfl, _, rfl, x, .int (r : Int), oX, some _, rfl, tX.same g1, .int _, by unfold goodC; rw [qX, Bool.false_and], fun t2 G2 ht2 g2 hT2 => ?_⟩
      refine ⟨_, rfl, _, rfl, x, y, oX, oY, rfl, tX.same (g1.trans g2), tY.same (g1.trans g2), by unfold goodC; rw [qX, Bool.false_and], fun t3 G3 ht3 g3 hT3 => ?_⟩
      refine ⟨by show 3 ≤ sizeLine; decide, fun L hL => ?_⟩
      exact ⟨L, t1, t2, t3, upd_same, (Same.new hL) _ _ (g3 _ _ (g2 _ _ hT1)), (Same.new hL) _ _ (g3 _ _ hT2), (Same.new hL) _ _ hT3, rfl⟩
    rintro σ H5 ⟨L, t1, t2, t3, hL, hT1, hT2, hT3, rfl⟩
    refine ⟨_, rfl, by show 2 ≤ sizeLine; decide, fun t ht => ?_⟩
    refine ⟨by show 1 ≤ sizeLine; decide, fun l hl => ?_⟩
    refine ⟨l, _, _, rfl, rfl, upd_same, by decide, by decide, sz5 (by show 1 * 3 ≤ 100000; decide), fun q hq => ?_⟩
    have s7 := ((Same.new (o := .tup [.str "refused", .str "count"]) ht).trans (Same.new (o := .lst [.ref t]) hl)).trans (Same.new (o := .lst (List.replicate ((3 : Int)).toNat [V.ref t]).flatten) hq)
    have ntl : t ≠ l := ne_of_none upd_same hl
    have ntq : t ≠ q := ne_of_none (o := .tup [.str "refused", .str "count"]) (by rw [upd_ne ntl]; exact upd_same) hq
    have hTt : (upd (upd (upd H5 t (.tup [.str "refused", .str "count"])) l (.lst [.ref t])) q (.lst (List.replicate ((3 : Int)).toNat [V.ref t]).flatten)) t = some (.tup [.str "refused", .str "count"]) := by
      rw [upd_ne ntq, upd_ne ntl]
      exact upd_same
    have sh : Sh 2 (.list [refC, refC, refC]) := .lst fun d hd => by
      simp only [List.mem_cons, List.not_mem_nil, or_false, or_self] at hd
      rw [hd]
      exact refC_sh
    refine ⟨.list [refC, refC, refC], .list [refC, refC, refC], .lst (SqL.of (s7 _ _ hL)) (.cons (refC_dp (s7 _ _ hT1)) (.cons (refC_dp (s7 _ _ hT2)) (.cons (refC_dp (s7 _ _ hT3)) .nil))), .lst (SqL.of upd_same) (.cons (refC_dp hTt) (.cons (refC_dp hTt) (.cons (refC_dp hTt) .nil))), sh.shaped (by decide), sh.shaped (by decide), _, rfl, ?_⟩
    rw [sh.refl]
    refine iteF ?_
    obtain ⟨tW, hrun, hwa, hco, _⟩ := plan_run hs0 h1 h2
    have hpl := plan_len hs0 h1 h2
    refine ⟨_, rfl, _, rfl, .inl ⟨s0, r, rfl, hs0, h1, h2, fun p H6 ps hp s6 hps hP hD => ?_⟩⟩
    have hlp := len_of hps
    refine ⟨fun σ H7 => ∃ t1 t2 : Option V, Same H6 H7 ∧ σ = [some (.ref a), some (.int c), some (.int (s0 : Int)), some (.int (r : Int)), some y, some x, some (.ref L), some (.ref p), none, none], ?_, ?_⟩
    · refine ⟨_, rfl, _, rfl, _, rfl, p, ps, s0, r, tW, rfl, hP, hD, by omega, hs0, h1, h2, by rw [hps]; exact hrun, hwa, hco, fun H7 s7 => ⟨_, rfl, iteF ?_⟩⟩
      exact ⟨none, none, s7, rfl⟩
    rintro σ H7 ⟨_, _, s7, rfl⟩
    have hP7 := s7 _ _ hP
    have hD7 := hD.same s7
    refine ⟨_, rfl, p, _, rfl, .inl (SqL.of hP7), fun l1 hl1 => ?_⟩
    refine ⟨by show 2 ≤ sizeLine; decide, fun t4 ht4 => ?_⟩
    refine ⟨by show 1 ≤ sizeLine; decide, fun l2 hl2 => ?_⟩
    have n14 : l1 ≠ t4 := ne_of_none upd_same ht4
    have n12 : l1 ≠ l2 := ne_of_none (o := .lst (refs ps)) (by rw [upd_ne n14]; exact upd_same) hl2
    have n42 : t4 ≠ l2 := ne_of_none upd_same hl2
    refine ⟨l1, l2, _, _, rfl, rfl, by rw [upd_ne n12, upd_ne n14]; exact upd_same, upd_same, sz5 (by rw [refs_len]; show ps.length + 1 ≤ 100000; omega), fun g hg => ?_⟩
    have n4g : t4 ≠ g := ne_of_none (o := .tup [.str "go", .int 7]) (by rw [upd_ne n42]; exact upd_same) hg
    have w8 := (((Same.new (o := .lst (refs ps)) hl1).trans (Same.new (o := .tup [.str "go", .int 7]) ht4)).trans (Same.new (o := .lst [.ref t4]) hl2)).trans (Same.new (o := .lst (refs ps ++ [.ref t4])) hg)
    have hT4 : (upd (upd (upd (upd H7 l1 (.lst (refs ps))) t4 (.tup [.str "go", .int 7])) l2 (.lst [.ref t4])) g (.lst (refs ps ++ [.ref t4]))) t4 = some (.tup [.str "go", .int 7]) := by
      rw [upd_ne n4g, upd_ne n42]
      exact upd_same
    have hP8 := w8 _ _ hP7
    have npg : p ≠ g := by
      rintro rfl
      exact absurd hg (by rw [((((Same.new (o := .lst (refs ps)) hl1).trans (Same.new (o := .tup [.str "go", .int 7]) ht4)).trans (Same.new (o := .lst [.ref t4]) hl2)) _ _ hP7)]; intro z; cases z)
    refine ⟨_, rfl, .inl ⟨rfl, _, SqL.of hP8⟩, by show 2 ≤ sizeLine; decide, fun t5 ht5 => ?_⟩
    have n5p : p ≠ t5 := ne_of_none hP8 ht5
    refine ⟨p, _, _, rfl, rfl, by rw [upd_ne n5p]; exact hP8, sz5' (by rw [refs_len]; omega), ?_⟩
    have hP0 : ∀ z o, z ≠ p → (upd (upd (upd (upd H7 l1 (.lst (refs ps))) t4 (.tup [.str "go", .int 7])) l2 (.lst [.ref t4])) g (.lst (refs ps ++ [.ref t4]))) z = some o → (upd (upd (upd (upd (upd (upd H7 l1 (.lst (refs ps))) t4 (.tup [.str "go", .int 7])) l2 (.lst [.ref t4])) g (.lst (refs ps ++ [.ref t4]))) t5 (.tup [.str "go", .int 7])) p (.lst (refs ps ++ [.ref t5]))) z = some o := fun z o hz h => by
      rw [upd_ne hz, upd_ne (ne_of_none h ht5)]
      exact h
    refine ⟨_, rfl, _, rfl, .inl ⟨s0, r, rfl, hs0, h1, h2, fun p2 H9 ps2 hp2 s9 hps2 hP2 hD2 => ?_⟩⟩
    have hlp2 := len_of hps2
    refine ⟨_, rfl, _, rfl, _, rfl, p2, ps2, s0, r, tW, rfl, hP2, hD2, by omega, hs0, h1, h2, by rw [hps2]; exact hrun, hwa, hco, fun HA sA => ⟨true, rfl, iteT ?_⟩⟩
    have D9 : ∀ q ∈ ps, HA q.1 = some (.tup q.2.vs) := fun q hq => by
      have e := hD7 q hq
      refine sA _ _ (s9 _ _ (hP0 _ _ ?_ (w8 _ _ e)))
      intro z
      rw [z, hP7] at e
      cases e
    have ntp : t4 ≠ p := by
      intro z
      have w := hP8
      rw [← z, hT4] at w
      cases w
    have e5 : HA t5 = some (.tup [.str "go", .int 7]) := sA _ _ (s9 _ _ (by rw [upd_ne n5p.symm]; exact upd_same))
    have e4 : HA t4 = some (.tup [.str "go", .int 7]) := sA _ _ (s9 _ _ (hP0 _ _ ntp hT4))
    have eg : HA g = some (.lst (refs ps ++ [.ref t4])) := sA _ _ (s9 _ _ (hP0 _ _ npg.symm upd_same))
    have ep : HA p = some (.lst (refs ps ++ [.ref t5])) := sA _ _ (s9 _ _ upd_same)
    have shd := deeds_sh (ps ++ [(t4, Deed.go 7)])
    have shd2 := deeds_sh (ps ++ [(t5, Deed.go 7)])
    have d4 : DpAll K HA (refs (ps ++ [(t4, Deed.go 7)])) ((ps ++ [(t4, Deed.go 7)]).map fun q => q.2.pd) := deeds_dp fun q hq => by
      rcases List.mem_append.mp hq with z | z
      · exact D9 q z
      · rw [List.mem_singleton.mp z]
        exact e4
    have d5 : DpAll K HA (refs (ps ++ [(t5, Deed.go 7)])) ((ps ++ [(t5, Deed.go 7)]).map fun q => q.2.pd) := deeds_dp fun q hq => by
      rcases List.mem_append.mp hq with z | z
      · exact D9 q z
      · rw [List.mem_singleton.mp z]
        exact e5
    rw [refs_append] at d4 d5
    refine ⟨_, rfl, _, rfl, _, _, .lst (SqL.of ep) d5, .lst (SqL.of eg) d4, shd2.shaped (by decide), shd.shaped (by decide), ?_⟩
    have ee : ((ps ++ [(t5, Deed.go 7)]).map fun q => q.2.pd) = ((ps ++ [(t4, Deed.go 7)]).map fun q => q.2.pd) := by
      rw [List.map_append, List.map_append] <;> rfl
    rw [ee, shd.refl]
    exact k _

end
theorem all_mk {l : PySem.W.OpenLaw} {w : World} {K : PySem.W.Frag} {h : Heap} {mg : Str → Option Value} {fa : Addr} (X : K.In h) (G : h.Ns mainGlobals mg) (hfa : mg "law" = some (.ref fa))
    {oc_is_among kV_is_among dc_is_among pm_is_among cd_is_among ct_is_among : Value} {od_is_among an_is_among : Option Addr} {sl_is_among : Array (Option Value)} {f_is_among : Addr}
    {oc_need_counts kV_need_counts dc_need_counts pm_need_counts cd_need_counts ct_need_counts : Value} {od_need_counts an_need_counts : Option Addr} {sl_need_counts : Array (Option Value)} {f_need_counts : Addr}
    {oc_choices kV_choices dc_choices pm_choices cd_choices ct_choices : Value} {od_choices an_choices : Option Addr} {sl_choices : Array (Option Value)} {f_choices : Addr}
    {oc_ways kV_ways dc_ways pm_ways cd_ways ct_ways : Value} {od_ways an_ways : Option Addr} {sl_ways : Array (Option Value)} {f_ways : Addr}
    {oc_often kV_often dc_often pm_often cd_often ct_often : Value} {od_often an_often : Option Addr} {sl_often : Array (Option Value)} {f_often : Addr}
    {oc_cost kV_cost dc_cost pm_cost cd_cost ct_cost : Value} {od_cost an_cost : Option Addr} {sl_cost : Array (Option Value)} {f_cost : Addr}
    {oc_least kV_least dc_least pm_least cd_least ct_least : Value} {od_least an_least : Option Addr} {sl_least : Array (Option Value)} {f_least : Addr}
    {oc_first_mark kV_first_mark dc_first_mark pm_first_mark cd_first_mark ct_first_mark : Value} {od_first_mark an_first_mark : Option Addr} {sl_first_mark : Array (Option Value)} {f_first_mark : Addr}
    {oc_again_and_again kV_again_and_again dc_again_and_again pm_again_and_again cd_again_and_again ct_again_and_again : Value} {od_again_and_again an_again_and_again : Option Addr} {sl_again_and_again : Array (Option Value)} {f_again_and_again : Addr}
    {oc_from_mark kV_from_mark dc_from_mark pm_from_mark cd_from_mark ct_from_mark : Value} {od_from_mark an_from_mark : Option Addr} {sl_from_mark : Array (Option Value)} {f_from_mark : Addr}
    {oc_plan kV_plan dc_plan pm_plan cd_plan ct_plan : Value} {od_plan an_plan : Option Addr} {sl_plan : Array (Option Value)} {f_plan : Addr}
    {oc_cost_of kV_cost_of dc_cost_of pm_cost_of cd_cost_of ct_cost_of : Value} {od_cost_of an_cost_of : Option Addr} {sl_cost_of : Array (Option Value)} {f_cost_of : Addr}
    {oc_most_kept kV_most_kept dc_most_kept pm_most_kept cd_most_kept ct_most_kept : Value} {od_most_kept an_most_kept : Option Addr} {sl_most_kept : Array (Option Value)} {f_most_kept : Addr}
    {oc_l_cell_at kV_l_cell_at dc_l_cell_at pm_l_cell_at cd_l_cell_at ct_l_cell_at : Value} {od_l_cell_at an_l_cell_at : Option Addr} {sl_l_cell_at : Array (Option Value)} {f_l_cell_at : Addr}
    {oc_l_whole kV_l_whole dc_l_whole pm_l_whole cd_l_whole ct_l_whole : Value} {od_l_whole an_l_whole : Option Addr} {sl_l_whole : Array (Option Value)} {f_l_whole : Addr}
    {oc_l_formed kV_l_formed dc_l_formed pm_l_formed cd_l_formed ct_l_formed : Value} {od_l_formed an_l_formed : Option Addr} {sl_l_formed : Array (Option Value)} {f_l_formed : Addr}
    {oc_l_goes kV_l_goes dc_l_goes pm_l_goes cd_l_goes ct_l_goes : Value} {od_l_goes an_l_goes : Option Addr} {sl_l_goes : Array (Option Value)} {f_l_goes : Addr}
    {oc_l_good kV_l_good dc_l_good pm_l_good cd_l_good ct_l_good : Value} {od_l_good an_l_good : Option Addr} {sl_l_good : Array (Option Value)} {f_l_good : Addr}
    {oc_l_class kV_l_class dc_l_class pm_l_class cd_l_class ct_l_class : Value} {od_l_class an_l_class : Option Addr} {sl_l_class : Array (Option Value)} {f_l_class : Addr}
    {oc_l_told kV_l_told dc_l_told pm_l_told cd_l_told ct_l_told : Value} {od_l_told an_l_told : Option Addr} {sl_l_told : Array (Option Value)} {f_l_told : Addr}
    {oc_law kV_law dc_law pm_law cd_law ct_law : Value} {od_law an_law : Option Addr} {sl_law : Array (Option Value)} {f_law : Addr}
    {t_MOST_STEPS : Tok}
    {t_MOST_ROOM : Tok}
    {C_BadCount : Addr}
    {C_BadRule : Addr}
    {C_BadDeed : Addr}
    {C_Full : Addr}
    {C_Twice : Addr}
    {C_NotKept : Addr}
    {C_AtEnd : Addr}
    {C_NotWanted : Addr}
    {C_MarkError : Addr}
    (a_is_among : PySem.W.nsIn K mainGlobals "is_among" = some (some (.ref f_is_among)))
    (l_is_among : K.lookup f_is_among = some ⟨oc_is_among, od_is_among, .func (PySem.W.fnOf "is_among" "is_among" (defArgs s_is_among) (defBody s_is_among) (defScope s_is_among) .none kV_is_among dc_is_among pm_is_among an_is_among cd_is_among ct_is_among), sl_is_among⟩)
    (c_is_among : PySem.W.codeIn K cd_is_among "is_among" = true)
    (k_is_among : PySem.W.keepIn K (.ref f_is_among) = true)
    (a_need_counts : PySem.W.nsIn K mainGlobals "need_counts" = some (some (.ref f_need_counts)))
    (l_need_counts : K.lookup f_need_counts = some ⟨oc_need_counts, od_need_counts, .func (PySem.W.fnOf "need_counts" "need_counts" (defArgs s_need_counts) (defBody s_need_counts) (defScope s_need_counts) .none kV_need_counts dc_need_counts pm_need_counts an_need_counts cd_need_counts ct_need_counts), sl_need_counts⟩)
    (c_need_counts : PySem.W.codeIn K cd_need_counts "need_counts" = true)
    (k_need_counts : PySem.W.keepIn K (.ref f_need_counts) = true)
    (a_choices : PySem.W.nsIn K mainGlobals "choices" = some (some (.ref f_choices)))
    (l_choices : K.lookup f_choices = some ⟨oc_choices, od_choices, .func (PySem.W.fnOf "choices" "choices" (defArgs s_choices) (defBody s_choices) (defScope s_choices) .none kV_choices dc_choices pm_choices an_choices cd_choices ct_choices), sl_choices⟩)
    (c_choices : PySem.W.codeIn K cd_choices "choices" = true)
    (k_choices : PySem.W.keepIn K (.ref f_choices) = true)
    (a_ways : PySem.W.nsIn K mainGlobals "ways" = some (some (.ref f_ways)))
    (l_ways : K.lookup f_ways = some ⟨oc_ways, od_ways, .func (PySem.W.fnOf "ways" "ways" (defArgs s_ways) (defBody s_ways) (defScope s_ways) .none kV_ways dc_ways pm_ways an_ways cd_ways ct_ways), sl_ways⟩)
    (c_ways : PySem.W.codeIn K cd_ways "ways" = true)
    (k_ways : PySem.W.keepIn K (.ref f_ways) = true)
    (a_often : PySem.W.nsIn K mainGlobals "often" = some (some (.ref f_often)))
    (l_often : K.lookup f_often = some ⟨oc_often, od_often, .func (PySem.W.fnOf "often" "often" (defArgs s_often) (defBody s_often) (defScope s_often) .none kV_often dc_often pm_often an_often cd_often ct_often), sl_often⟩)
    (c_often : PySem.W.codeIn K cd_often "often" = true)
    (k_often : PySem.W.keepIn K (.ref f_often) = true)
    (a_cost : PySem.W.nsIn K mainGlobals "cost" = some (some (.ref f_cost)))
    (l_cost : K.lookup f_cost = some ⟨oc_cost, od_cost, .func (PySem.W.fnOf "cost" "cost" (defArgs s_cost) (defBody s_cost) (defScope s_cost) .none kV_cost dc_cost pm_cost an_cost cd_cost ct_cost), sl_cost⟩)
    (c_cost : PySem.W.codeIn K cd_cost "cost" = true)
    (k_cost : PySem.W.keepIn K (.ref f_cost) = true)
    (a_least : PySem.W.nsIn K mainGlobals "least" = some (some (.ref f_least)))
    (l_least : K.lookup f_least = some ⟨oc_least, od_least, .func (PySem.W.fnOf "least" "least" (defArgs s_least) (defBody s_least) (defScope s_least) .none kV_least dc_least pm_least an_least cd_least ct_least), sl_least⟩)
    (c_least : PySem.W.codeIn K cd_least "least" = true)
    (k_least : PySem.W.keepIn K (.ref f_least) = true)
    (a_first_mark : PySem.W.nsIn K mainGlobals "first_mark" = some (some (.ref f_first_mark)))
    (l_first_mark : K.lookup f_first_mark = some ⟨oc_first_mark, od_first_mark, .func (PySem.W.fnOf "first_mark" "first_mark" (defArgs s_first_mark) (defBody s_first_mark) (defScope s_first_mark) .none kV_first_mark dc_first_mark pm_first_mark an_first_mark cd_first_mark ct_first_mark), sl_first_mark⟩)
    (c_first_mark : PySem.W.codeIn K cd_first_mark "first_mark" = true)
    (k_first_mark : PySem.W.keepIn K (.ref f_first_mark) = true)
    (a_again_and_again : PySem.W.nsIn K mainGlobals "again_and_again" = some (some (.ref f_again_and_again)))
    (l_again_and_again : K.lookup f_again_and_again = some ⟨oc_again_and_again, od_again_and_again, .func (PySem.W.fnOf "again_and_again" "again_and_again" (defArgs s_again_and_again) (defBody s_again_and_again) (defScope s_again_and_again) .none kV_again_and_again dc_again_and_again pm_again_and_again an_again_and_again cd_again_and_again ct_again_and_again), sl_again_and_again⟩)
    (c_again_and_again : PySem.W.codeIn K cd_again_and_again "again_and_again" = true)
    (k_again_and_again : PySem.W.keepIn K (.ref f_again_and_again) = true)
    (a_from_mark : PySem.W.nsIn K mainGlobals "from_mark" = some (some (.ref f_from_mark)))
    (l_from_mark : K.lookup f_from_mark = some ⟨oc_from_mark, od_from_mark, .func (PySem.W.fnOf "from_mark" "from_mark" (defArgs s_from_mark) (defBody s_from_mark) (defScope s_from_mark) .none kV_from_mark dc_from_mark pm_from_mark an_from_mark cd_from_mark ct_from_mark), sl_from_mark⟩)
    (c_from_mark : PySem.W.codeIn K cd_from_mark "from_mark" = true)
    (k_from_mark : PySem.W.keepIn K (.ref f_from_mark) = true)
    (a_plan : PySem.W.nsIn K mainGlobals "plan" = some (some (.ref f_plan)))
    (l_plan : K.lookup f_plan = some ⟨oc_plan, od_plan, .func (PySem.W.fnOf "plan" "plan" (defArgs s_plan) (defBody s_plan) (defScope s_plan) .none kV_plan dc_plan pm_plan an_plan cd_plan ct_plan), sl_plan⟩)
    (c_plan : PySem.W.codeIn K cd_plan "plan" = true)
    (k_plan : PySem.W.keepIn K (.ref f_plan) = true)
    (a_cost_of : PySem.W.nsIn K mainGlobals "cost_of" = some (some (.ref f_cost_of)))
    (l_cost_of : K.lookup f_cost_of = some ⟨oc_cost_of, od_cost_of, .func (PySem.W.fnOf "cost_of" "cost_of" (defArgs s_cost_of) (defBody s_cost_of) (defScope s_cost_of) .none kV_cost_of dc_cost_of pm_cost_of an_cost_of cd_cost_of ct_cost_of), sl_cost_of⟩)
    (c_cost_of : PySem.W.codeIn K cd_cost_of "cost_of" = true)
    (k_cost_of : PySem.W.keepIn K (.ref f_cost_of) = true)
    (a_most_kept : PySem.W.nsIn K mainGlobals "most_kept" = some (some (.ref f_most_kept)))
    (l_most_kept : K.lookup f_most_kept = some ⟨oc_most_kept, od_most_kept, .func (PySem.W.fnOf "most_kept" "most_kept" (defArgs s_most_kept) (defBody s_most_kept) (defScope s_most_kept) .none kV_most_kept dc_most_kept pm_most_kept an_most_kept cd_most_kept ct_most_kept), sl_most_kept⟩)
    (c_most_kept : PySem.W.codeIn K cd_most_kept "most_kept" = true)
    (k_most_kept : PySem.W.keepIn K (.ref f_most_kept) = true)
    (a_l_cell_at : PySem.W.nsIn K mainGlobals "_law_cell_at" = some (some (.ref f_l_cell_at)))
    (l_l_cell_at : K.lookup f_l_cell_at = some ⟨oc_l_cell_at, od_l_cell_at, .func (PySem.W.fnOf "_law_cell_at" "_law_cell_at" (defArgs s_l_cell_at) (defBody s_l_cell_at) (defScope s_l_cell_at) .none kV_l_cell_at dc_l_cell_at pm_l_cell_at an_l_cell_at cd_l_cell_at ct_l_cell_at), sl_l_cell_at⟩)
    (c_l_cell_at : PySem.W.codeIn K cd_l_cell_at "_law_cell_at" = true)
    (k_l_cell_at : PySem.W.keepIn K (.ref f_l_cell_at) = true)
    (a_l_whole : PySem.W.nsIn K mainGlobals "_law_whole" = some (some (.ref f_l_whole)))
    (l_l_whole : K.lookup f_l_whole = some ⟨oc_l_whole, od_l_whole, .func (PySem.W.fnOf "_law_whole" "_law_whole" (defArgs s_l_whole) (defBody s_l_whole) (defScope s_l_whole) .none kV_l_whole dc_l_whole pm_l_whole an_l_whole cd_l_whole ct_l_whole), sl_l_whole⟩)
    (c_l_whole : PySem.W.codeIn K cd_l_whole "_law_whole" = true)
    (k_l_whole : PySem.W.keepIn K (.ref f_l_whole) = true)
    (a_l_formed : PySem.W.nsIn K mainGlobals "_law_formed" = some (some (.ref f_l_formed)))
    (l_l_formed : K.lookup f_l_formed = some ⟨oc_l_formed, od_l_formed, .func (PySem.W.fnOf "_law_formed" "_law_formed" (defArgs s_l_formed) (defBody s_l_formed) (defScope s_l_formed) .none kV_l_formed dc_l_formed pm_l_formed an_l_formed cd_l_formed ct_l_formed), sl_l_formed⟩)
    (c_l_formed : PySem.W.codeIn K cd_l_formed "_law_formed" = true)
    (k_l_formed : PySem.W.keepIn K (.ref f_l_formed) = true)
    (a_l_goes : PySem.W.nsIn K mainGlobals "_law_goes" = some (some (.ref f_l_goes)))
    (l_l_goes : K.lookup f_l_goes = some ⟨oc_l_goes, od_l_goes, .func (PySem.W.fnOf "_law_goes" "_law_goes" (defArgs s_l_goes) (defBody s_l_goes) (defScope s_l_goes) .none kV_l_goes dc_l_goes pm_l_goes an_l_goes cd_l_goes ct_l_goes), sl_l_goes⟩)
    (c_l_goes : PySem.W.codeIn K cd_l_goes "_law_goes" = true)
    (k_l_goes : PySem.W.keepIn K (.ref f_l_goes) = true)
    (a_l_good : PySem.W.nsIn K mainGlobals "_law_good" = some (some (.ref f_l_good)))
    (l_l_good : K.lookup f_l_good = some ⟨oc_l_good, od_l_good, .func (PySem.W.fnOf "_law_good" "_law_good" (defArgs s_l_good) (defBody s_l_good) (defScope s_l_good) .none kV_l_good dc_l_good pm_l_good an_l_good cd_l_good ct_l_good), sl_l_good⟩)
    (c_l_good : PySem.W.codeIn K cd_l_good "_law_good" = true)
    (k_l_good : PySem.W.keepIn K (.ref f_l_good) = true)
    (a_l_class : PySem.W.nsIn K mainGlobals "_law_class" = some (some (.ref f_l_class)))
    (l_l_class : K.lookup f_l_class = some ⟨oc_l_class, od_l_class, .func (PySem.W.fnOf "_law_class" "_law_class" (defArgs s_l_class) (defBody s_l_class) (defScope s_l_class) .none kV_l_class dc_l_class pm_l_class an_l_class cd_l_class ct_l_class), sl_l_class⟩)
    (c_l_class : PySem.W.codeIn K cd_l_class "_law_class" = true)
    (k_l_class : PySem.W.keepIn K (.ref f_l_class) = true)
    (a_l_told : PySem.W.nsIn K mainGlobals "_law_told" = some (some (.ref f_l_told)))
    (l_l_told : K.lookup f_l_told = some ⟨oc_l_told, od_l_told, .func (PySem.W.fnOf "_law_told" "_law_told" (defArgs s_l_told) (defBody s_l_told) (defScope s_l_told) .none kV_l_told dc_l_told pm_l_told an_l_told cd_l_told ct_l_told), sl_l_told⟩)
    (c_l_told : PySem.W.codeIn K cd_l_told "_law_told" = true)
    (k_l_told : PySem.W.keepIn K (.ref f_l_told) = true)
    (a_law : PySem.W.nsIn K mainGlobals "law" = some (some (.ref f_law)))
    (l_law : K.lookup f_law = some ⟨oc_law, od_law, .func (PySem.W.fnOf "law" "law" (defArgs s_law) (defBody s_law) (defScope s_law) .none kV_law dc_law pm_law an_law cd_law ct_law), sl_law⟩)
    (c_law : PySem.W.codeIn K cd_law "law" = true)
    (k_law : PySem.W.keepIn K (.ref f_law) = true)
    (v_MOST_STEPS : PySem.W.nsIn K mainGlobals "MOST_STEPS" = some (some (.int 100 t_MOST_STEPS)))
    (v_MOST_ROOM : PySem.W.nsIn K mainGlobals "MOST_ROOM" = some (some (.int 12 t_MOST_ROOM)))
    (z_isinstance : PySem.W.nsIn K mainGlobals "isinstance" = some none)
    (z_bool : PySem.W.nsIn K mainGlobals "bool" = some none)
    (z_int : PySem.W.nsIn K mainGlobals "int" = some none)
    (z_range : PySem.W.nsIn K mainGlobals "range" = some none)
    (z_min : PySem.W.nsIn K mainGlobals "min" = some none)
    (z_sum : PySem.W.nsIn K mainGlobals "sum" = some none)
    (z_max : PySem.W.nsIn K mainGlobals "max" = some none)
    (z_len : PySem.W.nsIn K mainGlobals "len" = some none)
    (z_str : PySem.W.nsIn K mainGlobals "str" = some none)
    (z_tuple : PySem.W.nsIn K mainGlobals "tuple" = some none)
    (z_list : PySem.W.nsIn K mainGlobals "list" = some none)
    (z_all : PySem.W.nsIn K mainGlobals "all" = some none)
    (z_ValueError : PySem.W.nsIn K mainGlobals "ValueError" = some none)
    (gBadCount : PySem.W.nsIn K mainGlobals "BadCount" = some (some (.ref C_BadCount)))
    (xBadCount : PySem.W.excIn K C_BadCount [.type "ValueError", .type "Exception", .type "BaseException", .type "object"] "ValueError.__new__" = true)
    (kBadCount : PySem.W.keepIn K (.ref C_BadCount) = true) (bBadCount : PySem.W.subIn K (.ref C_BadCount) (.type "BaseException") = some true) (tBadCount : PySem.W.typeIn K (.ref C_BadCount) = some (.type "type"))
    (gBadRule : PySem.W.nsIn K mainGlobals "BadRule" = some (some (.ref C_BadRule)))
    (xBadRule : PySem.W.excIn K C_BadRule [.type "ValueError", .type "Exception", .type "BaseException", .type "object"] "ValueError.__new__" = true)
    (kBadRule : PySem.W.keepIn K (.ref C_BadRule) = true) (bBadRule : PySem.W.subIn K (.ref C_BadRule) (.type "BaseException") = some true) (tBadRule : PySem.W.typeIn K (.ref C_BadRule) = some (.type "type"))
    (gBadDeed : PySem.W.nsIn K mainGlobals "BadDeed" = some (some (.ref C_BadDeed)))
    (xBadDeed : PySem.W.excIn K C_BadDeed [.type "ValueError", .type "Exception", .type "BaseException", .type "object"] "ValueError.__new__" = true)
    (kBadDeed : PySem.W.keepIn K (.ref C_BadDeed) = true) (bBadDeed : PySem.W.subIn K (.ref C_BadDeed) (.type "BaseException") = some true) (tBadDeed : PySem.W.typeIn K (.ref C_BadDeed) = some (.type "type"))
    (gFull : PySem.W.nsIn K mainGlobals "Full" = some (some (.ref C_Full)))
    (xFull : PySem.W.excIn K C_Full [.type "ValueError", .type "Exception", .type "BaseException", .type "object"] "ValueError.__new__" = true)
    (kFull : PySem.W.keepIn K (.ref C_Full) = true) (bFull : PySem.W.subIn K (.ref C_Full) (.type "BaseException") = some true) (tFull : PySem.W.typeIn K (.ref C_Full) = some (.type "type"))
    (gTwice : PySem.W.nsIn K mainGlobals "Twice" = some (some (.ref C_Twice)))
    (xTwice : PySem.W.excIn K C_Twice [.type "ValueError", .type "Exception", .type "BaseException", .type "object"] "ValueError.__new__" = true)
    (kTwice : PySem.W.keepIn K (.ref C_Twice) = true) (bTwice : PySem.W.subIn K (.ref C_Twice) (.type "BaseException") = some true) (tTwice : PySem.W.typeIn K (.ref C_Twice) = some (.type "type"))
    (gNotKept : PySem.W.nsIn K mainGlobals "NotKept" = some (some (.ref C_NotKept)))
    (xNotKept : PySem.W.excIn K C_NotKept [.type "ValueError", .type "Exception", .type "BaseException", .type "object"] "ValueError.__new__" = true)
    (kNotKept : PySem.W.keepIn K (.ref C_NotKept) = true) (bNotKept : PySem.W.subIn K (.ref C_NotKept) (.type "BaseException") = some true) (tNotKept : PySem.W.typeIn K (.ref C_NotKept) = some (.type "type"))
    (gAtEnd : PySem.W.nsIn K mainGlobals "AtEnd" = some (some (.ref C_AtEnd)))
    (xAtEnd : PySem.W.excIn K C_AtEnd [.type "ValueError", .type "Exception", .type "BaseException", .type "object"] "ValueError.__new__" = true)
    (kAtEnd : PySem.W.keepIn K (.ref C_AtEnd) = true) (bAtEnd : PySem.W.subIn K (.ref C_AtEnd) (.type "BaseException") = some true) (tAtEnd : PySem.W.typeIn K (.ref C_AtEnd) = some (.type "type"))
    (gNotWanted : PySem.W.nsIn K mainGlobals "NotWanted" = some (some (.ref C_NotWanted)))
    (xNotWanted : PySem.W.excIn K C_NotWanted [.type "ValueError", .type "Exception", .type "BaseException", .type "object"] "ValueError.__new__" = true)
    (kNotWanted : PySem.W.keepIn K (.ref C_NotWanted) = true) (bNotWanted : PySem.W.subIn K (.ref C_NotWanted) (.type "BaseException") = some true) (tNotWanted : PySem.W.typeIn K (.ref C_NotWanted) = some (.type "type"))
    (gMarkError : PySem.W.nsIn K mainGlobals "MarkError" = some (some (.ref C_MarkError)))
    (xMarkError : PySem.W.excIn K C_MarkError [.type "ValueError", .type "Exception", .type "BaseException", .type "object"] "ValueError.__new__" = true)
    (kMarkError : PySem.W.keepIn K (.ref C_MarkError) = true) (bMarkError : PySem.W.subIn K (.ref C_MarkError) (.type "BaseException") = some true) (tMarkError : PySem.W.typeIn K (.ref C_MarkError) = some (.type "type"))
    (hdM : PySem.W.hasDictIn K C_MarkError = true)
    (tkX : PySem.W.takesIn K (.builtin "object.__class__") = some true)
    (spX : PySem.W.specialIn K (.builtin "object.__class__") "__get__" = some (some (.builtin "getset_descriptor.__get__")))
    (sMBadCount : PySem.W.subIn K (.ref C_BadCount) (.ref C_MarkError) = some true)
    (qBadCountBadCount : PySem.W.kitOne K (.ref C_BadCount) (.ref C_BadCount) = some true)
    (qBadCountBadRule : PySem.W.kitOne K (.ref C_BadCount) (.ref C_BadRule) = some false)
    (qBadCountBadDeed : PySem.W.kitOne K (.ref C_BadCount) (.ref C_BadDeed) = some false)
    (qBadCountFull : PySem.W.kitOne K (.ref C_BadCount) (.ref C_Full) = some false)
    (qBadCountTwice : PySem.W.kitOne K (.ref C_BadCount) (.ref C_Twice) = some false)
    (qBadCountNotKept : PySem.W.kitOne K (.ref C_BadCount) (.ref C_NotKept) = some false)
    (qBadCountAtEnd : PySem.W.kitOne K (.ref C_BadCount) (.ref C_AtEnd) = some false)
    (qBadCountNotWanted : PySem.W.kitOne K (.ref C_BadCount) (.ref C_NotWanted) = some false)
    (qvBadCount : PySem.W.kitOne K (.ref C_BadCount) (.type "ValueError") = some true)
    (hgBadCount : PySem.W.findIn K (.ref C_BadCount) "__getattribute__" = some (some (.builtin "BaseException.__getattribute__")))
    (hkBadCount : PySem.W.findIn K (.ref C_BadCount) "__getattr__" = some none)
    (hdBadCount : PySem.W.hasDictIn K C_BadCount = true)
    (haBadCount : PySem.W.findIn K (.ref C_BadCount) "__class__" = some (some (.builtin "object.__class__")))
    (hmBadCount : PySem.W.mroIn K C_BadCount (.type "object") = some true) :
    ∃ fd : FuncData, (∀ (s : Shared) (v : Value), BindsTo s fd ⟨[v], []⟩ [("_law_script", v)]) ∧ ∀ base : Heap, K.In base → base.Ns mainGlobals mg → FnOk l.prog w K mg base (L2.CX l.prog w) 108 fa fd ["_law_script"] (sp_law K) := by
  have e := hfa.symm.trans (PySem.W.mg_of X G a_law)
  cases e
  have T : Txt K mg := {
    d_is_among := ⟨_, _, PySem.W.mg_of X G a_is_among, fun_mk (st := s_is_among) l_is_among c_is_among k_is_among, (fun_mk (st := s_is_among) l_is_among c_is_among k_is_among).binds (ps := ["thing", "low", "high"]) fun _ _ _ _ _ _ us hl => match us, hl with | [_, _, _], _ => rfl⟩,
    d_need_counts := ⟨_, _, PySem.W.mg_of X G a_need_counts, fun_mk (st := s_need_counts) l_need_counts c_need_counts k_need_counts, (fun_mk (st := s_need_counts) l_need_counts c_need_counts k_need_counts).binds (ps := ["steps", "room"]) fun _ _ _ _ _ _ us hl => match us, hl with | [_, _], _ => rfl⟩,
    d_choices := ⟨_, _, PySem.W.mg_of X G a_choices, fun_mk (st := s_choices) l_choices c_choices k_choices, (fun_mk (st := s_choices) l_choices c_choices k_choices).binds (ps := ["many", "chosen"]) fun _ _ _ _ _ _ us hl => match us, hl with | [_, _], _ => rfl⟩,
    d_ways := ⟨_, _, PySem.W.mg_of X G a_ways, fun_mk (st := s_ways) l_ways c_ways k_ways, (fun_mk (st := s_ways) l_ways c_ways k_ways).binds (ps := ["room", "times"]) fun _ _ _ _ _ _ us hl => match us, hl with | [_, _], _ => rfl⟩,
    d_often := ⟨_, _, PySem.W.mg_of X G a_often, fun_mk (st := s_often) l_often c_often k_often, (fun_mk (st := s_often) l_often c_often k_often).binds (ps := ["steps", "room"]) fun _ _ _ _ _ _ us hl => match us, hl with | [_, _], _ => rfl⟩,
    d_cost := ⟨_, _, PySem.W.mg_of X G a_cost, fun_mk (st := s_cost) l_cost c_cost k_cost, (fun_mk (st := s_cost) l_cost c_cost k_cost).binds (ps := ["steps", "room"]) fun _ _ _ _ _ _ us hl => match us, hl with | [_, _], _ => rfl⟩,
    d_least := ⟨_, _, PySem.W.mg_of X G a_least, fun_mk (st := s_least) l_least c_least k_least, (fun_mk (st := s_least) l_least c_least k_least).binds (ps := ["steps", "room"]) fun _ _ _ _ _ _ us hl => match us, hl with | [_, _], _ => rfl⟩,
    d_first_mark := ⟨_, _, PySem.W.mg_of X G a_first_mark, fun_mk (st := s_first_mark) l_first_mark c_first_mark k_first_mark, (fun_mk (st := s_first_mark) l_first_mark c_first_mark k_first_mark).binds (ps := ["steps", "room"]) fun _ _ _ _ _ _ us hl => match us, hl with | [_, _], _ => rfl⟩,
    d_again_and_again := ⟨_, _, PySem.W.mg_of X G a_again_and_again, fun_mk (st := s_again_and_again) l_again_and_again c_again_and_again k_again_and_again, (fun_mk (st := s_again_and_again) l_again_and_again c_again_and_again k_again_and_again).binds (ps := ["start", "steps"]) fun _ _ _ _ _ _ us hl => match us, hl with | [_, _], _ => rfl⟩,
    d_from_mark := ⟨_, _, PySem.W.mg_of X G a_from_mark, fun_mk (st := s_from_mark) l_from_mark c_from_mark k_from_mark, (fun_mk (st := s_from_mark) l_from_mark c_from_mark k_from_mark).binds (ps := ["start", "steps", "room"]) fun _ _ _ _ _ _ us hl => match us, hl with | [_, _, _], _ => rfl⟩,
    d_plan := ⟨_, _, PySem.W.mg_of X G a_plan, fun_mk (st := s_plan) l_plan c_plan k_plan, (fun_mk (st := s_plan) l_plan c_plan k_plan).binds (ps := ["steps", "room"]) fun _ _ _ _ _ _ us hl => match us, hl with | [_, _], _ => rfl⟩,
    d_cost_of := ⟨_, _, PySem.W.mg_of X G a_cost_of, fun_mk (st := s_cost_of) l_cost_of c_cost_of k_cost_of, (fun_mk (st := s_cost_of) l_cost_of c_cost_of k_cost_of).binds (ps := ["deeds"]) fun _ _ _ _ _ _ us hl => match us, hl with | [_], _ => rfl⟩,
    d_most_kept := ⟨_, _, PySem.W.mg_of X G a_most_kept, fun_mk (st := s_most_kept) l_most_kept c_most_kept k_most_kept, (fun_mk (st := s_most_kept) l_most_kept c_most_kept k_most_kept).binds (ps := ["deeds"]) fun _ _ _ _ _ _ us hl => match us, hl with | [_], _ => rfl⟩,
    d_l_cell_at := ⟨_, _, PySem.W.mg_of X G a_l_cell_at, fun_mk (st := s_l_cell_at) l_l_cell_at c_l_cell_at k_l_cell_at, (fun_mk (st := s_l_cell_at) l_l_cell_at c_l_cell_at k_l_cell_at).binds (ps := ["_law_script", "_law_k"]) fun _ _ _ _ _ _ us hl => match us, hl with | [_, _], _ => rfl⟩,
    d_l_whole := ⟨_, _, PySem.W.mg_of X G a_l_whole, fun_mk (st := s_l_whole) l_l_whole c_l_whole k_l_whole, (fun_mk (st := s_l_whole) l_l_whole c_l_whole k_l_whole).binds (ps := ["_law_found"]) fun _ _ _ _ _ _ us hl => match us, hl with | [_], _ => rfl⟩,
    d_l_formed := ⟨_, _, PySem.W.mg_of X G a_l_formed, fun_mk (st := s_l_formed) l_l_formed c_l_formed k_l_formed, (fun_mk (st := s_l_formed) l_l_formed c_l_formed k_l_formed).binds (ps := ["_law_deed"]) fun _ _ _ _ _ _ us hl => match us, hl with | [_], _ => rfl⟩,
    d_l_goes := ⟨_, _, PySem.W.mg_of X G a_l_goes, fun_mk (st := s_l_goes) l_l_goes c_l_goes k_l_goes, (fun_mk (st := s_l_goes) l_l_goes c_l_goes k_l_goes).binds (ps := ["_law_m", "_law_deed", "_law_steps", "_law_room"]) fun _ _ _ _ _ _ us hl => match us, hl with | [_, _, _, _], _ => rfl⟩,
    d_l_good := ⟨_, _, PySem.W.mg_of X G a_l_good, fun_mk (st := s_l_good) l_l_good c_l_good k_l_good, (fun_mk (st := s_l_good) l_l_good c_l_good k_l_good).binds (ps := ["_law_deeds", "_law_steps", "_law_room"]) fun _ _ _ _ _ _ us hl => match us, hl with | [_, _, _], _ => rfl⟩,
    d_l_class := ⟨_, _, PySem.W.mg_of X G a_l_class, fun_mk (st := s_l_class) l_l_class c_l_class k_l_class, (fun_mk (st := s_l_class) l_l_class c_l_class k_l_class).binds (ps := ["_law_e"]) fun _ _ _ _ _ _ us hl => match us, hl with | [_], _ => rfl⟩,
    d_l_told := ⟨_, _, PySem.W.mg_of X G a_l_told, fun_mk (st := s_l_told) l_l_told c_l_told k_l_told, (fun_mk (st := s_l_told) l_l_told c_l_told k_l_told).binds (ps := ["_law_steps", "_law_room"]) fun _ _ _ _ _ _ us hl => match us, hl with | [_, _], _ => rfl⟩,
    d_law := ⟨_, _, PySem.W.mg_of X G a_law, fun_mk (st := s_law) l_law c_law k_law, (fun_mk (st := s_law) l_law c_law k_law).binds (ps := ["_law_script"]) fun _ _ _ _ _ _ us hl => match us, hl with | [_], _ => rfl⟩,
    c_MOST_STEPS := ⟨_, PySem.W.mg_of X G v_MOST_STEPS⟩,
    c_MOST_ROOM := ⟨_, PySem.W.mg_of X G v_MOST_ROOM⟩,
    n_isinstance := PySem.W.mg_none_of X G z_isinstance,
    n_bool := PySem.W.mg_none_of X G z_bool,
    n_int := PySem.W.mg_none_of X G z_int,
    n_range := PySem.W.mg_none_of X G z_range,
    n_min := PySem.W.mg_none_of X G z_min,
    n_sum := PySem.W.mg_none_of X G z_sum,
    n_max := PySem.W.mg_none_of X G z_max,
    n_len := PySem.W.mg_none_of X G z_len,
    n_str := PySem.W.mg_none_of X G z_str,
    n_tuple := PySem.W.mg_none_of X G z_tuple,
    n_list := PySem.W.mg_none_of X G z_list,
    n_all := PySem.W.mg_none_of X G z_all,
    n_ValueError := PySem.W.mg_none_of X G z_ValueError,
    aBadCount := C_BadCount,
    x_BadCount := ⟨PySem.W.mg_of X G gBadCount, xBadCount, kBadCount, bBadCount, tBadCount⟩,
    aBadRule := C_BadRule,
    x_BadRule := ⟨PySem.W.mg_of X G gBadRule, xBadRule, kBadRule, bBadRule, tBadRule⟩,
    aBadDeed := C_BadDeed,
    x_BadDeed := ⟨PySem.W.mg_of X G gBadDeed, xBadDeed, kBadDeed, bBadDeed, tBadDeed⟩,
    aFull := C_Full,
    x_Full := ⟨PySem.W.mg_of X G gFull, xFull, kFull, bFull, tFull⟩,
    aTwice := C_Twice,
    x_Twice := ⟨PySem.W.mg_of X G gTwice, xTwice, kTwice, bTwice, tTwice⟩,
    aNotKept := C_NotKept,
    x_NotKept := ⟨PySem.W.mg_of X G gNotKept, xNotKept, kNotKept, bNotKept, tNotKept⟩,
    aAtEnd := C_AtEnd,
    x_AtEnd := ⟨PySem.W.mg_of X G gAtEnd, xAtEnd, kAtEnd, bAtEnd, tAtEnd⟩,
    aNotWanted := C_NotWanted,
    x_NotWanted := ⟨PySem.W.mg_of X G gNotWanted, xNotWanted, kNotWanted, bNotWanted, tNotWanted⟩,
    aMarkError := C_MarkError,
    x_MarkError := ⟨PySem.W.mg_of X G gMarkError, xMarkError, kMarkError, bMarkError, tMarkError⟩,
    q_BadCount := ⟨by decide, fun j hj => eight (P := fun j => PySem.W.kitOne K (.ref C_BadCount) (.ref ([C_BadCount, C_BadRule, C_BadDeed, C_Full, C_Twice, C_NotKept, C_AtEnd, C_NotWanted].getD j 0)) = some (decide (j = 0))) hj qBadCountBadCount qBadCountBadRule qBadCountBadDeed qBadCountFull qBadCountTwice qBadCountNotKept qBadCountAtEnd qBadCountNotWanted, qvBadCount, ⟨hgBadCount, hkBadCount, bBadCount, hdBadCount, haBadCount, spX, tkX, hmBadCount⟩⟩,
    e_BadCount := PySem.W.exm_ref bMarkError hdM tMarkError sMBadCount }
  refine ⟨PySem.W.fnOf "law" "law" (defArgs s_law) (defBody s_law) (defScope s_law) .none kV_law dc_law pm_law an_law cd_law ct_law, fun s v => .of_eq rfl, fun base _ _ => ?_⟩
  exact ok_law_at T (fun_mk (st := s_law) l_law c_law k_law)
theorem walk {l : PySem.W.OpenLaw} {q : Program} {loose : List Str} {XP : (Str → Option Value) → Heap → Prop} {YP : World → Heap → Prop} {d : DefRec} {K : Params → PySem.W.Frag} (hn : l.most = some 63) (hdf : d.params.defaults = [])
    (hY : ∀ (w : World) (h : Heap), YP w h → (K w.params).In h)
    (F : ∀ (w : World) (mg : Str → Option Value) (fa : Addr) (h : Heap), (K w.params).In h → h.Ns mainGlobals mg → mg d.name = some (.ref fa) →
      ∃ fd : FuncData, (∀ (s : Shared) (u : Value), BindsTo s fd ⟨[u], []⟩ [("_law_script", u)]) ∧ ∀ base : Heap, (K w.params).In base → base.Ns mainGlobals mg → FnOk l.prog w (K w.params) mg base (L2.CX l.prog w) 108 fa fd ["_law_script"] (sp_law (K w.params))) :
    PySem.W.WalkO q loose XP YP l.row.toRowW d [] (fun f vs => PySem.call f vs) :=
  L2.walk_of (n := 63) (k := 108) (x := "_law_script") (CX := fun w => L2.CX l.prog w) (sp := fun w => sp_law (K w.params)) hn (by decide) hdf ⟨rfl, by decide, by decide⟩ hY F (fun _ _ _ _ hl _ hS => law_true hS hl) fun _ _ _ _ _ z => cx0_no z
end BM
open PySem PySem.W PyProof.Rows
set_option maxRecDepth 100000 in
set_option maxHeartbeats 0 in
theorem PySem.Challenge.cw_backmarks_k07_whole_plans_walked_holds : PySem.Challenge.rw_backmarks_k07_whole_plans_walked.Holds := by
  w_on; o_law; k_head; (case hw => w_witness2)
  k_fill
  refine BM.walk (l := PySem.Challenge.rw_backmarks_k07_whole_plans_walked) rfl rfl (fun w h Y => PySem.W.kIn_of Y) ?F
  case F =>
    intro w mg fa h KX G hmg
    refine' BM.all_mk (l := PySem.Challenge.rw_backmarks_k07_whole_plans_walked) KX G hmg ?a_is_among ?l_is_among ?c_is_among ?k_is_among ?a_need_counts ?l_need_counts ?c_need_counts ?k_need_counts ?a_choices ?l_choices ?c_choices ?k_choices ?a_ways ?l_ways ?c_ways ?k_ways ?a_often ?l_often ?c_often ?k_often ?a_cost ?l_cost ?c_cost ?k_cost ?a_least ?l_least ?c_least ?k_least ?a_first_mark ?l_first_mark ?c_first_mark ?k_first_mark ?a_again_and_again ?l_again_and_again ?c_again_and_again ?k_again_and_again ?a_from_mark ?l_from_mark ?c_from_mark ?k_from_mark ?a_plan ?l_plan ?c_plan ?k_plan ?a_cost_of ?l_cost_of ?c_cost_of ?k_cost_of ?a_most_kept ?l_most_kept ?c_most_kept ?k_most_kept ?a_l_cell_at ?l_l_cell_at ?c_l_cell_at ?k_l_cell_at ?a_l_whole ?l_l_whole ?c_l_whole ?k_l_whole ?a_l_formed ?l_l_formed ?c_l_formed ?k_l_formed ?a_l_goes ?l_l_goes ?c_l_goes ?k_l_goes ?a_l_good ?l_l_good ?c_l_good ?k_l_good ?a_l_class ?l_l_class ?c_l_class ?k_l_class ?a_l_told ?l_l_told ?c_l_told ?k_l_told ?a_law ?l_law ?c_law ?k_law ?v_MOST_STEPS ?v_MOST_ROOM ?z_isinstance ?z_bool ?z_int ?z_range ?z_min ?z_sum ?z_max ?z_len ?z_str ?z_tuple ?z_list ?z_all ?z_ValueError ?gBadCount ?xBadCount ?kBadCount ?bBadCount ?tBadCount ?gBadRule ?xBadRule ?kBadRule ?bBadRule ?tBadRule ?gBadDeed ?xBadDeed ?kBadDeed ?bBadDeed ?tBadDeed ?gFull ?xFull ?kFull ?bFull ?tFull ?gTwice ?xTwice ?kTwice ?bTwice ?tTwice ?gNotKept ?xNotKept ?kNotKept ?bNotKept ?tNotKept ?gAtEnd ?xAtEnd ?kAtEnd ?bAtEnd ?tAtEnd ?gNotWanted ?xNotWanted ?kNotWanted ?bNotWanted ?tNotWanted ?gMarkError ?xMarkError ?kMarkError ?bMarkError ?tMarkError ?hdM ?tkX ?spX ?sMBadCount ?qBadCountBadCount ?qBadCountBadRule ?qBadCountBadDeed ?qBadCountFull ?qBadCountTwice ?qBadCountNotKept ?qBadCountAtEnd ?qBadCountNotWanted ?qvBadCount ?hgBadCount ?hkBadCount ?hdBadCount ?haBadCount ?hmBadCount
    (case a_is_among => k_is)
    (case l_is_among => k_is)
    (case c_is_among => k_is)
    (case k_is_among => k_is)
    (case a_need_counts => k_is)
    (case l_need_counts => k_is)
    (case c_need_counts => k_is)
    (case k_need_counts => k_is)
    (case a_choices => k_is)
    (case l_choices => k_is)
    (case c_choices => k_is)
    (case k_choices => k_is)
    (case a_ways => k_is)
    (case l_ways => k_is)
    (case c_ways => k_is)
    (case k_ways => k_is)
    (case a_often => k_is)
    (case l_often => k_is)
    (case c_often => k_is)
    (case k_often => k_is)
    (case a_cost => k_is)
    (case l_cost => k_is)
    (case c_cost => k_is)
    (case k_cost => k_is)
    (case a_least => k_is)
    (case l_least => k_is)
    (case c_least => k_is)
    (case k_least => k_is)
    (case a_first_mark => k_is)
    (case l_first_mark => k_is)
    (case c_first_mark => k_is)
    (case k_first_mark => k_is)
    (case a_again_and_again => k_is)
    (case l_again_and_again => k_is)
    (case c_again_and_again => k_is)
    (case k_again_and_again => k_is)
    (case a_from_mark => k_is)
    (case l_from_mark => k_is)
    (case c_from_mark => k_is)
    (case k_from_mark => k_is)
    (case a_plan => k_is)
    (case l_plan => k_is)
    (case c_plan => k_is)
    (case k_plan => k_is)
    (case a_cost_of => k_is)
    (case l_cost_of => k_is)
    (case c_cost_of => k_is)
    (case k_cost_of => k_is)
    (case a_most_kept => k_is)
    (case l_most_kept => k_is)
    (case c_most_kept => k_is)
    (case k_most_kept => k_is)
    (case a_l_cell_at => k_is)
    (case l_l_cell_at => k_is)
    (case c_l_cell_at => k_is)
    (case k_l_cell_at => k_is)
    (case a_l_whole => k_is)
    (case l_l_whole => k_is)
    (case c_l_whole => k_is)
    (case k_l_whole => k_is)
    (case a_l_formed => k_is)
    (case l_l_formed => k_is)
    (case c_l_formed => k_is)
    (case k_l_formed => k_is)
    (case a_l_goes => k_is)
    (case l_l_goes => k_is)
    (case c_l_goes => k_is)
    (case k_l_goes => k_is)
    (case a_l_good => k_is)
    (case l_l_good => k_is)
    (case c_l_good => k_is)
    (case k_l_good => k_is)
    (case a_l_class => k_is)
    (case l_l_class => k_is)
    (case c_l_class => k_is)
    (case k_l_class => k_is)
    (case a_l_told => k_is)
    (case l_l_told => k_is)
    (case c_l_told => k_is)
    (case k_l_told => k_is)
    (case a_law => k_is)
    (case l_law => k_is)
    (case c_law => k_is)
    (case k_law => k_is)
    (case v_MOST_STEPS => k_is)
    (case v_MOST_ROOM => k_is)
    (case z_isinstance => k_is)
    (case z_bool => k_is)
    (case z_int => k_is)
    (case z_range => k_is)
    (case z_min => k_is)
    (case z_sum => k_is)
    (case z_max => k_is)
    (case z_len => k_is)
    (case z_str => k_is)
    (case z_tuple => k_is)
    (case z_list => k_is)
    (case z_all => k_is)
    (case z_ValueError => k_is)
    (case gBadCount => k_is)
    (case xBadCount => k_exc)
    (case kBadCount => k_is)
    (case bBadCount => k_is)
    (case tBadCount => k_is)
    (case gBadRule => k_is)
    (case xBadRule => k_exc)
    (case kBadRule => k_is)
    (case bBadRule => k_is)
    (case tBadRule => k_is)
    (case gBadDeed => k_is)
    (case xBadDeed => k_exc)
    (case kBadDeed => k_is)
    (case bBadDeed => k_is)
    (case tBadDeed => k_is)
    (case gFull => k_is)
    (case xFull => k_exc)
    (case kFull => k_is)
    (case bFull => k_is)
    (case tFull => k_is)
    (case gTwice => k_is)
    (case xTwice => k_exc)
    (case kTwice => k_is)
    (case bTwice => k_is)
    (case tTwice => k_is)
    (case gNotKept => k_is)
    (case xNotKept => k_exc)
    (case kNotKept => k_is)
    (case bNotKept => k_is)
    (case tNotKept => k_is)
    (case gAtEnd => k_is)
    (case xAtEnd => k_exc)
    (case kAtEnd => k_is)
    (case bAtEnd => k_is)
    (case tAtEnd => k_is)
    (case gNotWanted => k_is)
    (case xNotWanted => k_exc)
    (case kNotWanted => k_is)
    (case bNotWanted => k_is)
    (case tNotWanted => k_is)
    (case gMarkError => k_is)
    (case xMarkError => k_exc)
    (case kMarkError => k_is)
    (case bMarkError => k_is)
    (case tMarkError => k_is)
    (case hdM => k_is)
    (case tkX => k_is)
    (case spX => k_is)
    (case sMBadCount => k_is)
    (case qBadCountBadCount => kit_is)
    (case qBadCountBadRule => kit_is)
    (case qBadCountBadDeed => kit_is)
    (case qBadCountFull => kit_is)
    (case qBadCountTwice => kit_is)
    (case qBadCountNotKept => kit_is)
    (case qBadCountAtEnd => kit_is)
    (case qBadCountNotWanted => kit_is)
    (case qvBadCount => kit_is)
    (case hgBadCount => k_is)
    (case hkBadCount => k_is)
    (case hdBadCount => k_is)
    (case haBadCount => k_is)
    (case hmBadCount => k_is)
#print axioms PySem.Challenge.cw_backmarks_k07_whole_plans_walked_holds
