import PyProof.Rows.All
import Wide.All
import OpenK.AllK
import Wide.FinOn
import PyProof.EqAt
import PyProof.EqKinds
import PyProof.TupleCall
import HandS.ForMost
import HandS.Exc
import HandS.TryOnly
import HandS.ExcOwn
import HandS.WordsExc
import HandS.IsInst
import HandS.ExcIs
import HandS.Evl
import HandS.HotCalls
import HandS.Deep
import HandS.Style
import HandS.Rev
import KE.RegKIsAll
import HandS.More
import PySem.Challenge.RW_backmarks_k06_walkers_refused
set_option Elab.async false
set_option linter.all false
set_option maxRecDepth 100000
set_option maxHeartbeats 4000000
/-! ## Common words: a def as it stands, what it promises, an error class, things that are whole numbers or not -/
namespace BM
open PySem PySem.Spec PyProof.Rows L2

/-- the def named x of the module's top -/
def Def (K : PySem.W.Frag) (mg : Str → Option Value) (x qual : Str) (st : Stmt) (ps : List Str) : Prop :=
  ∃ (f : Addr) (fd : FuncData), mg x = some (.ref f) ∧ Fun K x qual st f fd ∧ Binds K fd ps []
/-- it keeps its promise -/
def OkF (P : Program) (w : World) (K : PySem.W.Frag) (mg : Str → Option Value) (base : Heap) (x : Str) (k : Nat) (ps : List Str) (sp : Sp) : Prop :=
  ∃ (f : Addr) (fd : FuncData), mg x = some (.ref f) ∧ PySem.W.keepIn K (.ref f) = true ∧ Binds K fd ps [] ∧ FnOk P w K mg base (L2.CX P w) k f fd ps sp
/-- a class of the program's own errors, without a body of its own -/
structure XC (K : PySem.W.Frag) (mg : Str → Option Value) (n : Str) (C : Addr) : Prop where
  g : mg n = some (.ref C)
  x : PySem.W.excIn K C [.type "ValueError", .type "Exception", .type "BaseException", .type "object"] "ValueError.__new__" = true
  k : PySem.W.keepIn K (.ref C) = true
  b : PySem.W.subIn K (.ref C) (.type "BaseException") = some true
  t : PySem.W.typeIn K (.ref C) = some (.type "type")
section
variable {P : Program} {w : World} {K : PySem.W.Frag} {mg : Str → Option Value} {base : Heap}
theorem okf {x qual : Str} {st : Stmt} {N ps : List Str} {k : Nat} {sp : Sp} (D : Def K mg x qual st ps) (S : FnScope N ps (defScope st)) (len : ∀ vs H Q E, sp vs H Q E → vs.length = ps.length)
    (hbody : ∀ (f : Addr) (cdv : Value) (A : Around) (outer : List Env) (s : Shared) (H : Hp) (vs : List V) (Q : VK) (E : XK), Room k (A.deeper (envOfC qual (defScope st) s.heap.objs.size f cdv)) → sp vs H Q E →
      ∃ t, PSs (cxOf (L2.CX P w) P w K mg base N qual (defScope st) f cdv A outer s H E) (defBody st) t ∧ t { nx := fun _ H' => Q .non H', rt := Q } (start N vs) H) : OkF P w K mg base x (k + 1) ps sp := by
  obtain ⟨f, fd, hm, F, hb⟩ := D
  exact ⟨f, fd, hm, F.kp, hb, F.okX S len (fun cdv A outer s H vs Q E hr h => hbody f cdv A outer s H vs Q E hr h)⟩
theorem OkF.mono {x : Str} {j k : Nat} {ps : List Str} {sp : Sp} (F : OkF P w K mg base x j ps sp) (h : j ≤ k) : OkF P w K mg base x k ps sp := by
  obtain ⟨f, fd, hm, hk, hb, G⟩ := F
  exact ⟨f, fd, hm, hk, hb, G.mono h⟩
end
/-- a method, an __init__ of the class at C -/
def DefM (K : PySem.W.Frag) (C : Addr) (m qual : Str) (st : Stmt) (ps : List Str) : Prop := ∃ (f : Addr) (fd : FuncData), Meth K C m f ∧ Fun K m qual st f fd ∧ Binds K fd ps []
def DefI (K : PySem.W.Frag) (C : Addr) (m qual : Str) (st : Stmt) (ps : List Str) : Prop := ∃ (f : Addr) (fd : FuncData), Mk K C f ∧ Fun K m qual st f fd ∧ Binds K fd ps []
def OkM (P : Program) (w : World) (K : PySem.W.Frag) (mg : Str → Option Value) (base : Heap) (C : Addr) (m : Str) (k : Nat) (ps : List Str) (sp : Sp) : Prop :=
  ∃ (f : Addr) (fd : FuncData), Meth K C m f ∧ Binds K fd ps [] ∧ FnOk P w K mg base (L2.CX P w) k f fd ps sp
def OkI (P : Program) (w : World) (K : PySem.W.Frag) (mg : Str → Option Value) (base : Heap) (C : Addr) (m : Str) (k : Nat) (ps : List Str) (sp : Sp) : Prop :=
  ∃ (f : Addr) (fd : FuncData), Mk K C f ∧ Binds K fd ps [] ∧ FnOk P w K mg base (L2.CX P w) k f fd ps sp
section
variable {P : Program} {w : World} {K : PySem.W.Frag} {mg : Str → Option Value} {base : Heap}
theorem okm {C : Addr} {m qual : Str} {st : Stmt} {N ps : List Str} {k : Nat} {sp : Sp} (D : DefM K C m qual st ps) (S : FnScope N ps (defScope st)) (len : ∀ vs H Q E, sp vs H Q E → vs.length = ps.length)
    (hbody : ∀ (f : Addr) (cdv : Value) (A : Around) (outer : List Env) (s : Shared) (H : Hp) (vs : List V) (Q : VK) (E : XK), Room k (A.deeper (envOfC qual (defScope st) s.heap.objs.size f cdv)) → sp vs H Q E →
      ∃ t, PSs (cxOf (L2.CX P w) P w K mg base N qual (defScope st) f cdv A outer s H E) (defBody st) t ∧ t { nx := fun _ H' => Q .non H', rt := Q } (start N vs) H) : OkM P w K mg base C m (k + 1) ps sp := by
  obtain ⟨f, fd, hm, F, hb⟩ := D
  exact ⟨f, fd, hm, hb, F.okX S len (fun cdv A outer s H vs Q E hr h => hbody f cdv A outer s H vs Q E hr h)⟩
theorem oki {C : Addr} {m qual : Str} {st : Stmt} {N ps : List Str} {k : Nat} {sp : Sp} (D : DefI K C m qual st ps) (S : FnScope N ps (defScope st)) (len : ∀ vs H Q E, sp vs H Q E → vs.length = ps.length)
    (hbody : ∀ (f : Addr) (cdv : Value) (A : Around) (outer : List Env) (s : Shared) (H : Hp) (vs : List V) (Q : VK) (E : XK), Room k (A.deeper (envOfC qual (defScope st) s.heap.objs.size f cdv)) → sp vs H Q E →
      ∃ t, PSs (cxOf (L2.CX P w) P w K mg base N qual (defScope st) f cdv A outer s H E) (defBody st) t ∧ t { nx := fun _ H' => Q .non H', rt := Q } (start N vs) H) : OkI P w K mg base C m (k + 1) ps sp := by
  obtain ⟨f, fd, hm, F, hb⟩ := D
  exact ⟨f, fd, hm, hb, F.okX S len (fun cdv A outer s H vs Q E hr h => hbody f cdv A outer s H vs Q E hr h)⟩
end
/-- a thing, and the whole number that it is (no truth value is one) -/
inductive Thg (K : PySem.W.Frag) (H : Hp) : V → Option Int → Prop where
  | int (i : Int) : Thg K H (.int i) (some i)
  | bl (b : Bool) : Thg K H (.bl b) none
  | oth {x : V} {t : Value} (ty : TyX K H x t) (ni : PySem.W.kitOne K t (.type "int") = some false) : Thg K H x none
theorem Thg.non {K : PySem.W.Frag} {H : Hp} : Thg K H .non none := .oth (.base .non) (kit_ty (by decide +kernel))
theorem Thg.str {K : PySem.W.Frag} {H : Hp} (x : Str) : Thg K H (.str x) none := .oth (.base (.str x)) (kit_ty (by decide +kernel))
theorem Thg.lst {K : PySem.W.Frag} {H : Hp} {a : Addr} {xs : List V} (e : H a = some (.lst xs)) : Thg K H (.ref a) none := .oth (.base (.lst e)) (kit_ty (by decide +kernel))
theorem Thg.tup {K : PySem.W.Frag} {H : Hp} {a : Addr} {xs : List V} (e : H a = some (.tup xs)) : Thg K H (.ref a) none := .oth (.base (.tup e)) (kit_ty (by decide +kernel))
theorem Thg.dK {K : PySem.W.Frag} {H : Hp} {a : Addr} {xs : List (Key × V)} (e : H a = some (.dK xs)) : Thg K H (.ref a) none := .oth (.base (.dK e)) (kit_ty (by decide +kernel))
theorem tyOf_same {K : PySem.W.Frag} {H H' : Hp} {x : V} {t : Value} (e : Same H H') (h : TyOf K H x t) : TyOf K H' x t := by
  cases h with
  | non => exact .non
  | bl b => exact .bl b
  | int i => exact .int i
  | str z => exact .str z
  | flt z => exact .flt z
  | lst q => exact .lst (e _ _ q)
  | frz q => exact .frz (e _ _ q)
  | tup q => exact .tup (e _ _ q)
  | dK q => exact .dK (e _ _ q)
  | dT q => exact .dT (e _ _ q)
  | ins q cl ha hn htk hm => exact .ins (e _ _ q) cl ha hn htk hm
theorem tyX_same {K : PySem.W.Frag} {H H' : Hp} {x : V} {t : Value} (e : Same H H') (h : TyX K H x t) : TyX K H' x t := by
  cases h with
  | base b => exact .base (tyOf_same e b)
  | byt b => exact .byt b
  | set q => exact .set (e _ _ q)
  | kList q c => exact .kList q c
  | kTuple q c => exact .kTuple q c
  | kDict q c => exact .kDict q c
  | fTuple q => exact .fTuple (e _ _ q)
  | fDict q => exact .fDict (e _ _ q)
theorem Thg.same {K : PySem.W.Frag} {H H' : Hp} {x : V} {o : Option Int} (e : Same H H') (h : Thg K H x o) : Thg K H' x o := by
  cases h with
  | int i => exact .int i
  | bl b => exact .bl b
  | oth ty ni => exact .oth (tyX_same e ty) ni
theorem pick {α : Type} {P : α → Prop} {xs : List α} (h : ∀ x ∈ xs, P x) {j : Nat} (hj : j < xs.length) : ∃ x, xs[j]? = some x ∧ P x := ⟨xs[j], List.getElem?_eq_getElem hj, h _ (List.getElem_mem hj)⟩
def among (o : Option Int) (lo hi : Int) : Bool := match o with
  | some i => decide (lo ≤ i) && decide (i ≤ hi)
  | none => false
def whole (o : Option Int) : Bool := o.isSome
/-- a new list, a new tuple: what stood stands, and it is there -/
def RetL (H : Hp) (xs : List V) (Q : VK) : Prop := ∀ p H', H p = none → Same H H' → H' p = some (.lst xs) → Q (.ref p) H'
def RetT (H : Hp) (xs : List V) (Q : VK) : Prop := ∀ p H', H p = none → Same H H' → H' p = some (.tup xs) → Q (.ref p) H'
theorem Same.new {H : Hp} {p : Addr} {o : HO} (h : H p = none) : Same H (upd H p o) := fun a u e => by
  rw [upd_ne (ne_of_none e h)]
  exact e
theorem new_at {H : Hp} {p : Addr} {o : HO} (_ : H p = none) : upd H p o p = some o := upd_same
theorem Same.mut {H H' : Hp} {p : Addr} {o : HO} (e : Same H H') (h : H p = none) : Same H (upd H' p o) := fun a u ha => by
  rw [upd_ne (ne_of_none ha h)]
  exact e a u ha
theorem get_map {α β : Type} {f : α → β} {xs : List α} {i : Nat} {y : β} (h : (xs.map f)[i]? = some y) : ∃ x, xs[i]? = some x ∧ y = f x := by
  rw [List.getElem?_map] at h
  cases e : xs[i]? with
  | none =>
    rw [e] at h
    cases h
  | some x =>
    rw [e] at h
    exact ⟨x, rfl, (Option.some.inj h).symm⟩
theorem take_succ {α : Type} {l : List α} {i : Nat} {x : α} (h : l[i]? = some x) : l.take (i + 1) = l.take i ++ [x] := by
  rw [List.take_add_one, h] <;> rfl
theorem at_map {xs : List Int} {z : Int} {j : Nat} {v : Int} (e : z = (j : Int)) (h : xs[j]? = some v) : atI (xs.map V.int) z = some (V.int v) := by
  rw [e]
  refine atI_nat ?_
  rw [List.getElem?_map, h] <;> rfl
theorem sz5 {n : Nat} (h : n ≤ 100000) : n ≤ sizeLine := Nat.le_trans h (by decide)
theorem sz5' {n : Nat} (h : n < 100000) : n < sizeLine := Nat.lt_of_lt_of_le h (by decide)
theorem cx0_no {P : Program} {w : World} {H : Hp} {s : Shared} {e : Value} {s' : Shared} (h : L2.CX P w [] H s (fun _ _ _ => False) e s') : False := by
  obtain ⟨_, _, _, _, _, _, _, _, _, _, _, _, z⟩ := h
  exact z.elim
/-- the law's: a list of at most 63 whole numbers is handed in, True comes out -/
def sp_law (K : PySem.W.Frag) : Sp := fun vs H Q _ => ∃ (a : Addr) (ns : List Int), vs = [.ref a] ∧ SqL K H a (ns.map V.int) ∧ ns.length ≤ 63 ∧ ∀ H', Q (.bl true) H'
theorem law_true {K : PySem.W.Frag} {H : Hp} {a : Addr} {ns : List Int} (hS : SqL K H a (ns.map V.int)) (hl : ns.length ≤ 63) : sp_law K [.ref a] H (fun v _ => v = .bl true) (fun _ _ _ => False) := ⟨a, ns, rfl, hS, hl, fun _ => rfl⟩
/-- a remainder as a natural number -/
theorem rem_nat {z m : Int} (hm : 0 < m) : ∃ s : Nat, (s : Int) < m ∧ z % m = (s : Int) := by
  have h1 := Int.emod_nonneg z (show m ≠ 0 by omega)
  have h2 := Int.emod_lt_of_pos z hm
  exact ⟨(z % m).toNat, by omega, by omega⟩
end BM

/-! ## Data that is compared -/
namespace BM
open PySem PySem.Spec PyProof.Rows L2
def Sh (n : Nat) (d : PyData) : Prop := d.canLay0 = true ∧ d.depth ≤ n
theorem canAll : ∀ {ds : List PyData}, (∀ d ∈ ds, d.canLay0 = true) → PyData.canLayAll0 ds = true
  | [], _ => rfl
  | d :: r, h => by
    have h1 := h d List.mem_cons_self
    have h2 := canAll (ds := r) fun e he => h e (List.mem_cons_of_mem _ he)
    simp [PyData.canLayAll0, h1, h2]
theorem depAll {n : Nat} : ∀ {ds : List PyData}, (∀ d ∈ ds, d.depth ≤ n) → PyData.depthAll ds ≤ n
  | [], _ => by
    show 0 ≤ n
    omega
  | d :: r, h => by
    have h1 := h d List.mem_cons_self
    have h2 := depAll (ds := r) fun e he => h e (List.mem_cons_of_mem _ he)
    show max d.depth (PyData.depthAll r) ≤ n
    omega
theorem Sh.non {n : Nat} : Sh n .none := ⟨rfl, Nat.zero_le _⟩
theorem Sh.bl {n : Nat} (b : Bool) : Sh n (.bool b) := ⟨rfl, Nat.zero_le _⟩
theorem Sh.int {n : Nat} (i : Int) : Sh n (.int i) := ⟨rfl, Nat.zero_le _⟩
theorem Sh.str {n : Nat} {x : Str} (h : (PyData.str x).canLay0 = true) : Sh n (.str x) := ⟨h, Nat.zero_le _⟩
theorem Sh.lst {n : Nat} {ds : List PyData} (h : ∀ d ∈ ds, Sh n d) : Sh (n + 1) (.list ds) :=
  ⟨canAll fun d hd => (h d hd).1, by
    have := depAll fun d hd => (h d hd).2
    show PyData.depthAll ds + 1 ≤ n + 1
    omega⟩
theorem Sh.tup {n : Nat} {ds : List PyData} (h : ∀ d ∈ ds, Sh n d) : Sh (n + 1) (.tuple ds) :=
  ⟨canAll fun d hd => (h d hd).1, by
    have := depAll fun d hd => (h d hd).2
    show PyData.depthAll ds + 1 ≤ n + 1
    omega⟩
theorem Sh.shaped {n : Nat} {d : PyData} (h : Sh n d) (hn : n ≤ 64) : SeqAt.shaped d = true := by
  unfold SeqAt.shaped
  rw [h.1, Bool.true_and]
  exact decide_eq_true (Nat.le_trans h.2 hn)
theorem Sh.refl {n : Nat} {d : PyData} (h : Sh n d) : PyData.eqv d d = true := SeqAt.eqv_refl d h.1
theorem sh_ints {n : Nat} (ns : List Int) : Sh (n + 1) (.list (ns.map PyData.int)) := .lst fun d hd => by
  obtain ⟨i, _, rfl⟩ := List.mem_map.mp hd
  exact .int i
/-- values paired with data, by place -/
theorem dp_all {K : PySem.W.Frag} {H : Hp} : ∀ {vs : List V} {ds : List PyData}, vs.length = ds.length → (∀ (i : Nat) (v : V) (d : PyData), vs[i]? = some v → ds[i]? = some d → Dp K H v d) → DpAll K H vs ds
  | [], [], _, _ => .nil
  | [], _ :: _, h, _ => by simp at h
  | _ :: _, [], h, _ => by simp at h
  | v :: vs, d :: ds, h, k => .cons (k 0 v d rfl rfl) (dp_all (by simpa using h) fun i w e hw he => k (i + 1) w e hw he)
theorem dp_ints {K : PySem.W.Frag} {H : Hp} : ∀ ns : List Int, DpAll K H (ns.map V.int) (ns.map PyData.int)
  | [] => .nil
  | i :: r => .cons (.int i) (dp_ints r)
theorem atI_end {α : Type} {xs : List α} {v : α} (h : xs[xs.length - 1]? = some v) : atI xs (-1) = some v := by
  obtain ⟨hl, e⟩ := List.getElem?_eq_some_iff.mp h
  unfold atI ixN
  rw [if_neg (by decide), if_pos (by omega)]
  have e1 : ((-1 : Int) + (xs.length : Int)).toNat = xs.length - 1 := by omega
  rw [e1]
  exact h
def rListOf (K : PySem.W.Frag) : List V → Hp → VK → Prop := fun xs H Q => ∃ p ys, xs = [.ref p] ∧ (SqL K H p ys ∨ SqT K H p ys) ∧ ∀ l, H l = none → Q (.ref l) (upd H l (.lst ys))
end BM

/-! ## A def that is called with the caught error, in the suite that holds it: nothing leaves it -/
namespace BM
open PySem PySem.Spec PyProof.Rows L2
abbrev SpE := Addr → Value → Option Addr → List V → Hp → VK → Prop
structure FnE (P : Program) (w : World) (K : PySem.W.Frag) (mg : Str → Option Value) (base : Heap) (k : Nat) (f : Addr) (fd : FuncData) (ps : List Str) (sp : SpE) : Prop where
  len : ∀ a c d vs H Q, sp a c d vs H Q → vs.length = ps.length
  go : ∀ (A : Around) (outer : List Env) (s : Shared) (H : Hp) (args : Args) (us : List Value) (vs : List V) (Q : VK) (p : Addr × Obj) (c : Value) (d : Option Addr), Zc c d p.2 → (∃ ws, p.2.data = .fields ws) →
    L2H.RoomH k A → L2H.PinOk outer H s p → Env0 P w K mg base A outer s H → BindsTo s fd args (ps.zip us) → Vals vs us → sp p.1 c d vs H Q → codeAny (model P w) A (.call (.ref f) args) (CR CX0 outer P w H s Q E0) s
theorem cells_ok {scope : Scope} {n : Nat} {ps : List Str} {us : List Value} (par : ∀ x ∈ ps, scope.names.lookup x = some .local ∨ scope.names.lookup x = some .cell) :
    ∀ y ∈ ps.zip us, scope.names.lookup y.1 = some .local ∨ (scope.names.lookup y.1 = some .cell ∧ ((cellsFrom n scope.names []).lookup y.1).isSome = true) := by
  intro y hy
  obtain ⟨x, v⟩ := y
  have hx := par x (List.of_mem_zip hy).1
  cases hx with
  | inl q => exact Or.inl q
  | inr q => exact Or.inr ⟨q, PySem.W.cellsFrom_some _ _ _ (Or.inl q)⟩
theorem fn_ofE {P : Program} {w : World} {K : PySem.W.Frag} {mg : Str → Option Value} {base : Heap} {k : Nat} {x qual : Str} {st : Stmt} {f : Addr} {fd : FuncData} {N ps : List Str} {sp : SpE}
    (F : Fun K x qual st f fd) (S : FnScope N ps (defScope st)) (len : ∀ a c d vs H Q, sp a c d vs H Q → vs.length = ps.length)
    (body : ∀ (cdv : Value) (A : Around) (outer : List Env) (s : Shared) (H : Hp) (vs : List V) (Q : VK) (p : Addr × Obj) (c : Value) (d : Option Addr), Zc c d p.2 → (∃ ws, p.2.data = .fields ws) →
      L2H.RoomH k (A.deeper (envOfC qual (defScope st) s.heap.objs.size f cdv)) → sp p.1 c d vs H Q →
      ∃ t, PSs (L2H.cxH CX0 P w K mg base N qual (defScope st) f cdv A outer s H E0 p) (defBody st) t ∧ t { nx := fun _ H' => Q .non H', rt := Q } (L2.start N vs) H) :
    FnE P w K mg base (k + 1) f fd ps sp := by
  obtain ⟨oc, od, kV, doc, pm, an, cdv, ct, osl, e0, lk, hcd⟩ := F.ex
  subst e0
  refine ⟨len, ?_⟩
  intro A outer s H args us vs Q p c d hz hf hr hpin ev hb r hsp
  have hl := len _ _ _ _ _ _ hsp
  have kin : K.In s.heap := ev.mod.kin.keeps (fun b o q => (ev.bs b o q).1)
  have nol : s.heap.NoLimit := ev.mod.nolimit.keeps (fun b o q => (ev.bs b o q).1)
  refine codeAny_call_function hr.depth (kin _ _ lk) rfl S.co S.gen rfl
    (PySem.W.codeRec_of kin hcd) (hb _ _ _ _ ?_)
  refine wpAny_newFunctionEnv_cells S.kind (cells_ok S.par)
    fun env he t1 y => ?_
  cases he
  refine ⟨nol.keeps y.toInCall.keep, codeAny_func ?_⟩
  obtain ⟨t, ht, hq⟩ := body cdv A outer s H vs Q p c d hz hf (hr.deeper _) hsp
  have I := L2H.inv_startH (CX := CX0) (E := E0) S hpin ev hl r y
  refine wpAny_mono (ht.run [] t1 _ H _ I hq) (fun fl s' hs => ?_) (fun _ _ z => z)
  match fl, hs with
  | .ret u, hs =>
    obtain ⟨v, σ', H', J, rv, q⟩ := hs
    exact ⟨v, H', J.os, J.bare, J.base, J.hok, rv, q⟩
  | .next, hs =>
    obtain ⟨σ', H', J, q⟩ := hs
    exact ⟨V.non, H', J.os, J.bare, J.base, J.hok, rfl, q⟩
  | .brk, hs =>
    obtain ⟨_, _, _, q⟩ := hs
    exact q.elim
  | .cont, hs =>
    obtain ⟨_, _, _, q⟩ := hs
    exact q.elim
section
variable {X : Cx}
/-- the call, from the suite -/
theorem pe_hotE {k : Nat} {f a : Addr} {fd : FuncData} {ps : List Str} {sp : SpE} {x : Str} {q pos : Pos} {e : Expr} {es : List Expr} {t : TA} {oe : Obj} {c : Value} {d : Option Addr} {pn : List (Addr × Obj)}
    (F : FnE X.prog X.w X.K X.mg X.base k f fd ps sp) (hr : Room k X.A) (hz : Zc c d oe) (hf : ∃ ws, oe.data = .fields ws) (hg : Gl X x) (hm : X.mg x = some (.ref f)) (hk : PySem.W.keepIn X.K (.ref f) = true) (hb : Binds X.K fd ps [])
    (ha : PA (X.suite a ((a, oe) :: pn)) (e :: es) t) (hdb : (x == ("__debug__" : Str)) = false := by decide) (he : starEach (e :: es) X.env = (false, eval e X.env) :: starEach es X.env := by rfl) (hpl : (backTo pos (starEach es X.env)).any (·.1) = false := by rfl) :
    PE (X.suite a ((a, oe) :: pn)) (.Call (.Name x q) (e :: es) [] pos) (fun σ H Q => t σ H fun vs H1 => sp a c d vs H1 Q) := by
  refine ⟨fun pins s σ H Q I h => ?_⟩
  refine wpAny_Call_Name_kw (ld_glob I hg hm ?_ hdb)
  refine PySem.W.callWith_K (h₀ := X.base) I.ok.mod.kin hk (thn (ha.run pos pins s σ H _ I h) ?_) he hpl
  intro us s1 ⟨vs, H1, I1, r, hs⟩
  refine ⟨I1.kIn, ?_⟩
  have hl : us.length = ps.length := by
    rw [← r.length]
    exact F.len _ _ _ _ _ _ hs
  have b := hb s1 us I1.kIn (by rw [List.append_nil]; exact hl)
  rw [List.append_nil] at b
  have P1 := I1.pin (a, oe) (List.mem_append_left _ List.mem_cons_self)
  have hpin : L2H.PinOk X.stack H1 s1 (a, oe) := ⟨P1.1, P1.2.1, fun z => (List.mem_cons.mp (I1.stkSub a z)).elim P1.2.2.1 P1.2.2.2.1, P1.2.2.2.2⟩
  have hr' : L2H.RoomH k (X.suite a ((a, oe) :: pn)).A := ⟨hr.dp, hr.un⟩
  refine wpAny_call (codeAny_mono (F.go _ X.stack s1 H1 ⟨us, []⟩ us vs Q (a, oe) c d hz hf hr' hpin I1.env0 b r hs) ?_)
  intro res s' hq
  match res, hq with
  | .error e, hq => exact hq.elim
  | .ok (.ret u), hq => exact I1.after hq
  | .ok .next, hq => exact hq.elim
  | .ok .brk, hq => exact hq.elim
  | .ok .cont, hq => exact hq.elim
/-- isinstance(e, C), e the pinned error -/
def rIsP (K : PySem.W.Frag) (a : Addr) (cls : Value) (d : Option Addr) : List V → Hp → VK → Prop := fun xs H Q => ∃ (D : Addr) (c : V) (cv : Value) (b : Bool), cls = .ref D ∧ d = none ∧ ExcC K D ∧ xs = [.ref a, c] ∧ (∀ u, RelV c u → u = cv) ∧ PySem.W.kitOne K (.ref D) cv = some b ∧ Q (.bl b) H
theorem call_isP {p : Addr × Obj} {cls : Value} {d : Option Addr} (hp : p ∈ X.pn) (hz : Zc cls d p.2) (hf : ∃ ws, p.2.data = .fields ws) : CallR X (.builtin "isinstance") (rIsP X.K p.1 cls d) := by
  intro pins s σ H xs us Q I r h
  obtain ⟨D, c, cv, b, rfl, rfl, C, rfl, hcv, e, q⟩ := h
  match us, r with
  | [_, u2], .cons rx (.cons rt .nil) =>
    cases rx
    have ec : u2 = cv := hcv _ rt
    cases ec
    obtain ⟨hget, _⟩ := I.pin p (List.mem_append.mpr (Or.inl hp))
    obtain ⟨ws, hv⟩ := hf
    have J : PySem.W.InstAt s.heap p.1 p.2 D none := by
      obtain ⟨pa, ⟨oc, od, oda, osl⟩⟩ := p
      obtain ⟨g1, g2⟩ := hz
      dsimp only at g1 g2 hv
      cases g1
      cases g2
      cases hv
      exact ⟨hget, rfl, rfl, trivial⟩
    refine PySem.W.kia_one (PySem.W.handS_kitx_exc C.hg C.hk C.hs C.hd C.ha C.hn C.ht C.hm) I.kIn J e (fun z => nomatch z) ?_
    intro tk
    exact ⟨.bl b, H, I.kept (t' := tk) (fun _ _ z => z), rfl, q⟩
theorem countP_vals {y : V} : ∀ {ys : List V} {us : List Value}, Vals ys us → ys.all flatV = true → us.countP (eqU y) = ys.countP fun z => eqV z y
  | _, _, .nil, _ => rfl
  | z :: zs, u :: us, .cons r t, f => by
    rw [List.all_cons, Bool.and_eq_true] at f
    rw [List.countP_cons, List.countP_cons, countP_vals t f.2, eqU_of r f.1]
/-- xs.count(y), flat things -/
theorem mt_countV : MtR X "list.count" (fun x xs H Q => ∃ (p : Addr) (ys : List V) (y : V), x = .ref p ∧ xs = [y] ∧ SqL X.K H p ys ∧ flatV y = true ∧ ys.all flatV = true ∧ Q (.int ((ys.countP fun z => eqV z y : Nat) : Int)) H) := by
  intro pins s σ H x xs v us Q I rx rxs h
  obtain ⟨a, ys, y, rfl, rfl, hs, fy, fys, q⟩ := h
  cases rx
  match us, rxs with
  | [uy], .cons ry .nil =>
    obtain ⟨its, rv, ⟨⟨cls, dd, data, sl⟩, n, ho, hc, hdn, hd⟩, hlen⟩ := I.list hs
    cases hc
    cases hd
    refine call_meets PySem.F.slot_list_count ⟨_, ho, rfl⟩ PySem.F.entry_list_count (PySem.F.args_list_count_2 _ _)
      (SeqAt.list_countAt a its.toArray n dd sl uy (eqU y)) ⟨ho, fun u' hu' => mem_eqAt ry fy rv fys u' (by simpa using hu'), ?_⟩
    have ec := countP_vals (y := y) rv fys
    refine ⟨.int ((ys.countP fun z => eqV z y : Nat) : Int), H, I.tok _, ⟨s.toks, ?_⟩, q⟩
    show Value.int ((its.toArray.toList.countP (eqU y) : Nat) : Int) s.toks = _
    rw [← ec]
end
/-! ### the law's own classes of errors -/
def words8 : List Str := ["count", "rule", "deed", "full", "twice", "notkept", "atend", "notwanted"]
/-- the class D is the i-th of the eight -/
structure Kind (K : PySem.W.Frag) (c : Nat → Addr) (D : Addr) (i : Nat) : Prop where
  lt : i < 8
  is : ∀ j, j < 8 → PySem.W.kitOne K (.ref D) (.ref (c j)) = some (decide (j = i))
  ve : PySem.W.kitOne K (.ref D) (.type "ValueError") = some true
  ex : ExcC K D
/-- what the law is told of an error -/
def sp_class (K : PySem.W.Frag) (c : Nat → Addr) : SpE := fun a cls d vs H Q => vs = [.ref a] ∧ ∃ (D : Addr) (i : Nat), cls = .ref D ∧ d = none ∧ Kind K c D i ∧ RetT H [.str "refused", .str (words8.getD i "")] Q
theorem eight {P : Nat → Prop} {i : Nat} (h : i < 8) (h0 : P 0) (h1 : P 1) (h2 : P 2) (h3 : P 3) (h4 : P 4) (h5 : P 5) (h6 : P 6) (h7 : P 7) : P i := by
  match i, h with
  | 0, _ => exact h0
  | 1, _ => exact h1
  | 2, _ => exact h2
  | 3, _ => exact h3
  | 4, _ => exact h4
  | 5, _ => exact h5
  | 6, _ => exact h6
  | 7, _ => exact h7
end BM

/-! ## The tables, in plain Lean -/
namespace BM
open PySem PySem.Spec PyProof.Rows L2
def choStep (m : Nat) (f t : Nat) : Nat := f * (m - t) / (t + 1)
def choN (m c : Nat) : Nat := (List.range c).foldl (choStep m) 1
def waysN (r t : Nat) : Nat := choN (r + t) r
def oftGo (s r : Nat) : Nat → Nat → Nat
  | 0, t => t
  | n + 1, t => if waysN r t ≤ s then oftGo s r n (t + 1) else t
/-- how often -/
def oftN (s r : Nat) : Nat := oftGo s r 101 0
def costN (s r : Nat) : Int := if oftN s r = 0 then 0 else (oftN s r : Int) * ((s : Int) + 1) - (waysN (r + 1) (oftN s r - 1) : Int)
theorem choN_succ (m c : Nat) : choN m (c + 1) = choStep m (choN m c) c := by
  unfold choN
  rw [List.range_succ, List.foldl_append] <;> rfl
theorem ways_far : ∀ r, r < 14 → 1 ≤ r → 100 < waysN r 101 := by decide +kernel
theorem oftGo_le {s r : Nat} : ∀ n t, oftGo s r n t ≤ n + t
  | 0, t => by
    show t ≤ 0 + t
    omega
  | n + 1, t => by
    have h := oftGo_le (s := s) (r := r) n (t + 1)
    show (if waysN r t ≤ s then oftGo s r n (t + 1) else t) ≤ n + 1 + t
    split <;> omega
theorem oftN_le (s r : Nat) : oftN s r ≤ 101 := oftGo_le 101 0
theorem oft_yes {s r n t : Nat} (h : waysN r t ≤ s) : oftGo s r (n + 1) t = oftGo s r n (t + 1) := if_pos h
theorem oft_no {s r n t : Nat} (h : ¬ waysN r t ≤ s) : oftGo s r n t = t := by
  cases n with
  | zero => rfl
  | succ n => exact if_neg h
def goodC (o1 o2 : Option Int) : Bool := among o1 0 100 && among o2 1 12
/-- the best of the marks met so far -/
def bestStep (above found : List Int) (many : Nat) (b : Option Int) (j : Nat) : Option Int :=
  let w := ((j : Int) + 1) + above.getD (many - (j + 1)) 0 + found.getD j 0
  match b with
  | none => some w
  | some v => if w < v then some w else some v
def bestN (above found : List Int) (many : Nat) (j : Nat) : Option Int := (List.range j).foldl (bestStep above found many) none
def nextN (above : List Int) : Nat → List Int
  | 0 => [0]
  | n + 1 => nextN above n ++ [(bestN above (nextN above n) (n + 1) (n + 1)).getD 0]
theorem nextN_len (above : List Int) : ∀ n, (nextN above n).length = n + 1
  | 0 => rfl
  | n + 1 => by
    show (nextN above n ++ [_]).length = n + 1 + 1
    rw [List.length_append, nextN_len above n] <;> rfl
theorem bestN_succ (above found : List Int) (many j : Nat) : bestN above found many (j + 1) = bestStep above found many (bestN above found many j) j := by
  unfold bestN
  rw [List.range_succ, List.foldl_append] <;> rfl
theorem bestStep_some (above found : List Int) (many : Nat) (b : Option Int) (j : Nat) : ∃ v, bestStep above found many b j = some v := by
  unfold bestStep
  cases b with
  | none => exact ⟨_, rfl⟩
  | some v =>
    dsimp only
    split
    · exact ⟨_, rfl⟩
    · exact ⟨_, rfl⟩
def lineOne (n : Nat) : List Int := (List.range (n + 1)).map fun (m : Nat) => ((m : Int) * ((m : Int) + 1)) / 2
def tableN (n : Nat) : Nat → List (List Int)
  | 0 => [lineOne n]
  | r + 1 => tableN n r ++ [nextN ((tableN n r).getLastD []) n]
def oV : Option Int → V
  | none => .non
  | some i => .int i
theorem tableN_len (n : Nat) : ∀ r, (tableN n r).length = r + 1
  | 0 => rfl
  | r + 1 => by
    show (tableN n r ++ [_]).length = r + 1 + 1
    rw [List.length_append, tableN_len n r] <;> rfl
end BM
namespace BM
open PySem PySem.Spec PyProof.Rows L2
def lineK (n : Nat) : Nat → List Int
  | 0 => lineOne n
  | k + 1 => nextN (lineK n k) n
theorem lineK_len (n : Nat) : ∀ k, (lineK n k).length = n + 1
  | 0 => by
    show (lineOne n).length = n + 1
    unfold lineOne
    rw [List.length_map, List.length_range]
  | k + 1 => nextN_len _ n
/-- the rows stand at these places -/
structure Rows (H : Hp) (as : List Addr) (r : Nat) (f : Nat → List Int) : Prop where
  len : as.length = r
  at' : ∀ i a, as[i]? = some a → H a = some (.lst ((f i).map V.int))
def RetRows (H : Hp) (r : Nat) (f : Nat → List Int) (Q : VK) : Prop :=
  ∀ p as H', H p = none → (∀ a ∈ as, H a = none) → Same H H' → H' p = some (.lst (as.map V.ref)) → Rows H' as r f → Q (.ref p) H'
theorem lineOne_take (m : Nat) : (((List.range m).map fun (m : Nat) => ((m : Int) * ((m : Int) + 1)) / 2).map V.int) ++ [V.int (((m : Int) * ((m : Int) + 1)) / 2)] = ((List.range (m + 1)).map fun (m : Nat) => ((m : Int) * ((m : Int) + 1)) / 2).map V.int := by
  rw [List.range_succ, List.map_append, List.map_append] <;> rfl
end BM

/-! ## The least cost: as a greatest of straight lines -/
namespace BM
theorem ways_zero : ∀ r, r < 15 → waysN r 0 = 1 := by decide +kernel
theorem ways_nil : ∀ t, t < 104 → waysN 0 t = 1 := by decide +kernel
theorem pascal' : ((List.range 13).all fun r => (List.range 103).all fun t => waysN (r + 1) (t + 1) == waysN (r + 1) t + waysN r (t + 1)) = true := by decide +kernel
theorem pascal {r t : Nat} (hr : r < 13) (ht : t < 103) : waysN (r + 1) (t + 1) = waysN (r + 1) t + waysN r (t + 1) :=
  eq_of_beq (List.all_eq_true.mp (List.all_eq_true.mp pascal' r (List.mem_range.mpr hr)) t (List.mem_range.mpr ht))
theorem ways_pos : ∀ r t, r < 14 → t < 104 → 1 ≤ waysN r t
  | 0, t, _, ht => by rw [ways_nil t ht]; omega
  | r + 1, 0, hr, _ => by rw [ways_zero (r + 1) (by omega)]; omega
  | r + 1, t + 1, hr, ht => by
    have h := ways_pos (r + 1) t hr (by omega)
    rw [pascal (by omega) (by omega)]
    omega
theorem ways_up {r t : Nat} (hr : r < 13) (ht : t < 103) : waysN (r + 1) t < waysN (r + 1) (t + 1) := by
  have h := ways_pos r (t + 1) (by omega) (by omega)
  rw [pascal hr ht]
  omega
theorem ways_mono {r t : Nat} (h1 : 1 ≤ r) (hr : r < 14) : ∀ d, t + d < 104 → waysN r t + d ≤ waysN r (t + d)
  | 0, _ => Nat.le_refl _
  | d + 1, h => by
    have i := ways_mono (t := t) h1 hr d (by omega)
    obtain ⟨q, rfl⟩ : ∃ q, r = q + 1 := ⟨r - 1, by omega⟩
    have u := ways_up (r := q) (t := t + d) (by omega) (by omega)
    show waysN (q + 1) t + (d + 1) ≤ waysN (q + 1) (t + d + 1)
    omega
theorem ways_lt {r a b : Nat} (h1 : 1 ≤ r) (hr : r < 14) (hb : b < 104) (h : a ≤ b) : waysN r a + (b - a) ≤ waysN r b := by
  have := ways_mono (t := a) h1 hr (b - a) (by omega)
  have e : a + (b - a) = b := by omega
  rw [e] at this
  exact this
theorem ways_ge {r t : Nat} (h1 : 1 ≤ r) (hr : r < 14) (ht : t < 104) : t + 1 ≤ waysN r t := by
  have := ways_lt (a := 0) (b := t) h1 hr ht (Nat.zero_le _)
  rw [ways_zero r (by omega)] at this
  omega
theorem oftGo_spec {s r : Nat} : ∀ n t, (∀ u, u < t → waysN r u ≤ s) → (s < waysN r (n + t)) → (∀ u, u < oftGo s r n t → waysN r u ≤ s) ∧ s < waysN r (oftGo s r n t)
  | 0, t, h, hs => by
    rw [Nat.zero_add] at hs
    exact ⟨h, hs⟩
  | n + 1, t, h, hs => by
    by_cases c : waysN r t ≤ s
    · rw [oft_yes c]
      refine oftGo_spec n (t + 1) (fun u hu => ?_) (by rw [show n + (t + 1) = n + 1 + t by omega]; exact hs)
      by_cases e : u = t
      · rw [e]
        exact c
      · exact h u (by omega)
    · rw [oft_no c]
      exact ⟨h, by omega⟩
theorem oft_spec {s r : Nat} (hs : s ≤ 101) (h1 : 1 ≤ r) (hr : r < 14) : (∀ u, u < oftN s r → waysN r u ≤ s) ∧ s < waysN r (oftN s r) := by
  refine oftGo_spec 101 0 (fun u hu => by omega) ?_
  show s < waysN r 101
  have := ways_ge (t := 101) h1 hr (by omega)
  omega
theorem oft_le {s r : Nat} (hs : s ≤ 101) (h1 : 1 ≤ r) (hr : r < 14) : oftN s r ≤ s := by
  have h := (oft_spec hs h1 hr).1
  by_cases c : oftN s r ≤ s
  · exact c
  · have q := h s (by omega)
    have := ways_ge (t := s) h1 hr (by omega)
    omega
def phi (r s t : Nat) : Int := if t = 0 then 0 else (t : Int) * ((s : Int) + 1) - (waysN (r + 1) (t - 1) : Int)
theorem cost_phi (s r : Nat) : costN s r = phi r s (oftN s r) := rfl
theorem phi_step {r s t : Nat} (hr : r < 13) (ht : t < 103) : phi r s (t + 1) = phi r s t + ((s : Int) + 1) - (waysN r t : Int) := by
  cases t with
  | zero =>
    show (if (0 + 1 : Nat) = 0 then (0 : Int) else ((0 + 1 : Nat) : Int) * ((s : Int) + 1) - (waysN (r + 1) 0 : Int)) = 0 + ((s : Int) + 1) - (waysN r 0 : Int)
    rw [if_neg (by omega), ways_zero (r + 1) (by omega), ways_zero r (by omega)]
    omega
  | succ t =>
    have p := pascal (r := r) (t := t) hr (by omega)
    show (if (t + 1 + 1 : Nat) = 0 then (0 : Int) else ((t + 1 + 1 : Nat) : Int) * ((s : Int) + 1) - (waysN (r + 1) (t + 1) : Int)) = (if (t + 1 : Nat) = 0 then (0 : Int) else ((t + 1 : Nat) : Int) * ((s : Int) + 1) - (waysN (r + 1) t : Int)) + ((s : Int) + 1) - (waysN r (t + 1) : Int)
    rw [if_neg (by omega), if_neg (by omega), p]
    have e : ((t + 1 + 1 : Nat) : Int) * ((s : Int) + 1) = ((t + 1 : Nat) : Int) * ((s : Int) + 1) + ((s : Int) + 1) := by
      rw [Int.natCast_add (t + 1) 1, Int.add_mul]
      show _ + (1 : Int) * _ = _
      rw [Int.one_mul]
    rw [e, Int.natCast_add]
    omega
/-- the least cost is the greatest of the lines -/
theorem phi_le {r s t : Nat} (hs : s ≤ 101) (h1 : 1 ≤ r) (hr : r < 13) (ht : t ≤ 103) : phi r s t ≤ costN s r := by
  obtain ⟨a, b⟩ := oft_spec (s := s) (r := r) hs h1 (by omega)
  have o := oft_le (s := s) (r := r) hs h1 (by omega)
  rw [cost_phi]
  have up : ∀ d, d ≤ oftN s r → phi r s (oftN s r - d) ≤ phi r s (oftN s r) := by
    intro d
    induction d with
    | zero => intro _; exact Int.le_refl _
    | succ d ih =>
      intro hd
      have i := ih (by omega)
      have st := phi_step (r := r) (s := s) (t := oftN s r - (d + 1)) (by omega) (by omega)
      have w := a (oftN s r - (d + 1)) (by omega)
      have e : oftN s r - (d + 1) + 1 = oftN s r - d := by omega
      rw [e] at st
      omega
  have down : ∀ d, oftN s r + d ≤ 103 → phi r s (oftN s r + d) ≤ phi r s (oftN s r) := by
    intro d
    induction d with
    | zero => intro _; exact Int.le_refl _
    | succ d ih =>
      intro hd
      have i := ih (by omega)
      have st := phi_step (r := r) (s := s) (t := oftN s r + d) (by omega) (by omega)
      have w := ways_lt (r := r) (a := oftN s r) (b := oftN s r + d) h1 (by omega) (by omega) (by omega)
      rw [show oftN s r + (d + 1) = oftN s r + d + 1 by omega]
      omega
  by_cases c : t ≤ oftN s r
  · have := up (oftN s r - t) (by omega)
    rw [show oftN s r - (oftN s r - t) = t by omega] at this
    exact this
  · have := down (t - oftN s r) (by omega)
    rw [show oftN s r + (t - oftN s r) = t by omega] at this
    exact this
theorem cost_nonneg {s r : Nat} (hs : s ≤ 101) (h1 : 1 ≤ r) (hr : r < 13) : 0 ≤ costN s r := phi_le (t := 0) hs h1 hr (by omega)
/-- no mark does better -/
theorem cost_mark {s r m : Nat} (hs : s ≤ 101) (h1 : 1 ≤ r) (hr : r < 12) (hm : 1 ≤ m) (hms : m ≤ s) : costN s (r + 1) ≤ (m : Int) + costN (s - m) r + costN (m - 1) (r + 1) := by
  rw [cost_phi s (r + 1)]
  have o := oft_le (s := s) (r := r + 1) hs (by omega) (by omega)
  cases e : oftN s (r + 1) with
  | zero =>
    have a := cost_nonneg (s := s - m) (r := r) (by omega) h1 (by omega)
    have b := cost_nonneg (s := m - 1) (r := r + 1) (by omega) (by omega) (by omega)
    show (0 : Int) ≤ _
    omega
  | succ t =>
    rw [e] at o
    have a := phi_le (s := s - m) (r := r) (t := t + 1) (by omega) h1 (by omega) (by omega)
    have b := phi_le (s := m - 1) (r := r + 1) (t := t) (by omega) (by omega) (by omega) (by omega)
    have e1 : phi (r + 1) s (t + 1) = ((t + 1 : Nat) : Int) * ((s : Int) + 1) - (waysN (r + 1 + 1) t : Int) := by
      show (if (t + 1 : Nat) = 0 then (0 : Int) else _) = _
      rw [if_neg (by omega)] <;> rfl
    have e2 : phi r (s - m) (t + 1) = ((t + 1 : Nat) : Int) * (((s - m : Nat) : Int) + 1) - (waysN (r + 1) t : Int) := by
      show (if (t + 1 : Nat) = 0 then (0 : Int) else _) = _
      rw [if_neg (by omega)] <;> rfl
    have q1 : ((t + 1 : Nat) : Int) * (((s - m : Nat) : Int) + 1) + ((t + 1 : Nat) : Int) * (m : Int) = ((t + 1 : Nat) : Int) * ((s : Int) + 1) := by
      rw [← Int.mul_add]
      congr 1
      omega
    have e3 : phi (r + 1) (m - 1) t = (t : Int) * (m : Int) - (if t = 0 then 0 else (waysN (r + 1 + 1) (t - 1) : Int)) := by
      show (if t = 0 then (0 : Int) else (t : Int) * (((m - 1 : Nat) : Int) + 1) - _) = _
      by_cases c : t = 0
      · rw [if_pos c, if_pos c, c]
        show (0 : Int) = 0 * (m : Int) - 0
        rw [Int.zero_mul] <;> rfl
      · rw [if_neg c, if_neg c, show (((m - 1 : Nat) : Int) + 1) = (m : Int) by omega]
    have q2 : ((t + 1 : Nat) : Int) * (m : Int) = (t : Int) * (m : Int) + (m : Int) := by
      rw [Int.natCast_add t 1, Int.add_mul]
      show _ + (1 : Int) * _ = _
      rw [Int.one_mul]
    have p : (waysN (r + 1 + 1) t : Int) = (if t = 0 then 0 else (waysN (r + 1 + 1) (t - 1) : Int)) + (waysN (r + 1) t : Int) := by
      cases t with
      | zero =>
        rw [if_pos rfl, ways_zero (r + 1 + 1) (by omega), ways_zero (r + 1) (by omega)] <;> rfl
      | succ t =>
        rw [if_neg (by omega), pascal (r := r + 1) (t := t) (by omega) (by omega), Int.natCast_add] <;> rfl
    omega
/-- one room more never costs more -/
theorem cost_room {s r : Nat} (hs : s ≤ 101) (h1 : 1 ≤ r) (hr : r < 12) : costN s (r + 1) ≤ costN s r := by
  rw [cost_phi s (r + 1)]
  have o := oft_le (s := s) (r := r + 1) hs (by omega) (by omega)
  refine Int.le_trans ?_ (phi_le (t := oftN s (r + 1)) hs h1 (by omega) (by omega))
  unfold phi
  by_cases c : oftN s (r + 1) = 0
  · rw [if_pos c, if_pos c]
    exact Int.le_refl _
  · rw [if_neg c, if_neg c]
    have : waysN (r + 1) (oftN s (r + 1) - 1) ≤ waysN (r + 1 + 1) (oftN s (r + 1) - 1) := by
      have hu : oftN s (r + 1) - 1 < 103 := by omega
      generalize oftN s (r + 1) - 1 = u at hu ⊢
      cases u with
      | zero => rw [ways_zero (r + 1) (by omega), ways_zero (r + 1 + 1) (by omega)]; omega
      | succ t =>
        rw [pascal (r := r + 1) (t := t) (by omega) (by omega)]
        omega
    omega
end BM

/-! ## The table's lines tell the least cost -/
namespace BM
def markN (s r : Nat) : Nat := min (waysN r (oftN s r - 1)) (s + 1 - waysN (r - 1) (oftN s r - 1))
def markOk (s r : Nat) : Bool := s == 0 || (decide (1 ≤ markN s (r + 1)) && decide (markN s (r + 1) ≤ s) && decide (costN s (r + 1) = (markN s (r + 1) : Int) + costN (s - markN s (r + 1)) r + costN (markN s (r + 1) - 1) (r + 1)))
theorem markOk1 : ((List.range 101).all fun s => (List.range 2).all fun r => markOk s (r + 1)) = true := by decide +kernel
theorem markOk2 : ((List.range 101).all fun s => (List.range 4).all fun r => markOk s (r + 3)) = true := by decide +kernel
theorem markOk3 : ((List.range 101).all fun s => (List.range 5).all fun r => markOk s (r + 7)) = true := by decide +kernel
theorem mark_ok {s r : Nat} (hs : s ≤ 100) (h0 : 1 ≤ s) (h1 : 1 ≤ r) (hr : r < 12) : 1 ≤ markN s (r + 1) ∧ markN s (r + 1) ≤ s ∧ costN s (r + 1) = (markN s (r + 1) : Int) + costN (s - markN s (r + 1)) r + costN (markN s (r + 1) - 1) (r + 1) := by
  have h : markOk s r = true := by
    by_cases c : r < 3
    · have := List.all_eq_true.mp (List.all_eq_true.mp markOk1 s (List.mem_range.mpr (by omega))) (r - 1) (List.mem_range.mpr (by omega))
      rw [show r - 1 + 1 = r by omega] at this
      exact this
    · by_cases c2 : r < 7
      · have := List.all_eq_true.mp (List.all_eq_true.mp markOk2 s (List.mem_range.mpr (by omega))) (r - 3) (List.mem_range.mpr (by omega))
        rw [show r - 3 + 3 = r by omega] at this
        exact this
      · have := List.all_eq_true.mp (List.all_eq_true.mp markOk3 s (List.mem_range.mpr (by omega))) (r - 7) (List.mem_range.mpr (by omega))
        rw [show r - 7 + 7 = r by omega] at this
        exact this
  unfold markOk at h
  rw [Bool.or_eq_true] at h
  rcases h with h | h
  · have := eq_of_beq h
    omega
  · simp only [Bool.and_eq_true, decide_eq_true_eq] at h
    exact ⟨h.1.1, h.1.2, h.2⟩
theorem one_ok : ((List.range 101).all fun s => decide (costN s 1 = ((s : Int) * ((s : Int) + 1)) / 2)) = true := by decide +kernel
theorem cost_one {s : Nat} (hs : s ≤ 100) : costN s 1 = ((s : Int) * ((s : Int) + 1)) / 2 :=
  of_decide_eq_true (List.all_eq_true.mp one_ok s (List.mem_range.mpr (by omega)))
theorem best_min {above found : List Int} {many : Nat} {w : Nat → Int} (hw : ∀ j, j < many → ((j : Int) + 1) + above.getD (many - (j + 1)) 0 + found.getD j 0 = w j) :
    ∀ j, j ≤ many → (bestN above found many j = none ∧ j = 0) ∨ ∃ v, bestN above found many j = some v ∧ (∃ i, i < j ∧ v = w i) ∧ ∀ i, i < j → v ≤ w i
  | 0, _ => .inl ⟨rfl, rfl⟩
  | j + 1, h => by
    have e := bestN_succ above found many j
    have ew := hw j (by omega)
    have st : ∀ b, bestStep above found many b j = match b with | none => some (w j) | some v => if w j < v then some (w j) else some v := by
      intro b
      unfold bestStep
      rw [ew]
    rw [st] at e
    rcases best_min hw j (by omega) with ⟨h0, rfl⟩ | ⟨v, hv, ⟨i, hi, hvi⟩, hm⟩
    · rw [h0] at e
      refine .inr ⟨w 0, e, ⟨0, by omega, rfl⟩, fun i hi => ?_⟩
      rw [show i = 0 by omega]
      exact Int.le_refl _
    · rw [hv] at e
      by_cases c : w j < v
      · have e' : bestN above found many (j + 1) = some (w j) := e.trans (if_pos c)
        refine .inr ⟨w j, e', ⟨j, by omega, rfl⟩, fun i' hi' => ?_⟩
        by_cases q : i' = j
        · rw [q]
          exact Int.le_refl _
        · have := hm i' (by omega)
          omega
      · have e' : bestN above found many (j + 1) = some v := e.trans (if_neg c)
        refine .inr ⟨v, e', ⟨i, by omega, hvi⟩, fun i' hi' => ?_⟩
        by_cases q : i' = j
        · rw [q]
          omega
        · exact hm i' (by omega)
def lineC (n r : Nat) : List Int := (List.range (n + 1)).map fun m => costN m r
theorem lineC_get {n r j : Nat} (h : j ≤ n) : (lineC n r).getD j 0 = costN j r := by
  unfold lineC
  rw [List.getD_eq_getElem?_getD, List.getElem?_map, List.getElem?_range (by omega)] <;> rfl
theorem next_line {n r : Nat} (h1 : 1 ≤ r) (hr : r < 12) : ∀ k, k ≤ n → n ≤ 100 → nextN (lineC n r) k = lineC k (r + 1)
  | 0, _, _ => by
    show [(0 : Int)] = [costN 0 (r + 1)]
    have o := oft_le (s := 0) (r := r + 1) (by omega) (by omega) (by omega)
    have e : costN 0 (r + 1) = 0 := by
      unfold costN
      rw [if_pos (by omega)]
    rw [e]
  | k + 1, hk, hn => by
    have ih := next_line h1 hr k (by omega) hn
    have e : lineC (k + 1) (r + 1) = lineC k (r + 1) ++ [costN (k + 1) (r + 1)] := by
      unfold lineC
      rw [List.range_succ (n := k + 1), List.map_append] <;> rfl
    show nextN (lineC n r) k ++ [(bestN (lineC n r) (nextN (lineC n r) k) (k + 1) (k + 1)).getD 0] = _
    rw [ih, e]
    have hw : ∀ j, j < k + 1 → ((j : Int) + 1) + (lineC n r).getD (k + 1 - (j + 1)) 0 + (lineC k (r + 1)).getD j 0 = ((j : Int) + 1) + costN (k + 1 - (j + 1)) r + costN j (r + 1) := fun j hj => by
      rw [lineC_get (by omega), lineC_get (by omega)]
    rcases best_min hw (k + 1) (Nat.le_refl _) with ⟨_, h0⟩ | ⟨v, hv, ⟨i, hi, hvi⟩, hm⟩
    · omega
    · rw [hv]
      obtain ⟨m1, m2, m3⟩ := mark_ok (s := k + 1) (r := r) (by omega) (by omega) h1 hr
      have a := hm (markN (k + 1) (r + 1) - 1) (by omega)
      have b := cost_mark (s := k + 1) (r := r) (m := i + 1) (by omega) h1 hr (by omega) (by omega)
      rw [show markN (k + 1) (r + 1) - 1 + 1 = markN (k + 1) (r + 1) by omega] at a
      rw [show i + 1 - 1 = i by omega] at b
      have ev : v = costN (k + 1) (r + 1) := by omega
      rw [ev] <;> rfl
theorem lineK_eq {n : Nat} (hn : n ≤ 100) : ∀ k, k < 12 → lineK n k = lineC n (k + 1)
  | 0, _ => by
    show lineOne n = lineC n 1
    unfold lineOne lineC
    refine List.map_congr_left fun m hm => ?_
    exact (cost_one (by have := List.mem_range.mp hm; omega)).symm
  | k + 1, hk => by
    show nextN (lineK n k) n = lineC n (k + 1 + 1)
    rw [lineK_eq hn k (by omega)]
    exact next_line (by omega) (by omega) n (Nat.le_refl _) hn
end BM

/-! ## Deeds and plans, in plain Lean -/
namespace BM
inductive Deed where
  | keep | meet | take (p : Nat) | drop (p : Nat) | go (n : Nat)
  deriving DecidableEq
def aPre (start steps : Nat) : Nat → List Deed
  | 0 => []
  | i + 1 => aPre start steps i ++ [.go (steps - i), .meet, .take start]
def againN (start steps : Nat) : List Deed := aPre start steps steps ++ [.meet]
def fromN : Nat → Nat → Nat → Nat → List Deed
  | 0, _, _, _ => []
  | k + 1, start, steps, room => if steps = 0 ∨ room = 1 then againN start steps else
      ([.go (markN steps room), .keep] ++ fromN k (start + markN steps room) (steps - markN steps room) (room - 1) ++ [.drop (start + markN steps room), .take start]) ++ fromN k start (markN steps room - 1) room
def planN (steps room : Nat) : List Deed := if steps = 0 then [.meet] else [.keep] ++ fromN 101 0 steps room
def costD1 : Deed → Nat
  | .go n => n
  | _ => 0
def costD (ds : List Deed) : Nat := (ds.map costD1).sum
def mostStep (s : Int × Int) : Deed → Int × Int
  | .keep => (s.1 + 1, max s.2 (s.1 + 1))
  | .drop _ => (s.1 - 1, max s.2 (s.1 - 1))
  | _ => (s.1, max s.2 s.1)
def mostD (ds : List Deed) : Int := (ds.foldl mostStep (0, 0)).2
/-- a hand with its kept places -/
structure WSt where
  pl : Nat
  mks : List Nat
  wa : Int
  co : Nat
  mo : Nat
  deriving DecidableEq
def stepW (n R : Nat) (s : WSt) : Deed → Option WSt
  | .keep => if s.pl ∉ s.mks ∧ s.mks.length < R then some { s with mks := s.mks ++ [s.pl], mo := max s.mo (s.mks.length + 1) } else none
  | .meet => if (s.pl : Int) = s.wa then some { s with wa := s.wa - 1 } else none
  | .go m => if 0 < m ∧ s.pl + m ≤ n then some { s with pl := s.pl + m, co := s.co + m } else none
  | .take p => if p ∈ s.mks then some { s with pl := p } else none
  | .drop p => if p ∈ s.mks then some { s with mks := s.mks.filter (· ≠ p) } else none
def runW (n R : Nat) : List Deed → WSt → Option WSt
  | [], s => some s
  | d :: ds, s => (stepW n R s d).bind (runW n R ds)
theorem ite_some {α : Type} {c : Prop} [Decidable c] {x u : α} (h : (if c then some x else none) = some u) : c ∧ x = u := by
  by_cases q : c
  · rw [if_pos q] at h
    exact ⟨q, Option.some.inj h⟩
  · rw [if_neg q] at h
    cases h
theorem runW_append (n R : Nat) : ∀ (ds es : List Deed) (s : WSt), runW n R (ds ++ es) s = (runW n R ds s).bind (runW n R es)
  | [], _, _ => rfl
  | d :: ds, es, s => by
    show (stepW n R s d).bind (runW n R (ds ++ es)) = ((stepW n R s d).bind (runW n R ds)).bind (runW n R es)
    cases stepW n R s d with
    | none => rfl
    | some t => exact runW_append n R ds es t
theorem costD_append (ds es : List Deed) : costD (ds ++ es) = costD ds + costD es := by
  unfold costD
  rw [List.map_append, List.sum_append]
theorem runW_cost {n R : Nat} : ∀ {ds : List Deed} {s t : WSt}, runW n R ds s = some t → t.co = s.co + costD ds
  | [], s, t, h => by
    have e : s = t := Option.some.inj h
    rw [e]
    show t.co = t.co + 0
    omega
  | d :: ds, s, t, h => by
    have h : (stepW n R s d).bind (runW n R ds) = some t := h
    cases e : stepW n R s d with
    | none => rw [e] at h; cases h
    | some u =>
      rw [e] at h
      have ih := runW_cost (s := u) h
      have e2 : u.co = s.co + costD1 d := by
        cases d with
        | keep => obtain ⟨_, rfl⟩ := ite_some (α := WSt) e; rfl
        | meet => obtain ⟨_, rfl⟩ := ite_some (α := WSt) e; rfl
        | go m => obtain ⟨_, rfl⟩ := ite_some (α := WSt) e; rfl
        | take p => obtain ⟨_, rfl⟩ := ite_some (α := WSt) e; rfl
        | drop p => obtain ⟨_, rfl⟩ := ite_some (α := WSt) e; rfl
      have e3 : costD (d :: ds) = costD1 d + costD ds := by
        unfold costD
        rw [List.map_cons, List.sum_cons]
      omega
theorem filter_len_drop {p : Nat} : ∀ {l : List Nat}, l.Nodup → p ∈ l → (l.filter (· ≠ p)).length + 1 = l.length
  | [], _, h => by cases h
  | x :: r, hn, h => by
    obtain ⟨h1, h2⟩ := List.nodup_cons.mp hn
    by_cases e : x = p
    · subst e
      have q : r.filter (· ≠ x) = r := List.filter_eq_self.mpr fun y hy => decide_eq_true fun z => h1 (z ▸ hy)
      rw [List.filter_cons, if_neg (by simp), q] <;> rfl
    · have hm : p ∈ r := by
        rcases List.mem_cons.mp h with z | z
        · exact absurd z.symm e
        · exact z
      have ih := filter_len_drop h2 hm
      rw [List.filter_cons, if_pos (decide_eq_true e), List.length_cons, List.length_cons]
      omega
theorem nodup_snoc {l : List Nat} {x : Nat} (h : l.Nodup) (hx : x ∉ l) : (l ++ [x]).Nodup := by
  rw [List.nodup_append]
  refine ⟨h, by simp, ?_⟩
  intro a ha b hb
  rw [List.mem_singleton.mp hb]
  rintro rfl
  exact hx ha
/-- the count of the kept ones goes along -/
theorem runW_most {n R : Nat} : ∀ {ds : List Deed} {s t : WSt} {m : Int × Int}, runW n R ds s = some t → s.mks.Nodup → m.1 = (s.mks.length : Int) → m.2 = (s.mo : Int) → s.mks.length ≤ s.mo → (ds.foldl mostStep m).2 = (t.mo : Int)
  | [], s, t, m, h, _, _, h2, _ => by
    have e : s = t := Option.some.inj h
    rw [← e]
    exact h2
  | d :: ds, s, t, m, h, hn, h1, h2, h3 => by
    have h : (stepW n R s d).bind (runW n R ds) = some t := h
    cases e : stepW n R s d with
    | none => rw [e] at h; cases h
    | some u =>
      rw [e] at h
      have key : u.mks.Nodup ∧ (mostStep m d).1 = (u.mks.length : Int) ∧ (mostStep m d).2 = (u.mo : Int) ∧ u.mks.length ≤ u.mo := by
        cases d with
        | keep =>
          obtain ⟨c, rfl⟩ := ite_some (α := WSt) e
          refine ⟨nodup_snoc hn c.1, ?_, ?_, ?_⟩
          · show m.1 + 1 = ((s.mks ++ [s.pl]).length : Int)
            rw [List.length_append, h1] <;> rfl
          · show max m.2 (m.1 + 1) = ((max s.mo (s.mks.length + 1) : Nat) : Int)
            omega
          · show (s.mks ++ [s.pl]).length ≤ max s.mo (s.mks.length + 1)
            rw [List.length_append]
            show s.mks.length + 1 ≤ _
            omega
        | meet =>
          obtain ⟨c, rfl⟩ := ite_some (α := WSt) e
          refine ⟨hn, h1, ?_, h3⟩
          show max m.2 m.1 = (s.mo : Int)
          omega
        | go k =>
          obtain ⟨c, rfl⟩ := ite_some (α := WSt) e
          refine ⟨hn, h1, ?_, h3⟩
          show max m.2 m.1 = (s.mo : Int)
          omega
        | take p =>
          obtain ⟨c, rfl⟩ := ite_some (α := WSt) e
          refine ⟨hn, h1, ?_, h3⟩
          show max m.2 m.1 = (s.mo : Int)
          omega
        | drop p =>
          obtain ⟨c, rfl⟩ := ite_some (α := WSt) e
          have fl := filter_len_drop hn c
          refine ⟨hn.filter _, ?_, ?_, ?_⟩
          · show m.1 - 1 = ((s.mks.filter (· ≠ p)).length : Int)
            omega
          · show max m.2 (m.1 - 1) = (s.mo : Int)
            omega
          · show (s.mks.filter (· ≠ p)).length ≤ s.mo
            omega
      exact runW_most (s := u) (m := mostStep m d) h key.1 key.2.1 key.2.2.1 key.2.2.2
theorem filter_last {M : List Nat} {x : Nat} (hx : x ∉ M) : (M ++ [x]).filter (· ≠ x) = M := by
  rw [List.filter_append, List.filter_cons, if_neg (by simp), List.filter_nil, List.append_nil]
  exact List.filter_eq_self.mpr fun y hy => decide_eq_true fun z => hx (z ▸ hy)
theorem again_run {n R start : Nat} {M : List Nat} {mo : Nat} (hM : start ∈ M) : ∀ steps i co, i ≤ steps → start + steps ≤ n →
    ∃ c, runW n R (aPre start steps i) { pl := start, mks := M, wa := ((start + steps : Nat) : Int), co := co, mo := mo } = some { pl := start, mks := M, wa := ((start + steps : Nat) : Int) - (i : Int), co := c, mo := mo }
  | steps, 0, co, _, _ => ⟨co, by show some _ = some _; simp⟩
  | steps, i + 1, co, hi, hn => by
    obtain ⟨c, ih⟩ := again_run hM steps i co (by omega) hn
    refine ⟨c + (steps - i), ?_⟩
    show runW n R (aPre start steps i ++ [.go (steps - i), .meet, .take start]) _ = _
    rw [runW_append, ih]
    show ((stepW n R _ (.go (steps - i))).bind fun s => (stepW n R s .meet).bind fun s => (stepW n R s (.take start)).bind fun s => some s) = _
    have e1 : stepW n R { pl := start, mks := M, wa := ((start + steps : Nat) : Int) - (i : Int), co := c, mo := mo } (.go (steps - i)) = some { pl := start + (steps - i), mks := M, wa := ((start + steps : Nat) : Int) - (i : Int), co := c + (steps - i), mo := mo } := by
      show (if 0 < steps - i ∧ start + (steps - i) ≤ n then _ else _) = _
      rw [if_pos ⟨by omega, by omega⟩]
    have e2 : stepW n R { pl := start + (steps - i), mks := M, wa := ((start + steps : Nat) : Int) - (i : Int), co := c + (steps - i), mo := mo } .meet = some { pl := start + (steps - i), mks := M, wa := ((start + steps : Nat) : Int) - (i : Int) - 1, co := c + (steps - i), mo := mo } := by
      show (if ((start + (steps - i) : Nat) : Int) = ((start + steps : Nat) : Int) - (i : Int) then _ else _) = _
      rw [if_pos (by omega)]
    have e3 : stepW n R { pl := start + (steps - i), mks := M, wa := ((start + steps : Nat) : Int) - (i : Int) - 1, co := c + (steps - i), mo := mo } (.take start) = some { pl := start, mks := M, wa := ((start + steps : Nat) : Int) - (i : Int) - 1, co := c + (steps - i), mo := mo } := if_pos hM
    rw [e1]
    show ((stepW n R _ .meet).bind _) = _
    rw [e2]
    show ((stepW n R _ (.take start)).bind _) = _
    rw [e3]
    show some _ = some _
    congr 2
    omega
theorem aPre_cost (start steps : Nat) : ∀ i, i ≤ steps → (2 * costD (aPre start steps i) : Nat) + i * i = i * (2 * steps + 1)
  | 0, _ => by
    show 2 * 0 + 0 * 0 = 0 * (2 * steps + 1)
    simp
  | i + 1, h => by
    have ih := aPre_cost start steps i (by omega)
    have e : costD (aPre start steps (i + 1)) = costD (aPre start steps i) + (steps - i) := by
      show costD (aPre start steps i ++ [.go (steps - i), .meet, .take start]) = _
      rw [costD_append]
      show _ + ((steps - i) + (0 + (0 + 0))) = _
      omega
    rw [e]
    have q1 : (i + 1) * (i + 1) = i * i + 2 * i + 1 := by
      rw [Nat.add_mul, Nat.mul_add, Nat.one_mul, Nat.mul_one]
      omega
    have q2 : (i + 1) * (2 * steps + 1) = i * (2 * steps + 1) + 2 * steps + 1 := by
      rw [Nat.add_mul, Nat.one_mul]
      omega
    omega
theorem again_cost {start steps : Nat} (hs : steps ≤ 100) : (costD (againN start steps) : Int) = costN steps 1 := by
  rw [cost_one hs]
  unfold againN
  have h := aPre_cost start steps steps (Nat.le_refl _)
  rw [costD_append]
  have e : costD [Deed.meet] = 0 := rfl
  rw [e]
  have q : steps * (2 * steps + 1) = 2 * (steps * steps) + steps := by
    rw [Nat.mul_add, Nat.mul_one, Nat.mul_left_comm]
  have q2 : (steps : Int) * ((steps : Int) + 1) = ((steps * steps + steps : Nat) : Int) := by
    rw [Int.mul_add, Int.mul_one, Int.natCast_add, Int.natCast_mul]
  rw [q2]
  omega
/-- the plan's deeds from a kept place on: all from the end down to it are met, and what was kept is kept -/
theorem from_run {n R : Nat} : ∀ k start steps room (M : List Nat) (co mo : Nat), steps < k → 1 ≤ room → room ≤ 12 → steps ≤ 100 → start + steps ≤ n → start ∈ M → (∀ x ∈ M, x ≤ start) → M.length + room ≤ R + 1 →
    ∃ c m, runW n R (fromN k start steps room) { pl := start, mks := M, wa := ((start + steps : Nat) : Int), co := co, mo := mo } = some { pl := start, mks := M, wa := (start : Int) - 1, co := c, mo := m }
  | 0, _, steps, _, _, _, _, h, _, _, _, _, _, _, _ => by omega
  | k + 1, start, steps, room, M, co, mo, hk, h1, h2, h3, h4, hM, hU, hR => by
    by_cases c : steps = 0 ∨ room = 1
    · obtain ⟨c', e⟩ := again_run (n := n) (R := R) (mo := mo) hM steps steps co (Nat.le_refl _) h4
      refine ⟨c', mo, ?_⟩
      show runW n R (if steps = 0 ∨ room = 1 then againN start steps else _) _ = _
      rw [if_pos c]
      unfold againN
      rw [runW_append, e]
      show (stepW n R _ .meet).bind (fun s => some s) = _
      have e2 : stepW n R { pl := start, mks := M, wa := ((start + steps : Nat) : Int) - (steps : Int), co := c', mo := mo } .meet = some { pl := start, mks := M, wa := ((start + steps : Nat) : Int) - (steps : Int) - 1, co := c', mo := mo } := by
        show (if ((start : Nat) : Int) = ((start + steps : Nat) : Int) - (steps : Int) then _ else _) = _
        rw [if_pos (by omega)]
      rw [e2]
      show some _ = some _
      congr 2
      omega
    · obtain ⟨m1, m2, _⟩ := mark_ok (s := steps) (r := room - 1) h3 (by omega) (by omega) (by omega)
      rw [show room - 1 + 1 = room by omega] at m1 m2
      have hx : start + markN steps room ∉ M := fun z => by
        have := hU _ z
        omega
      show ∃ c m, runW n R (if steps = 0 ∨ room = 1 then againN start steps else _) _ = _
      rw [if_neg c]
      obtain ⟨c1, q1, e1⟩ := from_run (n := n) (R := R) k (start + markN steps room) (steps - markN steps room) (room - 1) (M ++ [start + markN steps room]) (co + markN steps room) (max mo (M.length + 1)) (by omega) (by omega) (by omega) (by omega) (by omega) (by simp) (fun x hx => by
        rcases List.mem_append.mp hx with z | z
        · have := hU x z
          omega
        · rw [List.mem_singleton.mp z]
          exact Nat.le_refl _) (by rw [List.length_append]; show M.length + 1 + (room - 1) ≤ R + 1; omega)
      obtain ⟨c2, q2, e2⟩ := from_run (n := n) (R := R) k start (markN steps room - 1) room M c1 q1 (by omega) h1 h2 (by omega) (by omega) hM hU hR
      refine ⟨c2, q2, ?_⟩
      rw [List.append_assoc, List.append_assoc, runW_append]
      have s1 : runW n R [.go (markN steps room), .keep] { pl := start, mks := M, wa := ((start + steps : Nat) : Int), co := co, mo := mo } = some { pl := start + markN steps room, mks := M ++ [start + markN steps room], wa := ((start + steps : Nat) : Int), co := co + markN steps room, mo := max mo (M.length + 1) } := by
        show (stepW n R _ (.go (markN steps room))).bind (fun s => (stepW n R s .keep).bind fun s => some s) = _
        have a1 : stepW n R { pl := start, mks := M, wa := ((start + steps : Nat) : Int), co := co, mo := mo } (.go (markN steps room)) = some { pl := start + markN steps room, mks := M, wa := ((start + steps : Nat) : Int), co := co + markN steps room, mo := mo } := if_pos ⟨by omega, by show start + markN steps room ≤ n; omega⟩
        have a2 : stepW n R { pl := start + markN steps room, mks := M, wa := ((start + steps : Nat) : Int), co := co + markN steps room, mo := mo } .keep = some { pl := start + markN steps room, mks := M ++ [start + markN steps room], wa := ((start + steps : Nat) : Int), co := co + markN steps room, mo := max mo (M.length + 1) } := if_pos ⟨hx, by show M.length < R; omega⟩
        rw [a1]
        show (stepW n R _ .keep).bind _ = _
        rw [a2] <;> rfl
      rw [s1]
      show runW n R (fromN k (start + markN steps room) (steps - markN steps room) (room - 1) ++ ([.drop (start + markN steps room), .take start] ++ fromN k start (markN steps room - 1) room)) _ = _
      rw [runW_append]
      rw [show ((start + markN steps room + (steps - markN steps room) : Nat) : Int) = ((start + steps : Nat) : Int) by omega] at e1
      rw [e1]
      show runW n R ([.drop (start + markN steps room), .take start] ++ fromN k start (markN steps room - 1) room) _ = _
      rw [runW_append]
      have s2 : runW n R [.drop (start + markN steps room), .take start] { pl := start + markN steps room, mks := M ++ [start + markN steps room], wa := ((start + markN steps room : Nat) : Int) - 1, co := c1, mo := q1 } = some { pl := start, mks := M, wa := ((start + markN steps room : Nat) : Int) - 1, co := c1, mo := q1 } := by
        show (stepW n R _ (.drop (start + markN steps room))).bind (fun s => (stepW n R s (.take start)).bind fun s => some s) = _
        have a1 : stepW n R { pl := start + markN steps room, mks := M ++ [start + markN steps room], wa := ((start + markN steps room : Nat) : Int) - 1, co := c1, mo := q1 } (.drop (start + markN steps room)) = some { pl := start + markN steps room, mks := M, wa := ((start + markN steps room : Nat) : Int) - 1, co := c1, mo := q1 } := by
          show (if _ then _ else _) = _
          rw [if_pos (by simp), filter_last hx]
        have a2 : stepW n R { pl := start + markN steps room, mks := M, wa := ((start + markN steps room : Nat) : Int) - 1, co := c1, mo := q1 } (.take start) = some { pl := start, mks := M, wa := ((start + markN steps room : Nat) : Int) - 1, co := c1, mo := q1 } := if_pos hM
        rw [a1]
        show (stepW n R _ (.take start)).bind _ = _
        rw [a2] <;> rfl
      rw [s2]
      show runW n R (fromN k start (markN steps room - 1) room) _ = _
      rw [show ((start + markN steps room : Nat) : Int) - 1 = ((start + (markN steps room - 1) : Nat) : Int) by omega]
      exact e2
theorem from_cost : ∀ k start steps room, steps < k → 1 ≤ room → room ≤ 12 → steps ≤ 100 → (costD (fromN k start steps room) : Int) = costN steps room
  | 0, _, steps, _, h, _, _, _ => by omega
  | k + 1, start, steps, room, hk, h1, h2, h3 => by
    show (costD (if steps = 0 ∨ room = 1 then againN start steps else _) : Int) = _
    by_cases c : steps = 0 ∨ room = 1
    · rw [if_pos c, again_cost h3]
      rcases c with c | c
      · have z : ∀ r, 1 ≤ r → r ≤ 12 → costN 0 r = 0 := fun r q1 q2 => by
          have o := oft_le (s := 0) (r := r) (by omega) q1 (by omega)
          unfold costN
          rw [if_pos (by omega)]
        rw [c, z 1 (by omega) (by omega), z room h1 h2]
      · rw [c]
    · rw [if_neg c]
      obtain ⟨m1, m2, m3⟩ := mark_ok (s := steps) (r := room - 1) h3 (by omega) (by omega) (by omega)
      rw [show room - 1 + 1 = room by omega] at m1 m2 m3
      have i1 := from_cost k (start + markN steps room) (steps - markN steps room) (room - 1) (by omega) (by omega) (by omega) (by omega)
      have i2 := from_cost k start (markN steps room - 1) room (by omega) h1 h2 (by omega)
      rw [costD_append, costD_append, costD_append]
      have a : costD [Deed.go (markN steps room), Deed.keep] = markN steps room := rfl
      have b : costD [Deed.drop (start + markN steps room), Deed.take start] = 0 := rfl
      rw [a, b, m3, Int.natCast_add, Int.natCast_add, Int.natCast_add, i1, i2]
      omega
def wst0 (n : Nat) : WSt := { pl := 0, mks := [], wa := (n : Int), co := 0, mo := 0 }
/-- the plan meets all, at the least cost -/
theorem plan_run {s r : Nat} (hs : s ≤ 100) (h1 : 1 ≤ r) (h2 : r ≤ 12) : ∃ t, runW s r (planN s r) (wst0 s) = some t ∧ t.wa = -1 ∧ (t.co : Int) = costN s r ∧ t.pl = 0 := by
  unfold planN
  by_cases c : s = 0
  · rw [if_pos c]
    have o := oft_le (s := 0) (r := r) (by omega) h1 (by omega)
    have z : costN 0 r = 0 := by
      unfold costN
      rw [if_pos (by omega)]
    rw [c, z]
    exact ⟨{ pl := 0, mks := [], wa := -1, co := 0, mo := 0 }, rfl, rfl, rfl, rfl⟩
  · rw [if_neg c, runW_append]
    have a : runW s r [.keep] (wst0 s) = some { pl := 0, mks := [0], wa := (s : Int), co := 0, mo := 1 } := by
      show (stepW s r (wst0 s) .keep).bind (fun s => some s) = _
      have : stepW s r (wst0 s) .keep = some { pl := 0, mks := [0], wa := (s : Int), co := 0, mo := 1 } := if_pos ⟨by simp [wst0], by show 0 < r; omega⟩
      rw [this] <;> rfl
    obtain ⟨c', m, e⟩ := from_run (n := s) (R := r) 101 0 s r [0] 0 1 (by omega) h1 h2 hs (by omega) (by simp) (fun x hx => by rw [List.mem_singleton.mp hx]; exact Nat.le_refl _) (by show 1 + r ≤ r + 1; omega)
    rw [Nat.zero_add] at e
    refine ⟨_, by rw [a]; exact e, rfl, ?_, rfl⟩
    have q := runW_cost e
    have fc := from_cost 101 0 s r (by omega) h1 h2 hs
    show (c' : Int) = _
    have q' : c' = 0 + costD (fromN 101 0 s r) := q
    rw [q', Nat.zero_add]
    exact fc
end BM

/-! ## Deeds as they stand in memory -/
namespace BM
open PySem PySem.Spec PyProof.Rows L2
def Deed.word : Deed → Str
  | .keep => "keep"
  | .meet => "meet"
  | .take _ => "take"
  | .drop _ => "drop"
  | .go _ => "go"
def Deed.vs : Deed → List V
  | .keep => [.str "keep"]
  | .meet => [.str "meet"]
  | .take p => [.str "take", .int (p : Int)]
  | .drop p => [.str "drop", .int (p : Int)]
  | .go n => [.str "go", .int (n : Int)]
theorem Deed.at0 (d : Deed) : atI d.vs 0 = some (.str d.word) := by cases d <;> rfl
def DS (H : Hp) (ps : List (Addr × Deed)) : Prop := ∀ q ∈ ps, H q.1 = some (.tup q.2.vs)
def refs (ps : List (Addr × Deed)) : List V := ps.map fun q => V.ref q.1
theorem DS.same {H H' : Hp} {ps : List (Addr × Deed)} (e : Same H H') (h : DS H ps) : DS H' ps := fun q hq => e _ _ (h q hq)
theorem DS.append {H : Hp} {ps qs : List (Addr × Deed)} (h : DS H ps) (h' : DS H qs) : DS H (ps ++ qs) := fun q hq => (List.mem_append.mp hq).elim (h q) (h' q)
theorem refs_append (ps qs : List (Addr × Deed)) : refs (ps ++ qs) = refs ps ++ refs qs := List.map_append
theorem refs_len (ps : List (Addr × Deed)) : (refs ps).length = ps.length := List.length_map ..
/-- a new list of deeds is told -/
def RetD (H : Hp) (ds : List Deed) (Q : VK) : Prop := ∀ (p : Addr) (H' : Hp) (ps : List (Addr × Deed)), H p = none → Same H H' → ps.map (·.2) = ds → H' p = some (.lst (refs ps)) → DS H' ps → Q (.ref p) H'
theorem len_of {ps : List (Addr × Deed)} {ds : List Deed} (h : ps.map (·.2) = ds) : ps.length = ds.length := by rw [← h, List.length_map]
theorem aPre_len (start steps : Nat) : ∀ i, (aPre start steps i).length = 3 * i
  | 0 => rfl
  | i + 1 => by
    show (aPre start steps i ++ _).length = _
    rw [List.length_append, aPre_len start steps i]
    show 3 * i + 3 = _
    omega
theorem again_len (start steps : Nat) : (againN start steps).length = 3 * steps + 1 := by
  unfold againN
  rw [List.length_append, aPre_len] <;> rfl
theorem from_len : ∀ k a steps room, steps < k → 1 ≤ room → room ≤ 12 → steps ≤ 100 → (fromN k a steps room).length ≤ 5 * steps + 1
  | 0, _, steps, _, h, _, _, _ => by omega
  | k + 1, a, steps, room, hk, h1, h2, h3 => by
    show (if steps = 0 ∨ room = 1 then againN a steps else _).length ≤ _
    by_cases c : steps = 0 ∨ room = 1
    · rw [if_pos c, again_len]
      omega
    · rw [if_neg c]
      obtain ⟨m1, m2, _⟩ := mark_ok (s := steps) (r := room - 1) h3 (by omega) (by omega) (by omega)
      rw [show room - 1 + 1 = room by omega] at m1 m2
      have i1 := from_len k (a + markN steps room) (steps - markN steps room) (room - 1) (by omega) (by omega) (by omega) (by omega)
      have i2 := from_len k a (markN steps room - 1) room (by omega) h1 h2 (by omega)
      simp only [List.length_append, List.length_cons, List.length_nil]
      omega
theorem plan_len {s r : Nat} (hs : s ≤ 100) (h1 : 1 ≤ r) (h2 : r ≤ 12) : (planN s r).length ≤ 600 := by
  unfold planN
  by_cases c : s = 0
  · rw [if_pos c]
    show 1 ≤ 600
    omega
  · rw [if_neg c, List.length_append]
    have := from_len 101 0 s r (by omega) h1 h2 hs
    show 1 + _ ≤ 600
    omega
def goes : List Deed → List Int
  | [] => []
  | .go n :: ds => (n : Int) :: goes ds
  | _ :: ds => goes ds
theorem goes_snoc : ∀ (ds : List Deed) (d : Deed), goes (ds ++ [d]) = goes ds ++ (match d with | .go n => [(n : Int)] | _ => [])
  | [], d => by cases d <;> rfl
  | e :: ds, d => by
    have ih := goes_snoc ds d
    cases e with
    | go n =>
      show (n : Int) :: goes (ds ++ [d]) = (n : Int) :: goes ds ++ _
      rw [ih] <;> rfl
    | keep => exact ih
    | meet => exact ih
    | take _ => exact ih
    | drop _ => exact ih
theorem goes_sum : ∀ ds : List Deed, (goes ds).sum = (costD ds : Int)
  | [] => rfl
  | e :: ds => by
    have ih := goes_sum ds
    have c : costD (e :: ds) = costD1 e + costD ds := by
      unfold costD
      rw [List.map_cons, List.sum_cons]
    rw [c]
    cases e with
    | go n =>
      show ((n : Int) :: goes ds).sum = ((n + costD ds : Nat) : Int)
      rw [List.sum_cons, ih, Int.natCast_add]
    | keep => show (goes ds).sum = ((0 + costD ds : Nat) : Int); rw [Nat.zero_add]; exact ih
    | meet => show (goes ds).sum = ((0 + costD ds : Nat) : Int); rw [Nat.zero_add]; exact ih
    | take _ => show (goes ds).sum = ((0 + costD ds : Nat) : Int); rw [Nat.zero_add]; exact ih
    | drop _ => show (goes ds).sum = ((0 + costD ds : Nat) : Int); rw [Nat.zero_add]; exact ih
theorem goes_len : ∀ ds : List Deed, (goes ds).length ≤ ds.length
  | [] => Nat.le_refl _
  | e :: ds => by
    have ih := goes_len ds
    cases e with
    | go n => exact Nat.succ_le_succ ih
    | keep => exact Nat.le_succ_of_le ih
    | meet => exact Nat.le_succ_of_le ih
    | take _ => exact Nat.le_succ_of_le ih
    | drop _ => exact Nat.le_succ_of_le ih
theorem max_if (a b : Int) : (if b > a then b else a) = max a b := by
  by_cases h : b > a
  · rw [if_pos h]; omega
  · rw [if_neg h]; omega
end BM

/-! ## Rules and things, as they stand in memory -/
namespace BM
open PySem PySem.Spec PyProof.Rows L2
inductive Rule where
  | add (k : Nat) | times (k : Nat) | square | half
def Rule.word : Rule → Str
  | .add _ => "add"
  | .times _ => "times"
  | .square => "square"
  | .half => "half"
def Rule.vs : Rule → List V
  | .add k => [.str "add", .int (k : Int)]
  | .times k => [.str "times", .int (k : Int)]
  | .square => [.str "square"]
  | .half => [.str "half"]
def Rule.ok : Rule → Prop
  | .add k => k < 999983
  | .times k => k < 999983
  | _ => True
theorem Rule.at0 (r : Rule) : atI r.vs 0 = some (.str r.word) := by cases r <;> rfl
def forthN : Rule → Nat → Nat
  | .add k, s => (s + k) % 999983
  | .times k, s => s * k % 999983
  | .square, s => s * s % 999983
  | .half, s => s / 2
theorem forthN_lt (r : Rule) {s : Nat} (h : s < 999983) : forthN r s < 999983 := by
  cases r with
  | add k => exact Nat.mod_lt _ (by decide)
  | times k => exact Nat.mod_lt _ (by decide)
  | square => exact Nat.mod_lt _ (by decide)
  | half =>
    show s / 2 < 999983
    omega
/-- a thing, and whether it is a rule -/
inductive RuleTh (K : PySem.W.Frag) (H : Hp) : V → Bool → Prop where
  | ntup {x : V} {t : Value} (ty : TyX K H x t) (ni : PySem.W.kitOne K t (.type "tuple") = some false) : RuleTh K H x false
  | nil {q : Addr} (h : H q = some (.tup [])) : RuleTh K H (.ref q) false
  | nstr {q : Addr} {v : V} {r : List V} {t : Value} (h : H q = some (.tup (v :: r))) (ty : TyX K H v t) (ni : PySem.W.kitOne K t (.type "str") = some false) : RuleTh K H (.ref q) false
  | two {q : Addr} {w : Str} {r : List V} (h : H q = some (.tup (.str w :: r))) (hw : w = "add" ∨ w = "times") (hl : r.length ≠ 1) : RuleTh K H (.ref q) false
  | num {q : Addr} {w : Str} {v : V} {o : Option Int} (h : H q = some (.tup [.str w, v])) (hw : w = "add" ∨ w = "times") (th : Thg K H v o) : RuleTh K H (.ref q) (among o 0 999982)
  | one {q : Addr} {w : Str} {r : List V} {b : Bool} (h : H q = some (.tup (.str w :: r))) (h1 : w ≠ "add") (h2 : w ≠ "times") (hb : b = (decide (r = []) && (decide (w = "square") || decide (w = "half")))) : RuleTh K H (.ref q) b
theorem RuleTh.same {K : PySem.W.Frag} {H H' : Hp} {x : V} {b : Bool} (e : Same H H') (h : RuleTh K H x b) : RuleTh K H' x b := by
  cases h with
  | ntup ty ni => exact .ntup (tyX_same e ty) ni
  | nil h => exact .nil (e _ _ h)
  | nstr h ty ni => exact .nstr (e _ _ h) (tyX_same e ty) ni
  | two h hw hl => exact .two (e _ _ h) hw hl
  | num h hw th => exact .num (e _ _ h) hw (th.same e)
  | one h h1 h2 hb => exact .one (e _ _ h) h1 h2 hb
theorem Rule.th {K : PySem.W.Frag} {H : Hp} {q : Addr} (r : Rule) (ok : r.ok) (h : H q = some (.tup r.vs)) : RuleTh K H (.ref q) true := by
  cases r with
  | add k =>
    have e : among (some (k : Int)) 0 999982 = true := by
      have h : k < 999983 := ok
      show (decide ((0 : Int) ≤ (k : Int)) && decide ((k : Int) ≤ 999982)) = true
      simp only [Bool.and_eq_true, decide_eq_true_eq]
      omega
    rw [← e]
    exact .num h (.inl rfl) (.int _)
  | times k =>
    have e : among (some (k : Int)) 0 999982 = true := by
      have h : k < 999983 := ok
      show (decide ((0 : Int) ≤ (k : Int)) && decide ((k : Int) ≤ 999982)) = true
      simp only [Bool.and_eq_true, decide_eq_true_eq]
      omega
    rw [← e]
    exact .num h (.inr rfl) (.int _)
  | square => exact .one h (by decide +kernel) (by decide +kernel) (by decide +kernel)
  | half => exact .one h (by decide +kernel) (by decide +kernel) (by decide +kernel)
/-- a new rule is told -/
def RetR (H : Hp) (Q : VK) : Prop := ∀ (r : Rule) (p : Addr) (H' : Hp), r.ok → H p = none → Same H H' → H' p = some (.tup r.vs) → Q (.ref p) H'
end BM

/-! ## Walkers: what they are between two deeds -/
namespace BM
open PySem PySem.Spec PyProof.Rows L2
def lastN (s : Nat) (rs : List Rule) : Nat := rs.foldl (fun s r => forthN r s) s
theorem lastN_lt {rs : List Rule} : ∀ {s : Nat}, s < 999983 → lastN s rs < 999983 := by
  induction rs with
  | nil => intro s h; exact h
  | cons r rs ih => intro s h; exact ih (forthN_lt r h)
theorem lastN_snoc (s : Nat) (rs : List Rule) (r : Rule) : lastN s (rs ++ [r]) = forthN r (lastN s rs) := by
  unfold lastN
  rw [List.foldl_append] <;> rfl
theorem lastN_append (s : Nat) (rs qs : List Rule) : lastN s (rs ++ qs) = lastN (lastN s rs) qs := by
  unfold lastN
  rw [List.foldl_append]
structure WK where
  pl : Nat
  st : Nat
  dn : Nat
  wa : Option Nat
  mks : List (Nat × Nat)
  sn : List Nat
def waI : Option Nat → Int
  | none => -1
  | some n => (n : Int)
def oW : Option Nat → V
  | none => .non
  | some n => .int (n : Int)
def stOf (ms : List (Nat × Nat)) (p : Nat) : Option Nat := (ms.find? fun q => q.1 == p).map (·.2)
/-- what a deed does; which class refuses it (by its number among the eight) -/
def stepK (rs : List Rule) (R : Nat) (w : WK) : Deed → Except Nat WK
  | .keep => if (stOf w.mks w.pl).isSome = true then .error 4 else if w.mks.length = R then .error 3 else .ok { w with mks := w.mks ++ [(w.pl, w.st)] }
  | .meet => if some w.pl = w.wa then .ok { w with sn := w.sn ++ [w.st], wa := if w.pl = 0 then none else some (w.pl - 1) } else .error 7
  | .go m => if w.pl + m > rs.length then .error 6 else .ok { w with pl := w.pl + m, st := lastN w.st ((rs.drop w.pl).take m), dn := w.dn + m }
  | .take p => match stOf w.mks p with | none => .error 5 | some s => .ok { w with pl := p, st := s }
  | .drop p => match stOf w.mks p with | none => .error 5 | some _ => .ok { w with mks := w.mks.filter fun q => q.1 != p }
def wk0 (f n : Nat) : WK := { pl := 0, st := f, dn := 0, wa := some n, mks := [], sn := [] }
/-- places and states within their bounds -/
structure WK.Ok (n : Nat) (w : WK) : Prop where
  pl : w.pl ≤ n
  st : w.st < 999983
  mo : ∀ q ∈ w.mks, q.1 ≤ n ∧ q.2 < 999983
  nd : (w.mks.map (·.1)).Nodup
  wa : ∀ m, w.wa = some m → m ≤ n
theorem stOf_mem {ms : List (Nat × Nat)} {p s : Nat} (h : stOf ms p = some s) : (p, s) ∈ ms := by
  unfold stOf at h
  cases e : ms.find? fun q => q.1 == p with
  | none => rw [e] at h; cases h
  | some q =>
    rw [e] at h
    have e1 : q.2 = s := Option.some.inj h
    have e2 : q.1 = p := by simpa using List.find?_some e
    rw [← e1, ← e2]
    exact List.mem_of_find?_eq_some e
theorem stOf_none {ms : List (Nat × Nat)} {p : Nat} (h : stOf ms p = none) : p ∉ ms.map (·.1) := by
  unfold stOf at h
  cases e : ms.find? fun q => q.1 == p with
  | none =>
    intro m
    obtain ⟨q, hq, rfl⟩ := List.mem_map.mp m
    have := List.find?_eq_none.mp e q hq
    simp at this
  | some q => rw [e] at h; cases h
theorem WK.Ok.step {rs : List Rule} {R : Nat} {w v : WK} {d : Deed} (o : w.Ok rs.length) (h : stepK rs R w d = .ok v) : v.Ok rs.length := by
  cases d with
  | keep =>
    have h : (if (stOf w.mks w.pl).isSome = true then Except.error 4 else if w.mks.length = R then .error 3 else .ok { w with mks := w.mks ++ [(w.pl, w.st)] }) = Except.ok v := h
    by_cases c : (stOf w.mks w.pl).isSome = true
    · rw [if_pos c] at h; cases h
    · rw [if_neg c] at h
      by_cases c2 : w.mks.length = R
      · rw [if_pos c2] at h; cases h
      · rw [if_neg c2] at h
        cases h
        have hn : stOf w.mks w.pl = none := by
          cases e : stOf w.mks w.pl with
          | none => rfl
          | some _ => rw [e] at c; exact absurd rfl c
        refine ⟨o.pl, o.st, fun q hq => ?_, ?_, o.wa⟩
        · rcases List.mem_append.mp hq with z | z
          · exact o.mo q z
          · rw [List.mem_singleton.mp z]
            exact ⟨o.pl, o.st⟩
        · show ((w.mks ++ [(w.pl, w.st)]).map (·.1)).Nodup
          rw [List.map_append, List.nodup_append]
          refine ⟨o.nd, by simp, ?_⟩
          intro a ha b hb
          have hb' : b = w.pl := by simpa using hb
          rw [hb']
          rintro rfl
          exact stOf_none hn ha
  | meet =>
    have h : (if some w.pl = w.wa then Except.ok { w with sn := w.sn ++ [w.st], wa := if w.pl = 0 then none else some (w.pl - 1) } else .error 7) = Except.ok v := h
    by_cases c : some w.pl = w.wa
    · rw [if_pos c] at h
      cases h
      refine ⟨o.pl, o.st, o.mo, o.nd, fun m hm => ?_⟩
      have hm : (if w.pl = 0 then none else some (w.pl - 1)) = some m := hm
      by_cases z : w.pl = 0
      · rw [if_pos z] at hm; cases hm
      · rw [if_neg z] at hm
        have := Option.some.inj hm
        have := o.pl
        omega
    · rw [if_neg c] at h; cases h
  | go m =>
    have h : (if w.pl + m > rs.length then Except.error 6 else .ok { w with pl := w.pl + m, st := lastN w.st ((rs.drop w.pl).take m), dn := w.dn + m }) = Except.ok v := h
    by_cases c : w.pl + m > rs.length
    · rw [if_pos c] at h; cases h
    · rw [if_neg c] at h
      cases h
      exact ⟨by show w.pl + m ≤ rs.length; omega, lastN_lt o.st, o.mo, o.nd, o.wa⟩
  | take p =>
    have h : (match stOf w.mks p with | none => Except.error 5 | some s => .ok { w with pl := p, st := s }) = Except.ok v := h
    cases e : stOf w.mks p with
    | none => rw [e] at h; cases h
    | some s =>
      rw [e] at h
      cases h
      have := o.mo _ (stOf_mem e)
      exact ⟨this.1, this.2, o.mo, o.nd, o.wa⟩
  | drop p =>
    have h : (match stOf w.mks p with | none => Except.error 5 | some _ => .ok { w with mks := w.mks.filter fun q => q.1 != p }) = Except.ok v := h
    cases e : stOf w.mks p with
    | none => rw [e] at h; cases h
    | some s =>
      rw [e] at h
      cases h
      refine ⟨o.pl, o.st, fun q hq => o.mo q (List.mem_filter.mp hq).1, ?_, o.wa⟩
      exact o.nd.sublist (List.Sublist.map _ List.filter_sublist)
/-! ### in memory -/
def mkK (ms : List (Nat × Nat)) : List (Key × V) := ms.map fun (q : Nat × Nat) => ((Sum.inl (q.1 : Int) : Key), V.int (q.2 : Int))
theorem mkK_len (ms : List (Nat × Nat)) : (mkK ms).length = ms.length := List.length_map ..
theorem mkK_val : ∀ (ms : List (Nat × Nat)) (p : Nat), valV (mkK ms) (Sum.inl (p : Int) : Key) = (stOf ms p).map fun s => V.int (s : Int)
  | [], _ => rfl
  | q :: ms, p => by
    have ih := mkK_val ms p
    by_cases e : q.1 = p
    · have e1 : stOf (q :: ms) p = some q.2 := by
        unfold stOf
        rw [List.find?_cons, e, beq_self_eq_true] <;> rfl
      rw [e1]
      exact valV_pos (p := ((Sum.inl (q.1 : Int) : Key), V.int (q.2 : Int))) (by show (Sum.inl (q.1 : Int) : Key) = Sum.inl (p : Int); rw [e])
    · have e1 : stOf (q :: ms) p = stOf ms p := by
        unfold stOf
        rw [List.find?_cons, beq_false_of_ne e]
      rw [e1, ← ih]
      exact valV_neg (p := ((Sum.inl (q.1 : Int) : Key), V.int (q.2 : Int))) (fun z : (Sum.inl (q.1 : Int) : Key) = Sum.inl (p : Int) => e (by have := Sum.inl.inj z; omega))
theorem mkK_put {ms : List (Nat × Nat)} {p s : Nat} (h : stOf ms p = none) : putK (mkK ms) (Sum.inl (p : Int) : Key) (.int (s : Int)) = mkK (ms ++ [(p, s)]) := by
  rw [putK_new _ (by rw [mkK_val, h] <;> rfl)]
  unfold mkK
  rw [List.map_append] <;> rfl
theorem mkK_drop (p : Nat) : ∀ ms : List (Nat × Nat), dropK (mkK ms) (Sum.inl (p : Int) : Key) = mkK (ms.filter fun q => q.1 != p)
  | [] => rfl
  | q :: ms => by
    have ih := mkK_drop p ms
    show dropK (((Sum.inl (q.1 : Int) : Key), V.int (q.2 : Int)) :: mkK ms) _ = _
    by_cases e : q.1 = p
    · rw [dropK_pos (by show (Sum.inl (q.1 : Int) : Key) = Sum.inl (p : Int); rw [e]), ih, List.filter_cons, if_neg (by rw [e]; simp)]
    · rw [dropK_neg (fun z : (Sum.inl (q.1 : Int) : Key) = Sum.inl (p : Int) => e (by have := Sum.inl.inj z; omega)), ih, List.filter_cons, if_pos (by simpa using e)] <;> rfl
def refsR (rs : List (Addr × Rule)) : List V := rs.map fun q => V.ref q.1
def RS (H : Hp) (rs : List (Addr × Rule)) : Prop := ∀ q ∈ rs, H q.1 = some (.tup q.2.vs) ∧ q.2.ok
theorem RS.same {H H' : Hp} {rs : List (Addr × Rule)} (e : Same H H') (h : RS H rs) : RS H' rs := fun q hq => ⟨e _ _ (h q hq).1, (h q hq).2⟩
theorem refsR_len (rs : List (Addr × Rule)) : (refsR rs).length = rs.length := List.length_map ..
def wF (rl : Addr) (room pl st dn : Int) (wa : V) (mk sn : Addr) : List (Str × V) :=
  [("rules", .ref rl), ("room", .int room), ("place", .int pl), ("state", .int st), ("done", .int dn), ("wanted", wa), ("marks", .ref mk), ("seen", .ref sn)]
section
variable (rl : Addr) (room pl st dn x : Int) (wa v : V) (mk sn : Addr)
theorem wF_rules : (wF rl room pl st dn wa mk sn).lookup ("rules" : Str) = some (V.ref rl) := by kernel_rfl
theorem wF_room : (wF rl room pl st dn wa mk sn).lookup ("room" : Str) = some (V.int room) := by kernel_rfl
theorem wF_place : (wF rl room pl st dn wa mk sn).lookup ("place" : Str) = some (V.int pl) := by kernel_rfl
theorem wF_state : (wF rl room pl st dn wa mk sn).lookup ("state" : Str) = some (V.int st) := by kernel_rfl
theorem wF_done : (wF rl room pl st dn wa mk sn).lookup ("done" : Str) = some (V.int dn) := by kernel_rfl
theorem wF_wanted : (wF rl room pl st dn wa mk sn).lookup ("wanted" : Str) = some wa := by kernel_rfl
theorem wF_marks : (wF rl room pl st dn wa mk sn).lookup ("marks" : Str) = some (V.ref mk) := by kernel_rfl
theorem wF_seen : (wF rl room pl st dn wa mk sn).lookup ("seen" : Str) = some (V.ref sn) := by kernel_rfl
theorem wF_do : (wF rl room pl st dn wa mk sn).lookup ("do" : Str) = none := by kernel_rfl
theorem wF_keep : (wF rl room pl st dn wa mk sn).lookup ("keep" : Str) = none := by kernel_rfl
theorem wF_go : (wF rl room pl st dn wa mk sn).lookup ("go" : Str) = none := by kernel_rfl
theorem wF_meet : (wF rl room pl st dn wa mk sn).lookup ("meet" : Str) = none := by kernel_rfl
theorem wF_kept : (wF rl room pl st dn wa mk sn).lookup ("kept" : Str) = none := by kernel_rfl
theorem wF_met : (wF rl room pl st dn wa mk sn).lookup ("met" : Str) = none := by kernel_rfl
theorem wF_len : (wF rl room pl st dn wa mk sn).length < 1000 := by show 8 < 1000; decide
theorem wF_sp : putF "place" (.int x) (wF rl room pl st dn wa mk sn) = wF rl room x st dn wa mk sn := by kernel_rfl
theorem wF_ss : putF "state" (.int x) (wF rl room pl st dn wa mk sn) = wF rl room pl x dn wa mk sn := by kernel_rfl
theorem wF_sd : putF "done" (.int x) (wF rl room pl st dn wa mk sn) = wF rl room pl st x wa mk sn := by kernel_rfl
theorem wF_sw : putF "wanted" v (wF rl room pl st dn wa mk sn) = wF rl room pl st dn v mk sn := by kernel_rfl
theorem wF_made : putF "seen" (.ref sn) (putF "marks" (.ref mk) (putF "wanted" wa (putF "done" (.int dn) (putF "state" (.int st) (putF "place" (.int pl) (putF "room" (.int room) (putF "rules" (.ref rl) []))))))) = wF rl room pl st dn wa mk sn := by kernel_rfl
end
theorem pe_fldK {X : Cx} {K : PySem.W.Frag} {e : Expr} {te : TE} {f : Str} {pos : Pos} (hK : X.K = K) (he : PE X e te) (hb : attributeBase e f X.env (eval e X.env) = eval e X.env) : PE X (.Attribute e f pos) (tFld K te f) := by
  subst hK
  exact pe_fld he hb
/-- what the top has written of the class -/
structure OCW (K : PySem.W.Frag) (mg : Str → Option Value) (C : Addr) : Prop where
  cl : Cls K C
  mgC : mg "Walker" = some (.ref C)
  nru : NoAttr K C "rules"
  nro : NoAttr K C "room"
  npl : NoAttr K C "place"
  nst : NoAttr K C "state"
  ndn : NoAttr K C "done"
  nwa : NoAttr K C "wanted"
  nma : NoAttr K C "marks"
  nse : NoAttr K C "seen"
/-- a thing, and whether it is a list of rules -/
inductive ListTh (K : PySem.W.Frag) (H : Hp) : V → Bool → Prop where
  | nlist {x : V} {t : Value} (ty : TyX K H x t) (ni : PySem.W.kitOne K t (.type "list") = some false) : ListTh K H x false
  | big {p : Addr} {xs : List V} (h : H p = some (.lst xs)) (hl : 100 < xs.length) : ListTh K H (.ref p) false
  | all {p : Addr} {xs : List V} {bs : List Bool} (h : H p = some (.lst xs)) (hl : xs.length ≤ 100) (hb : bs.length = xs.length) (ht : ∀ (i : Nat) (x : V) (b : Bool), xs[i]? = some x → bs[i]? = some b → RuleTh K H x b) : ListTh K H (.ref p) (bs.all id)
theorem ListTh.good {K : PySem.W.Frag} {H : Hp} {p : Addr} {rs : List (Addr × Rule)} (h : H p = some (.lst (refsR rs))) (hR : RS H rs) (hl : rs.length ≤ 100) : ListTh K H (.ref p) true := by
  have e : (List.replicate rs.length true).all id = true := List.all_eq_true.mpr fun b hb => by rw [(List.mem_replicate.mp hb).2] <;> rfl
  rw [← e]
  refine .all h (by rw [refsR_len]; exact hl) (by rw [List.length_replicate, refsR_len]) fun i x b hx hb => ?_
  obtain ⟨q, hq, rfl⟩ := get_map hx
  have eb : b = true := (List.mem_replicate.mp (List.mem_of_getElem? hb)).2
  rw [eb]
  have := hR q (List.mem_of_getElem? hq)
  exact q.2.th this.2 this.1
/-- a thing, and whether it is a deed -/
inductive DeedTh (K : PySem.W.Frag) (H : Hp) : V → Bool → Prop where
  | ntup {x : V} {t : Value} (ty : TyX K H x t) (ni : PySem.W.kitOne K t (.type "tuple") = some false) : DeedTh K H x false
  | nil {q : Addr} (h : H q = some (.tup [])) : DeedTh K H (.ref q) false
  | nstr {q : Addr} {v : V} {r : List V} {t : Value} (h : H q = some (.tup (v :: r))) (ty : TyX K H v t) (ni : PySem.W.kitOne K t (.type "str") = some false) : DeedTh K H (.ref q) false
  | one {q : Addr} {w : Str} {r : List V} {b : Bool} (h : H q = some (.tup (.str w :: r))) (hw : w = "keep" ∨ w = "meet") (hb : b = decide (r = [])) : DeedTh K H (.ref q) b
  | two {q : Addr} {w : Str} {r : List V} (h : H q = some (.tup (.str w :: r))) (h1 : w ≠ "keep") (h2 : w ≠ "meet") (hl : r.length ≠ 1) : DeedTh K H (.ref q) false
  | num {q : Addr} {w : Str} {v : V} {o : Option Int} {b : Bool} (h : H q = some (.tup [.str w, v])) (h1 : w ≠ "keep") (h2 : w ≠ "meet") (th : Thg K H v o)
      (hb : b = if w = "go" then among o 1 100 else (decide (w = "take") || decide (w = "drop")) && among o 0 100) : DeedTh K H (.ref q) b
theorem DeedTh.same {K : PySem.W.Frag} {H H' : Hp} {x : V} {b : Bool} (e : Same H H') (h : DeedTh K H x b) : DeedTh K H' x b := by
  cases h with
  | ntup ty ni => exact .ntup (tyX_same e ty) ni
  | nil h => exact .nil (e _ _ h)
  | nstr h ty ni => exact .nstr (e _ _ h) (tyX_same e ty) ni
  | one h hw hb => exact .one (e _ _ h) hw hb
  | two h h1 h2 hl => exact .two (e _ _ h) h1 h2 hl
  | num h h1 h2 th hb => exact .num (e _ _ h) h1 h2 (th.same e) hb
def Deed.ok : Deed → Prop
  | .go n => 1 ≤ n ∧ n ≤ 100
  | .take p => p ≤ 100
  | .drop p => p ≤ 100
  | _ => True
theorem among_of {n : Nat} {lo hi : Int} (h1 : lo ≤ (n : Int)) (h2 : (n : Int) ≤ hi) : among (some (n : Int)) lo hi = true := by
  show (decide (lo ≤ (n : Int)) && decide ((n : Int) ≤ hi)) = true
  rw [decide_eq_true h1, decide_eq_true h2] <;> rfl
theorem Deed.th {K : PySem.W.Frag} {H : Hp} {q : Addr} (d : Deed) (ok : d.ok) (h : H q = some (.tup d.vs)) : DeedTh K H (.ref q) true := by
  cases d with
  | keep => exact .one h (.inl rfl) rfl
  | meet => exact .one h (.inr rfl) rfl
  | go n =>
    refine .num h (by decide +kernel) (by decide +kernel) (.int _) ?_
    have ok : 1 ≤ n ∧ n ≤ 100 := ok
    rw [if_pos rfl, among_of (by omega) (by omega)]
  | take p =>
    refine .num h (by decide +kernel) (by decide +kernel) (.int _) ?_
    have ok : p ≤ 100 := ok
    rw [if_neg (by decide +kernel), among_of (by omega) (by omega)]
    decide +kernel
  | drop p =>
    refine .num h (by decide +kernel) (by decide +kernel) (.int _) ?_
    have ok : p ≤ 100 := ok
    rw [if_neg (by decide +kernel), among_of (by omega) (by omega)]
    decide +kernel
/-- where a walker lies -/
structure WA where
  x : Addr
  dx : Addr
  rl : Addr
  md : Addr
  sn : Addr
/-- a walker stands there -/
structure WAt (C : Addr) (H : Hp) (A : WA) (rs : List (Addr × Rule)) (R : Nat) (w : WK) : Prop where
  ob : H A.x = some (.ins C A.dx (wF A.rl (R : Int) (w.pl : Int) (w.st : Int) (w.dn : Int) (oW w.wa) A.md A.sn))
  ru : H A.rl = some (.lst (refsR rs))
  ma : H A.md = some (.dK (mkK w.mks))
  se : H A.sn = some (.lst (w.sn.map fun (s : Nat) => V.int (s : Int)))
  n1 : A.rl ≠ A.sn
/-- all but the walker's own stands -/
def But (A : WA) (H H' : Hp) : Prop := ∀ b o, H b = some o → b ≠ A.x → b ≠ A.md → b ≠ A.sn → H' b = some o
theorem But.refl (A : WA) (H : Hp) : But A H H := fun _ _ h _ _ _ => h
theorem But.trans {A : WA} {H H1 H2 : Hp} (a : But A H H1) (b : But A H1 H2) : But A H H2 := fun c o h n1 n2 n3 => b c o (a c o h n1 n2 n3) n1 n2 n3
theorem But.same {A : WA} {H H1 H2 : Hp} (a : But A H H1) (b : Same H1 H2) : But A H H2 := fun c o h n1 n2 n3 => b c o (a c o h n1 n2 n3)
theorem Same.but {A : WA} {H H1 : Hp} (a : Same H H1) : But A H H1 := fun c o h _ _ _ => a c o h
theorem But.upd_x {A : WA} {H : Hp} {o : HO} : But A H (upd H A.x o) := fun c u h n1 _ _ => by rw [upd_ne n1]; exact h
theorem But.upd_mk {A : WA} {H : Hp} {o : HO} : But A H (upd H A.md o) := fun c u h _ n1 _ => by rw [upd_ne n1]; exact h
theorem But.upd_sn {A : WA} {H : Hp} {o : HO} : But A H (upd H A.sn o) := fun c u h _ _ n1 => by rw [upd_ne n1]; exact h
section
variable {C : Addr} {H : Hp} {A : WA} {rs : List (Addr × Rule)} {R : Nat} {w : WK}
theorem WAt.xr (W : WAt C H A rs R w) : A.x ≠ A.rl := ne_of W.ob W.ru (by intro z; cases z)
theorem WAt.xm (W : WAt C H A rs R w) : A.x ≠ A.md := ne_of W.ob W.ma (by intro z; cases z)
theorem WAt.xs (W : WAt C H A rs R w) : A.x ≠ A.sn := ne_of W.ob W.se (by intro z; cases z)
theorem WAt.rm (W : WAt C H A rs R w) : A.rl ≠ A.md := ne_of W.ru W.ma (by intro z; cases z)
theorem WAt.ms (W : WAt C H A rs R w) : A.md ≠ A.sn := ne_of W.ma W.se (by intro z; cases z)
theorem WAt.same {H' : Hp} (W : WAt C H A rs R w) (e : Same H H') : WAt C H' A rs R w := ⟨e _ _ W.ob, e _ _ W.ru, e _ _ W.ma, e _ _ W.se, W.n1⟩
/-- a deed's promise -/
def StepP (K : PySem.W.Frag) (C : Addr) (c8 : Nat → Addr) (H : Hp) (A : WA) (rs : List (Addr × Rule)) (R : Nat) (w : WK) (d : Deed) (Q : VK) (E : XK) : Prop :=
  WAt C H A rs R w ∧ RS H rs ∧ w.Ok rs.length ∧ rs.length ≤ 100 ∧ w.mks.length ≤ 1000 ∧ w.sn.length ≤ 10000 ∧
  (∀ v, stepK (rs.map (·.2)) R w d = .ok v → ∀ H', But A H H' → WAt C H' A rs R v → Q .non H') ∧ ∀ i, stepK (rs.map (·.2)) R w d = .error i → E (.ref (c8 i)) none H
theorem RS.but {H' : Hp} (W : WAt C H A rs R w) (b : But A H H') {qs : List (Addr × Rule)} (h : RS H qs) : RS H' qs := fun q hq => by
  have e := (h q hq).1
  exact ⟨b _ _ e (ne_of e W.ob (by intro z; cases z)) (ne_of e W.ma (by intro z; cases z)) (ne_of e W.se (by intro z; cases z)), (h q hq).2⟩
end
end BM

/-! ## Deeds in a row -/
namespace BM
open PySem PySem.Spec PyProof.Rows L2
def runT (rs : List Rule) (R : Nat) : List (Option Deed) → WK → Except Nat WK
  | [], w => .ok w
  | none :: _, _ => .error 2
  | some d :: ts, w => match stepK rs R w d with
    | .ok v => runT rs R ts v
    | .error i => .error i
def ThingD (K : PySem.W.Frag) (H : Hp) (x : V) : Option Deed → Prop
  | none => DeedTh K H x false
  | some d => ∃ a, x = .ref a ∧ H a = some (.tup d.vs) ∧ d.ok
theorem ThingD.same {K : PySem.W.Frag} {H H' : Hp} {x : V} {t : Option Deed} (e : Same H H') (h : ThingD K H x t) : ThingD K H' x t := by
  cases t with
  | none => exact DeedTh.same e h
  | some d =>
    obtain ⟨a, h1, h2, h3⟩ := h
    exact ⟨a, h1, e _ _ h2, h3⟩
structure WK.Ok2 (n R : Nat) (w : WK) : Prop where
  mo : w.mks.length ≤ R
  sn : (w.sn.length : Int) + waI w.wa = (n : Int)
theorem WK.Ok2.step {rs : List Rule} {n R : Nat} {w v : WK} {d : Deed} (o : w.Ok2 n R) (h : stepK rs R w d = .ok v) : v.Ok2 n R := by
  cases d with
  | keep =>
    have h : (if (stOf w.mks w.pl).isSome = true then Except.error 4 else if w.mks.length = R then .error 3 else .ok { w with mks := w.mks ++ [(w.pl, w.st)] }) = Except.ok v := h
    by_cases c : (stOf w.mks w.pl).isSome = true
    · rw [if_pos c] at h; cases h
    · rw [if_neg c] at h
      by_cases c2 : w.mks.length = R
      · rw [if_pos c2] at h; cases h
      · rw [if_neg c2] at h
        cases h
        refine ⟨?_, o.sn⟩
        have := o.mo
        show (w.mks ++ [(w.pl, w.st)]).length ≤ R
        rw [List.length_append]
        show w.mks.length + 1 ≤ R
        omega
  | meet =>
    have h : (if some w.pl = w.wa then Except.ok { w with sn := w.sn ++ [w.st], wa := if w.pl = 0 then none else some (w.pl - 1) } else .error 7) = Except.ok v := h
    by_cases c : some w.pl = w.wa
    · rw [if_pos c] at h
      cases h
      refine ⟨o.mo, ?_⟩
      have s := o.sn
      rw [← c] at s
      have s : (w.sn.length : Int) + (w.pl : Int) = (n : Int) := s
      show ((w.sn ++ [w.st]).length : Int) + waI (if w.pl = 0 then none else some (w.pl - 1)) = (n : Int)
      rw [List.length_append]
      by_cases z : w.pl = 0
      · rw [if_pos z]
        show ((w.sn.length + 1 : Nat) : Int) + -1 = _
        omega
      · rw [if_neg z]
        show ((w.sn.length + 1 : Nat) : Int) + ((w.pl - 1 : Nat) : Int) = _
        omega
    · rw [if_neg c] at h; cases h
  | go m =>
    have h : (if w.pl + m > rs.length then Except.error 6 else .ok { w with pl := w.pl + m, st := lastN w.st ((rs.drop w.pl).take m), dn := w.dn + m }) = Except.ok v := h
    by_cases c : w.pl + m > rs.length
    · rw [if_pos c] at h; cases h
    · rw [if_neg c] at h
      cases h
      exact ⟨o.mo, o.sn⟩
  | take p =>
    have h : (match stOf w.mks p with | none => Except.error 5 | some s => .ok { w with pl := p, st := s }) = Except.ok v := h
    cases e : stOf w.mks p with
    | none => rw [e] at h; cases h
    | some s =>
      rw [e] at h
      cases h
      exact ⟨o.mo, o.sn⟩
  | drop p =>
    have h : (match stOf w.mks p with | none => Except.error 5 | some _ => .ok { w with mks := w.mks.filter fun q => q.1 != p }) = Except.ok v := h
    cases e : stOf w.mks p with
    | none => rw [e] at h; cases h
    | some s =>
      rw [e] at h
      cases h
      refine ⟨?_, o.sn⟩
      have := o.mo
      have l := List.length_filter_le (fun q => q.1 != p) w.mks
      show (w.mks.filter fun q => q.1 != p).length ≤ R
      omega
theorem WK.Ok2.sn_le {n R : Nat} {w : WK} (o : w.Ok2 n R) (hn : n ≤ 100) : w.sn.length ≤ 10000 := by
  have s := o.sn
  cases h : w.wa with
  | none =>
    rw [h] at s
    have s : (w.sn.length : Int) + -1 = (n : Int) := s
    omega
  | some m =>
    rw [h] at s
    have s : (w.sn.length : Int) + (m : Int) = (n : Int) := s
    omega
theorem wk0_ok {f n : Nat} (hf : f < 999983) : (wk0 f n).Ok n := ⟨Nat.zero_le _, hf, fun q hq => (nomatch hq), List.nodup_nil, fun m hm => by
  have e : n = m := Option.some.inj hm
  omega⟩
theorem wk0_ok2 {f n R : Nat} : (wk0 f n).Ok2 n R := ⟨Nat.zero_le _, by show ((0 : Nat) : Int) + (n : Int) = (n : Int); omega⟩
theorem runT_append (rs : List Rule) (R : Nat) : ∀ (ts us : List (Option Deed)) (w : WK), runT rs R (ts ++ us) w = match runT rs R ts w with | .ok v => runT rs R us v | .error i => .error i
  | [], _, _ => rfl
  | none :: _, _, _ => rfl
  | some d :: ts, us, w => by
    show (match stepK rs R w d with | .ok v => runT rs R (ts ++ us) v | .error i => .error i) = match (match stepK rs R w d with | .ok v => runT rs R ts v | .error i => .error i) with | .ok v => runT rs R us v | .error i => .error i
    cases stepK rs R w d with
    | error i => rfl
    | ok v => exact runT_append rs R ts us v
theorem runT_take_err {rs : List Rule} {R : Nat} {ts : List (Option Deed)} {w v : WK} {i : Nat} {t : Option Deed} {e : Nat} (h : runT rs R (ts.take i) w = .ok v) (ht : ts[i]? = some t) (he : runT rs R [t] v = .error e) : runT rs R ts w = .error e := by
  have q : ts.take (i + 1) ++ ts.drop (i + 1) = ts := List.take_append_drop (i + 1) ts
  have q2 : runT rs R (ts.take (i + 1)) w = .error e := by
    rw [take_succ ht, runT_append, h]
    exact he
  rw [← q, runT_append, q2]
end BM

/-! ## A plain hand and a walker go alike -/
namespace BM
def stAt (rs : List Rule) (f p : Nat) : Nat := lastN f (rs.take p)
structure Sim (rs : List Rule) (f : Nat) (s : WSt) (w : WK) : Prop where
  pl : w.pl = s.pl
  mq : w.mks.map (·.1) = s.mks
  wa : waI w.wa = s.wa
  dn : w.dn = s.co
  st : w.st = stAt rs f s.pl
  ms : ∀ q ∈ w.mks, q.2 = stAt rs f q.1
  sn : w.sn = (List.range w.sn.length).map fun i => stAt rs f (rs.length - i)
  sl : (w.sn.length : Int) + waI w.wa = (rs.length : Int)
  le : s.pl ≤ rs.length
  ml : ∀ x ∈ s.mks, x ≤ rs.length
theorem stOf_some : ∀ {ms : List (Nat × Nat)} {p : Nat}, p ∈ ms.map (·.1) → ∃ s, stOf ms p = some s := fun {ms p} h => by
  cases e : stOf ms p with
  | some s => exact ⟨s, rfl⟩
  | none => exact absurd h (stOf_none e)
theorem map_filter_fst (p : Nat) : ∀ ms : List (Nat × Nat), (ms.filter fun q => q.1 != p).map (·.1) = (ms.map (·.1)).filter (· ≠ p)
  | [] => rfl
  | q :: ms => by
    have ih := map_filter_fst p ms
    by_cases e : q.1 = p
    · rw [List.filter_cons, if_neg (by rw [e]; simp), ih, List.map_cons, List.filter_cons, if_neg (by simpa using e)]
    · rw [List.filter_cons, if_pos (by simpa using e), List.map_cons, ih, List.map_cons, List.filter_cons, if_pos (by simpa using e)]
theorem sim_step {rs : List Rule} {f R : Nat} {s t : WSt} {w : WK} {d : Deed} (hn : rs.length ≤ 100) (S : Sim rs f s w) (h : stepW rs.length R s d = some t) : d.ok ∧ ∃ v, stepK rs R w d = .ok v ∧ Sim rs f t v := by
  cases d with
  | keep =>
    obtain ⟨⟨c1, c2⟩, rfl⟩ := ite_some h
    have hno : stOf w.mks w.pl = none := by
      cases e : stOf w.mks w.pl with
      | none => rfl
      | some z =>
        refine absurd ?_ c1
        rw [← S.mq, ← S.pl]
        exact List.mem_map.mpr ⟨_, stOf_mem e, rfl⟩
    have hl : w.mks.length = s.mks.length := by rw [← S.mq, List.length_map]
    refine ⟨trivial, { w with mks := w.mks ++ [(w.pl, w.st)] }, ?_, ⟨S.pl, ?_, S.wa, S.dn, S.st, ?_, S.sn, S.sl, S.le, ?_⟩⟩
    · show (if (stOf w.mks w.pl).isSome = true then Except.error 4 else if w.mks.length = R then .error 3 else .ok { w with mks := w.mks ++ [(w.pl, w.st)] }) = _
      rw [hno, if_neg (by decide), if_neg (by omega)]
    · show (w.mks ++ [(w.pl, w.st)]).map (·.1) = s.mks ++ [s.pl]
      rw [List.map_append, S.mq, ← S.pl] <;> rfl
    · intro q hq
      rcases List.mem_append.mp hq with z | z
      · exact S.ms q z
      · rw [List.mem_singleton.mp z]
        show w.st = stAt rs f w.pl
        rw [S.pl]
        exact S.st
    · intro x hx
      rcases List.mem_append.mp hx with z | z
      · exact S.ml x z
      · rw [List.mem_singleton.mp z]
        exact S.le
  | meet =>
    obtain ⟨c1, rfl⟩ := ite_some h
    have e1 : some w.pl = w.wa := by
      have a := S.wa
      rw [← c1, ← S.pl] at a
      cases e : w.wa with
      | none =>
        rw [e] at a
        have a : (-1 : Int) = (w.pl : Int) := a
        omega
      | some m =>
        rw [e] at a
        have a : (m : Int) = (w.pl : Int) := a
        congr 1
        omega
    refine ⟨trivial, { w with sn := w.sn ++ [w.st], wa := if w.pl = 0 then none else some (w.pl - 1) }, ?_, ⟨S.pl, S.mq, ?_, S.dn, S.st, S.ms, ?_, ?_, S.le, S.ml⟩⟩
    · show (if some w.pl = w.wa then Except.ok { w with sn := w.sn ++ [w.st], wa := if w.pl = 0 then none else some (w.pl - 1) } else .error 7) = _
      rw [if_pos e1]
    · show waI (if w.pl = 0 then none else some (w.pl - 1)) = s.wa - 1
      rw [← c1, ← S.pl]
      by_cases z : w.pl = 0
      · rw [if_pos z]
        show (-1 : Int) = (w.pl : Int) - 1
        omega
      · rw [if_neg z]
        show ((w.pl - 1 : Nat) : Int) = (w.pl : Int) - 1
        omega
    · show w.sn ++ [w.st] = (List.range (w.sn ++ [w.st]).length).map fun i => stAt rs f (rs.length - i)
      rw [List.length_append]
      show w.sn ++ [w.st] = (List.range (w.sn.length + 1)).map fun i => stAt rs f (rs.length - i)
      rw [List.range_succ, List.map_append, ← S.sn]
      have z := S.sl
      rw [← e1] at z
      have z : (w.sn.length : Int) + (w.pl : Int) = (rs.length : Int) := z
      have y : rs.length - w.sn.length = s.pl := by have := S.pl; omega
      show w.sn ++ [w.st] = w.sn ++ [stAt rs f (rs.length - w.sn.length)]
      rw [y, S.st]
    · have z := S.sl
      rw [← e1] at z
      have z : (w.sn.length : Int) + (w.pl : Int) = (rs.length : Int) := z
      show ((w.sn ++ [w.st]).length : Int) + waI (if w.pl = 0 then none else some (w.pl - 1)) = (rs.length : Int)
      rw [List.length_append]
      by_cases y : w.pl = 0
      · rw [if_pos y]
        show ((w.sn.length + 1 : Nat) : Int) + (-1) = _
        omega
      · rw [if_neg y]
        show ((w.sn.length + 1 : Nat) : Int) + ((w.pl - 1 : Nat) : Int) = _
        omega
  | go m =>
    obtain ⟨⟨c1, c2⟩, rfl⟩ := ite_some h
    have hp := S.pl
    refine ⟨⟨by omega, by omega⟩, { w with pl := w.pl + m, st := lastN w.st ((rs.drop w.pl).take m), dn := w.dn + m }, ?_, ⟨?_, S.mq, S.wa, ?_, ?_, S.ms, S.sn, S.sl, c2, S.ml⟩⟩
    · show (if w.pl + m > rs.length then Except.error 6 else .ok { w with pl := w.pl + m, st := lastN w.st ((rs.drop w.pl).take m), dn := w.dn + m }) = _
      rw [if_neg (by omega)]
    · show w.pl + m = s.pl + m
      omega
    · show w.dn + m = s.co + m
      rw [S.dn]
    · show lastN w.st ((rs.drop w.pl).take m) = lastN f (rs.take (s.pl + m))
      rw [S.st, S.pl]
      show lastN (lastN f (rs.take s.pl)) _ = _
      rw [← lastN_append]
      congr 1
      rw [List.take_add]
  | take p =>
    obtain ⟨c1, rfl⟩ := ite_some h
    obtain ⟨z, hz⟩ := stOf_some (ms := w.mks) (p := p) (by rw [S.mq]; exact c1)
    refine ⟨by have := S.ml p c1; show p ≤ 100; omega, { w with pl := p, st := z }, ?_, ⟨rfl, S.mq, S.wa, S.dn, ?_, S.ms, S.sn, S.sl, S.ml p c1, S.ml⟩⟩
    · show (match stOf w.mks p with | none => Except.error 5 | some s => .ok { w with pl := p, st := s }) = _
      rw [hz]
    · exact S.ms _ (stOf_mem hz)
  | drop p =>
    obtain ⟨c1, rfl⟩ := ite_some h
    obtain ⟨z, hz⟩ := stOf_some (ms := w.mks) (p := p) (by rw [S.mq]; exact c1)
    refine ⟨by have := S.ml p c1; show p ≤ 100; omega, { w with mks := w.mks.filter fun q => q.1 != p }, ?_, ⟨S.pl, ?_, S.wa, S.dn, S.st, fun q hq => S.ms q (List.mem_filter.mp hq).1, S.sn, S.sl, S.le, fun x hx => S.ml x (List.mem_filter.mp hx).1⟩⟩
    · show (match stOf w.mks p with | none => Except.error 5 | some _ => .ok { w with mks := w.mks.filter fun q => q.1 != p }) = _
      rw [hz]
    · show (w.mks.filter fun q => q.1 != p).map (·.1) = s.mks.filter (· ≠ p)
      rw [map_filter_fst, S.mq]
theorem sim_run {rs : List Rule} {f R : Nat} (hn : rs.length ≤ 100) : ∀ {ds : List Deed} {s t : WSt} {w : WK}, Sim rs f s w → runW rs.length R ds s = some t → (∀ d ∈ ds, d.ok) ∧ ∃ v, runT rs R (ds.map some) w = .ok v ∧ Sim rs f t v
  | [], s, t, w, S, h => by
    have e : s = t := Option.some.inj h
    rw [← e]
    exact ⟨fun d hd => (nomatch hd), w, rfl, S⟩
  | d :: ds, s, t, w, S, h => by
    have h : (stepW rs.length R s d).bind (runW rs.length R ds) = some t := h
    cases e : stepW rs.length R s d with
    | none =>
      rw [e] at h
      cases h
    | some u =>
      rw [e] at h
      obtain ⟨ok, v, hv, S2⟩ := sim_step hn S e
      obtain ⟨oks, z, hz, S3⟩ := sim_run hn S2 h
      refine ⟨fun d' hd => ?_, z, ?_, S3⟩
      · rcases List.mem_cons.mp hd with q | q
        · rw [q]; exact ok
        · exact oks d' q
      · show (match stepK rs R w d with | .ok v => runT rs R (ds.map some) v | .error i => .error i) = .ok z
        rw [hv]
        exact hz
theorem sim0 (rs : List Rule) (f : Nat) : Sim rs f (wst0 rs.length) (wk0 f rs.length) :=
  ⟨rfl, rfl, rfl, rfl, rfl, fun q hq => (nomatch hq), rfl, by show ((0 : Nat) : Int) + (rs.length : Int) = _; omega, Nat.zero_le _, fun x hx => (nomatch hx)⟩
/-- all states of a row -/
def rowN (f : Nat) (rs : List Rule) : List Nat := (List.range (rs.length + 1)).map fun p => stAt rs f p
theorem rowN_snoc (f : Nat) (rs : List Rule) (r : Rule) : rowN f (rs ++ [r]) = rowN f rs ++ [forthN r (lastN f rs)] := by
  unfold rowN
  rw [List.length_append]
  show (List.range (rs.length + 1 + 1)).map _ = _
  rw [List.range_succ, List.map_append]
  congr 1
  · refine List.map_congr_left fun p hp => ?_
    have := List.mem_range.mp hp
    unfold stAt
    rw [List.take_append_of_le_length (by omega)]
  · show [stAt (rs ++ [r]) f (rs.length + 1)] = _
    unfold stAt
    rw [List.take_of_length_le (by rw [List.length_append]; exact Nat.le_refl _), lastN_snoc]
theorem rowN_len (f : Nat) (rs : List Rule) : (rowN f rs).length = rs.length + 1 := by
  unfold rowN
  rw [List.length_map, List.length_range]
theorem rowN_last (f : Nat) (rs : List Rule) : (rowN f rs)[rs.length]? = some (lastN f rs) := by
  unfold rowN
  rw [List.getElem?_map, List.getElem?_range (by omega)]
  show some (stAt rs f rs.length) = _
  unfold stAt
  rw [List.take_length]
theorem sim_met {rs : List Rule} {f : Nat} {s : WSt} {w : WK} (S : Sim rs f s w) (h : s.wa = -1) : w.wa = none ∧ w.sn = (rowN f rs).reverse := by
  have a := S.wa
  rw [h] at a
  have e : w.wa = none := by
    cases e : w.wa with
    | none => rfl
    | some m =>
      rw [e] at a
      have a : (m : Int) = -1 := a
      omega
  refine ⟨e, ?_⟩
  have l := S.sl
  rw [e] at l
  have l : (w.sn.length : Int) + -1 = (rs.length : Int) := l
  have l : w.sn.length = rs.length + 1 := by omega
  rw [S.sn, l]
  apply List.ext_getElem?
  intro i
  by_cases hi : i < rs.length + 1
  · rw [List.getElem?_map, List.getElem?_range hi, List.getElem?_reverse (by rw [rowN_len]; exact hi), rowN_len]
    unfold rowN
    rw [List.getElem?_map, List.getElem?_range (by omega)]
    show some (stAt rs f (rs.length - i)) = some (stAt rs f (rs.length + 1 - 1 - i))
    rw [show rs.length + 1 - 1 - i = rs.length - i by omega]
  · rw [List.getElem?_eq_none (by rw [List.length_map, List.length_range]; omega), List.getElem?_eq_none (by rw [List.length_reverse, rowN_len]; omega)]
end BM

/-! ## A walker amid deeds that can be done -/
namespace BM
theorem runW_at {n R : Nat} {ds : List Deed} {s0 s t : WSt} {i : Nat} {d : Deed} (h : runW n R ds s0 = some t) (hs : runW n R (ds.take i) s0 = some s) (hd : ds[i]? = some d) : ∃ v, stepW n R s d = some v ∧ runW n R (ds.take (i + 1)) s0 = some v := by
  have e : ds = ds.take (i + 1) ++ ds.drop (i + 1) := (List.take_append_drop (i + 1) ds).symm
  have e2 : ds.take (i + 1) = ds.take i ++ [d] := take_succ hd
  rw [e, runW_append] at h
  cases q : runW n R (ds.take (i + 1)) s0 with
  | none => rw [q] at h; cases h
  | some v =>
    rw [e2, runW_append, hs] at q
    have q : (stepW n R s d).bind (runW n R []) = some v := q
    cases z : stepW n R s d with
    | none => rw [z] at q; cases q
    | some u =>
      rw [z] at q
      have q : u = v := Option.some.inj q
      exact ⟨u, rfl, by rw [q]⟩
structure Wki (rs : List Rule) (f R : Nat) (ds : List Deed) (i : Nat) (w : WK) : Prop where
  ex : ∃ s, runW rs.length R (ds.take i) (wst0 rs.length) = some s ∧ Sim rs f s w
  ok : w.Ok rs.length
  ok2 : w.Ok2 rs.length R
theorem Wki.zero {rs : List Rule} {f R : Nat} (ds : List Deed) (hf : f < 999983) : Wki rs f R ds 0 (wk0 f rs.length) := ⟨⟨_, rfl, sim0 rs f⟩, wk0_ok hf, wk0_ok2⟩
theorem Wki.step {rs : List Rule} {f R : Nat} {ds : List Deed} {i : Nat} {w : WK} {t : WSt} {d : Deed} (hn : rs.length ≤ 100) (h : runW rs.length R ds (wst0 rs.length) = some t) (hd : ds[i]? = some d) (W : Wki rs f R ds i w) :
    d.ok ∧ ∃ v, stepK rs R w d = .ok v ∧ Wki rs f R ds (i + 1) v := by
  obtain ⟨s, hs, S⟩ := W.ex
  obtain ⟨u, hu, hu2⟩ := runW_at h hs hd
  obtain ⟨ok, v, hv, S2⟩ := sim_step hn S hu
  exact ⟨ok, v, hv, ⟨u, hu2, S2⟩, W.ok.step hv, W.ok2.step hv⟩
theorem Wki.done {rs : List Rule} {f R : Nat} {ds : List Deed} {w : WK} {t : WSt} (h : runW rs.length R ds (wst0 rs.length) = some t) (W : Wki rs f R ds ds.length w) : Sim rs f t w := by
  obtain ⟨s, hs, S⟩ := W.ex
  rw [List.take_length, h] at hs
  rw [Option.some.inj hs]
  exact S
theorem Wki.sum {rs : List Rule} {f R : Nat} {ds : List Deed} {i : Nat} {w : WK} (W : Wki rs f R ds i w) : (w.sn.length : Int) + waI w.wa = (rs.length : Int) := W.ok2.sn
end BM

/-! ## Deeds as data -/
namespace BM
open PySem PySem.Spec PyProof.Rows L2
def Deed.pd : Deed → PyData
  | .keep => .tuple [.str "keep"]
  | .meet => .tuple [.str "meet"]
  | .take p => .tuple [.str "take", .int (p : Int)]
  | .drop p => .tuple [.str "drop", .int (p : Int)]
  | .go n => .tuple [.str "go", .int (n : Int)]
theorem Deed.sh (d : Deed) : Sh 1 d.pd := by
  have w : ∀ s : Str, (PyData.str s).canLay0 = true → Sh 1 (.tuple [.str s]) := fun s h => .tup fun d hd => by
    rw [List.mem_singleton.mp hd]
    exact .str h
  have w2 : ∀ (s : Str) (i : Int), (PyData.str s).canLay0 = true → Sh 1 (.tuple [.str s, .int i]) := fun s i h => .tup fun d hd => by
    rcases List.mem_cons.mp hd with e | hd
    · rw [e]; exact .str h
    · rw [List.mem_singleton.mp hd]; exact .int i
  cases d with
  | keep => exact w _ (by decide +kernel)
  | meet => exact w _ (by decide +kernel)
  | take p => exact w2 _ _ (by decide +kernel)
  | drop p => exact w2 _ _ (by decide +kernel)
  | go n => exact w2 _ _ (by decide +kernel)
theorem Deed.dp {K : PySem.W.Frag} {H : Hp} {a : Addr} (d : Deed) (h : H a = some (.tup d.vs)) : Dp K H (.ref a) d.pd := by
  cases d with
  | keep => exact .tup (SqT.of h) (.cons (.str _) .nil)
  | meet => exact .tup (SqT.of h) (.cons (.str _) .nil)
  | take p => exact .tup (SqT.of h) (.cons (.str _) (.cons (.int _) .nil))
  | drop p => exact .tup (SqT.of h) (.cons (.str _) (.cons (.int _) .nil))
  | go n => exact .tup (SqT.of h) (.cons (.str _) (.cons (.int _) .nil))
theorem deeds_dp {K : PySem.W.Frag} {H : Hp} : ∀ {ps : List (Addr × Deed)}, DS H ps → DpAll K H (refs ps) (ps.map fun q => q.2.pd)
  | [], _ => .nil
  | q :: ps, h => .cons (q.2.dp (h q List.mem_cons_self)) (deeds_dp fun x hx => h x (List.mem_cons_of_mem _ hx))
theorem deeds_sh (ps : List (Addr × Deed)) : Sh 2 (.list (ps.map fun q => q.2.pd)) := .lst fun d hd => by
  obtain ⟨q, _, rfl⟩ := List.mem_map.mp hd
  exact q.2.sh
def Rule.pd : Rule → PyData
  | .add k => .tuple [.str "add", .int (k : Int)]
  | .times k => .tuple [.str "times", .int (k : Int)]
  | .square => .tuple [.str "square"]
  | .half => .tuple [.str "half"]
theorem Rule.sh (d : Rule) : Sh 1 d.pd := by
  have w : ∀ s : Str, (PyData.str s).canLay0 = true → Sh 1 (.tuple [.str s]) := fun s h => .tup fun d hd => by
    rw [List.mem_singleton.mp hd]
    exact .str h
  have w2 : ∀ (s : Str) (i : Int), (PyData.str s).canLay0 = true → Sh 1 (.tuple [.str s, .int i]) := fun s i h => .tup fun d hd => by
    rcases List.mem_cons.mp hd with e | hd
    · rw [e]; exact .str h
    · rw [List.mem_singleton.mp hd]; exact .int i
  cases d with
  | square => exact w _ (by decide +kernel)
  | half => exact w _ (by decide +kernel)
  | add p => exact w2 _ _ (by decide +kernel)
  | times p => exact w2 _ _ (by decide +kernel)
theorem Rule.dp {K : PySem.W.Frag} {H : Hp} {a : Addr} (d : Rule) (h : H a = some (.tup d.vs)) : Dp K H (.ref a) d.pd := by
  cases d with
  | square => exact .tup (SqT.of h) (.cons (.str _) .nil)
  | half => exact .tup (SqT.of h) (.cons (.str _) .nil)
  | add p => exact .tup (SqT.of h) (.cons (.str _) (.cons (.int _) .nil))
  | times p => exact .tup (SqT.of h) (.cons (.str _) (.cons (.int _) .nil))
theorem rules_dp {K : PySem.W.Frag} {H : Hp} : ∀ {ps : List (Addr × Rule)}, RS H ps → DpAll K H (refsR ps) (ps.map fun q => q.2.pd)
  | [], _ => .nil
  | q :: ps, h => .cons (q.2.dp (h q List.mem_cons_self).1) (rules_dp fun x hx => h x (List.mem_cons_of_mem _ hx))
theorem rules_sh (ps : List (Addr × Rule)) : Sh 2 (.list (ps.map fun q => q.2.pd)) := .lst fun d hd => by
  obtain ⟨q, _, rfl⟩ := List.mem_map.mp hd
  exact q.2.sh
theorem dp_nats {K : PySem.W.Frag} {H : Hp} : ∀ ns : List Nat, DpAll K H (ns.map fun (s : Nat) => V.int (s : Int)) (ns.map fun (s : Nat) => PyData.int (s : Int))
  | [] => .nil
  | i :: r => .cons (.int i) (dp_nats r)
theorem sh_nats {n : Nat} (ns : List Nat) : Sh (n + 1) (.list (ns.map fun (s : Nat) => PyData.int (s : Int))) := .lst fun d hd => by
  obtain ⟨i, _, rfl⟩ := List.mem_map.mp hd
  exact .int i
end BM

/-! ## Lists of the same things are not unequal -/
namespace BM
open PySem PySem.Spec PyProof.Rows L2
/-- a thing that is surely like itself -/
inductive Sure : V → Prop where
  | non : Sure .non
  | bl (b : Bool) : Sure (.bl b)
  | int (i : Int) : Sure (.int i)
  | str (x : Str) : Sure (.str x)
  | ref (a : Addr) : Sure (.ref a)
inductive Alike (K : PySem.W.Frag) (H : Hp) : V → V → Prop where
  | lst {p q : Addr} {xs : List V} (h1 : SqL K H p xs) (h2 : SqL K H q xs) (hs : ∀ x ∈ xs, Sure x) : Alike K H (.ref p) (.ref q)
  | tup {p q : Addr} {xs : List V} (h1 : SqT K H p xs) (h2 : SqT K H q xs) (hs : ∀ x ∈ xs, Sure x) : Alike K H (.ref p) (.ref q)
  | str (x : Str) : Alike K H (.str x) (.str x)
  | non : Alike K H .non .non
def rNeS (K : PySem.W.Frag) : R2 := fun x y H Q => Alike K H x y ∧ Q (.bl false) H
theorem sure_eq {A : Around} {s : Shared} {x : V} {u v : Value} (h : Sure x) (r1 : RelV x u) (r2 : RelV x v) : SeqAt.EqAt A s u v true := by
  cases h with
  | non =>
    have e1 : u = Value.none := r1
    have e2 : v = Value.none := r2
    rw [e1, e2]
    exact SeqAt.EqAt.same _
  | bl b =>
    have e1 : u = Value.bool b := r1
    have e2 : v = Value.bool b := r2
    rw [e1, e2]
    exact SeqAt.EqAt.same _
  | int i =>
    obtain ⟨t, rfl⟩ : ∃ t, u = Value.int i t := r1
    obtain ⟨t', rfl⟩ : ∃ t, v = Value.int i t := r2
    have := SeqAt.EqAt.int_int (A := A) (s := s) i t i t'
    rw [beq_self_eq_true] at this
    exact this
  | str z =>
    obtain ⟨t, rfl⟩ : ∃ t, u = Value.str z t := r1
    obtain ⟨t', rfl⟩ : ∃ t, v = Value.str z t := r2
    have := SeqAt.EqAt.str_str (A := A) (s := s) z t z t'
    rw [beq_self_eq_true] at this
    exact this
  | ref a =>
    have e1 : u = Value.ref a := r1
    have e2 : v = Value.ref a := r2
    rw [e1, e2]
    exact SeqAt.EqAt.same _
theorem sure_all {A : Around} {s : Shared} {xs : List V} {us vs : List Value} (h : ∀ x ∈ xs, Sure x) (r1 : Vals xs us) (r2 : Vals xs vs) : ∀ j (h1 : j < us.toArray.size) (h2 : j < vs.toArray.size), SeqAt.EqAt A s us.toArray[j] vs.toArray[j] true := by
  intro j h1 h2
  have h1' : j < us.length := by simpa using h1
  have h2' : j < vs.length := by simpa using h2
  have hx : j < xs.length := by rw [r1.length]; exact h1'
  have ex : xs[j]? = some xs[j] := List.getElem?_eq_getElem hx
  obtain ⟨u, eu, ru⟩ := r1.get ex
  obtain ⟨v, ev, rv⟩ := r2.get ex
  have e1 : us.toArray[j] = u := by
    rw [List.getElem?_eq_getElem h1'] at eu
    simpa using Option.some.inj eu
  have e2 : vs.toArray[j] = v := by
    rw [List.getElem?_eq_getElem h2'] at ev
    simpa using Option.some.inj ev
  rw [e1, e2]
  exact sure_eq (h _ (List.getElem_mem hx)) ru rv
theorem all_true (n : Nat) : (List.range n).all (fun _ => true) = true := List.all_eq_true.mpr fun _ _ => rfl
theorem op_neS {X : Cx} (hu : X.A.units + 64 < cLine) : OpR X (compareOp .NotEq) (rNeS X.K) := by
  intro pins s σ H x y v u Q I rx ry h
  obtain ⟨al, q⟩ := h
  cases al with
  | @lst p p' xs h1 h2 hs =>
    cases rx
    cases ry
    obtain ⟨its, rv, pl, hz⟩ := I.list h1
    obtain ⟨its', rv', pl', hz'⟩ := I.list h2
    have e := SeqAt.RcNeAt.lists (A := X.A) (e := fun _ => true) pl.isList pl'.isList (by rw [List.size_toArray, List.size_toArray, ← rv.length, ← rv'.length]) (by omega) (sure_all hs rv rv')
    refine e _ _ _ _ ?_
    rw [all_true]
    exact ⟨.bl false, H, I, rfl, q⟩
  | @tup p p' xs h1 h2 hs =>
    cases rx
    cases ry
    obtain ⟨its, rv, pl, hz⟩ := I.tuple h1
    obtain ⟨its', rv', pl', hz'⟩ := I.tuple h2
    have e := SeqAt.RcNeAt.tuples (A := X.A) (e := fun _ => true) pl pl' (by omega) (sure_all hs rv rv')
    refine e _ _ _ _ ?_
    rw [all_true, List.size_toArray, List.size_toArray, ← rv.length, ← rv'.length, beq_self_eq_true]
    exact ⟨.bl false, H, I, rfl, q⟩
  | str z =>
    obtain ⟨t, rfl⟩ := rx
    obtain ⟨t', rfl⟩ := ry
    refine SeqAt.RcNeAt.str_str (A := X.A) z t z t' _ _ _ _ ?_
    rw [beq_self_eq_true]
    exact ⟨.bl false, H, I, rfl, q⟩
  | non =>
    cases rx
    cases ry
    exact SeqAt.RcNeAt.none_none (A := X.A) _ _ _ _ ⟨.bl false, H, I, rfl, q⟩
end BM

/-! ## Lists of rules, of which one may be none -/
namespace BM
open PySem PySem.Spec PyProof.Rows L2
theorem bools_of {K : PySem.W.Frag} {H : Hp} : ∀ {xs : List V}, (∀ x ∈ xs, ∃ b, RuleTh K H x b) → ∃ bs : List Bool, bs.length = xs.length ∧ ∀ (i : Nat) (x : V) (b : Bool), xs[i]? = some x → bs[i]? = some b → RuleTh K H x b
  | [], _ => ⟨[], rfl, fun i x b h _ => by simp at h⟩
  | x :: xs, h => by
    obtain ⟨b, hb⟩ := h x List.mem_cons_self
    obtain ⟨bs, h1, h2⟩ := bools_of (xs := xs) fun y hy => h y (List.mem_cons_of_mem _ hy)
    refine ⟨b :: bs, by rw [List.length_cons, List.length_cons, h1], fun i y c hy hc => ?_⟩
    cases i with
    | zero =>
      have e1 : x = y := Option.some.inj hy
      have e2 : b = c := Option.some.inj hc
      rw [← e1, ← e2]
      exact hb
    | succ i => exact h2 i y c (by simpa using hy) (by simpa using hc)
theorem list_bad {K : PySem.W.Frag} {H : Hp} {p : Addr} {xs ys zs : List V} {x : V} (h : H p = some (.lst (ys ++ x :: zs))) (hy : ∀ y ∈ ys, RuleTh K H y true) (hz : ∀ y ∈ zs, RuleTh K H y true) (hx : RuleTh K H x false) : ListTh K H (.ref p) false := by
  by_cases hl : (ys ++ x :: zs).length ≤ 100
  · have e : (List.replicate ys.length true ++ false :: List.replicate zs.length true).all id = false := by
      rw [List.all_append, List.all_cons]
      show (_ && (false && _)) = false
      rw [Bool.false_and, Bool.and_false]
    rw [← e]
    refine .all h hl ?_ fun i v b hv hb => ?_
    · simp only [List.length_append, List.length_cons, List.length_replicate]
    · by_cases c : i < ys.length
      · rw [List.getElem?_append_left c] at hv
        rw [List.getElem?_append_left (by rw [List.length_replicate]; exact c)] at hb
        have eb : b = true := (List.mem_replicate.mp (List.mem_of_getElem? hb)).2
        rw [eb]
        exact hy _ (List.mem_of_getElem? hv)
      · rw [List.getElem?_append_right (by omega)] at hv
        rw [List.getElem?_append_right (by rw [List.length_replicate]; omega), List.length_replicate] at hb
        cases q : i - ys.length with
        | zero =>
          rw [q] at hv hb
          have e1 : x = v := Option.some.inj hv
          have e2 : false = b := Option.some.inj hb
          rw [← e1, ← e2]
          exact hx
        | succ m =>
          rw [q] at hv hb
          have hv : zs[m]? = some v := by simpa using hv
          have hb : (List.replicate zs.length true)[m]? = some b := by simpa using hb
          have eb : b = true := (List.mem_replicate.mp (List.mem_of_getElem? hb)).2
          rw [eb]
          exact hz _ (List.mem_of_getElem? hv)
  · exact .big h (by omega)
/-- what is handed in for rules: b, whether it is a list of up to a hundred rules -/
inductive YTh (K : PySem.W.Frag) (H : Hp) : V → Bool → Prop where
  | lst {q : Addr} {xs : List V} {b : Bool} (h : H q = some (.lst xs)) (hs : ∀ x ∈ xs, Sure x) (hl : xs.length ≤ 1000) (ok : ∀ H' p, Same H H' → H' p = some (.lst xs) → ListTh K H' (.ref p) b) : YTh K H (.ref q) b
  | tup {q : Addr} {xs : List V} (h : H q = some (.tup xs)) (hs : ∀ x ∈ xs, Sure x) : YTh K H (.ref q) false
  | str (x : Str) : YTh K H (.str x) false
  | non : YTh K H .non false
theorem YTh.same {K : PySem.W.Frag} {H H' : Hp} {y : V} {b : Bool} (e : Same H H') (h : YTh K H y b) : YTh K H' y b := by
  cases h with
  | lst h hs hl ok => exact .lst (e _ _ h) hs hl fun H2 p e2 h2 => ok H2 p (e.trans e2) h2
  | tup h hs => exact .tup (e _ _ h) hs
  | str x => exact .str x
  | non => exact .non
theorem sure_rules (rs : List (Addr × Rule)) : ∀ x ∈ refsR rs, Sure x := fun x hx => by
  obtain ⟨q, _, rfl⟩ := List.mem_map.mp hx
  exact .ref _
theorem YTh.rules {K : PySem.W.Frag} {H : Hp} {p : Addr} {rs : List (Addr × Rule)} (h : H p = some (.lst (refsR rs))) (hR : RS H rs) (hl : rs.length ≤ 1000) : YTh K H (.ref p) (decide (rs.length ≤ 100)) := by
  refine .lst h (sure_rules rs) (by rw [refsR_len]; exact hl) fun H' q e hq => ?_
  by_cases c : rs.length ≤ 100
  · rw [decide_eq_true c]
    exact ListTh.good hq (hR.same e) c
  · rw [decide_eq_false c]
    exact .big hq (by rw [refsR_len]; omega)
theorem cut_mem {xs : List V} {lo hi : Option Int} {x : V} (h : x ∈ cutV xs lo hi) : x ∈ xs := List.mem_of_mem_drop (List.mem_of_mem_take h)
/-- a rule in a list is replaced by what is none -/
theorem YTh.spoilt {K : PySem.W.Frag} {H : Hp} {p : Addr} {rs : List (Addr × Rule)} {ys zs : List V} {x : V} (h : H p = some (.lst (ys ++ [x] ++ zs))) (hR : RS H rs) (hy : ∀ y ∈ ys, y ∈ refsR rs) (hz : ∀ y ∈ zs, y ∈ refsR rs) (hx : RuleTh K H x false) (hs : Sure x) (hl : (ys ++ [x] ++ zs).length ≤ 1000) : YTh K H (.ref p) false := by
  have g : ∀ y, y ∈ refsR rs → ∀ H', Same H H' → RuleTh K H' y true := fun y hy H' e => by
    obtain ⟨q, hq, rfl⟩ := List.mem_map.mp hy
    exact q.2.th (hR q hq).2 (e _ _ (hR q hq).1)
  refine .lst h (fun v hv => ?_) hl fun H' q e hq => ?_
  · rcases List.mem_append.mp hv with hv | hv
    · rcases List.mem_append.mp hv with hv | hv
      · exact sure_rules rs v (hy v hv)
      · rw [List.mem_singleton.mp hv]
        exact hs
    · exact sure_rules rs v (hz v hv)
  · rw [List.append_assoc] at hq
    exact list_bad (xs := []) hq (fun y h => g y (hy y h) H' e) (fun y h => g y (hz y h) H' e) (hx.same e)
theorem YTh.alike {K : PySem.W.Frag} {H : Hp} {y : V} {b : Bool} (h : YTh K H y b) : Alike K H y y := by
  cases h with
  | lst h hs hl ok => exact .lst (SqL.of h) (SqL.of h) hs
  | tup h hs => exact .tup (SqT.of h) (SqT.of h) hs
  | str x => exact .str x
  | non => exact .non
end BM

/-! ## In a try: a new instance, a method; what they let out is wished for at the slots -/
namespace BM
open PySem PySem.Spec PyProof.Rows L2
def tMakeS (C : Addr) (sp : Sp) (E : L2.St → XK) (t : TA) : TE := fun σ H Q => t σ H fun vs H1 => ∀ x dx, H1 x = none → H1 dx = none → dx ≠ x → sp (.ref x :: vs) (upd (upd H1 dx (.own x)) x (.ins C dx [])) (fun v H2 => v = .non ∧ Q (.ref x) H2) (E σ)
def tMethS (C : Addr) (m : Str) (sp : Sp) (E : L2.St → XK) (ta : TE) (t : TA) : TE := fun σ H Q => ta σ H fun x H1 => ∃ a dx fs, x = .ref a ∧ H1 a = some (.ins C dx fs) ∧ fs.lookup m = none ∧ t σ H1 fun vs H2 => sp (x :: vs) H2 Q (E σ)
section
variable {X : Cx} {k : Nat} {f C : Addr} {fd : FuncData} {ps : List Str} {sp : Sp} {E : L2.St → XK} {x m : Str} {p pos apos : Pos} {e o : Expr} {es : List Expr} {ta : TE} {t : TA}
theorem run_makeS {pins : List (Addr × Obj)} {σ : L2.St} {H : Hp} {s : Shared} {Q : VK} {us : List Value} {vs : List V} (M : Mk X.K C f) (F : FnOk X.prog X.w X.K X.mg X.base (L2.CX X.prog X.w) k f fd ps sp)
    (hr : Room (k + 1) X.A) (hb : Binds X.K fd ps []) (hx : ∀ σ, PassesAt (L2.CX X.prog X.w) X σ (E σ)) (I : Inv X pins σ H s) (r : Vals vs us)
    (h : ∀ x dx, H x = none → H dx = none → dx ≠ x → sp (.ref x :: vs) (upd (upd H dx (.own x)) x (.ins C dx [])) (fun v H2 => v = .non ∧ Q (.ref x) H2) (E σ)) :
    wpAny (model X.prog X.w) X.A (call (.ref C) us) (EP X pins σ Q) X.xe s := by
  have n1 := I.hok.fresh (a := s.heap.objs.size + 1) (Nat.le_succ _)
  have n2 := I.hok.fresh (a := s.heap.objs.size) (Nat.le_refl _)
  have g := h _ _ n1 n2 (Nat.ne_of_lt (Nat.lt_succ_self _))
  have J := Inv.made (C := C) I
  have rr : Vals (V.ref (s.heap.objs.size + 1) :: vs) (Value.ref (s.heap.objs.size + 1) :: us) := .cons rfl r
  have len := rr.length
  rw [F.len _ _ _ _ g] at len
  have bb := hb _ (Value.ref (s.heap.objs.size + 1) :: us) J.kIn (by rw [List.append_nil]; exact len.symm)
  rw [List.append_nil] at bb
  have go := F.run _ X.stack _ _ ⟨Value.ref (s.heap.objs.size + 1) :: us, []⟩ _ _ _ (E σ) (hr.make C us []) (J.env0.make C us []) bb rr g
  refine wpAny_call (make_map (f := f) I.kIn M.makes M.init (beq_iff_eq.mp M.fn) (codeAny_mono go fun q s' z => ?_))
  match q, z with
  | .error e, z => exact hx σ pins _ _ e s' J z
  | .ok (.ret u), z =>
    obtain ⟨v, H', I3, rv, ev, q3⟩ := J.after z
    cases ev
    exact ⟨rv, ⟨V.ref (s.heap.objs.size + 1), H', I3, rfl, q3⟩⟩
  | .ok .next, z => exact z.elim
  | .ok .brk, z => exact z.elim
  | .ok .cont, z => exact z.elim
theorem pe_makeS (M : Mk X.K C f) (F : FnOk X.prog X.w X.K X.mg X.base (L2.CX X.prog X.w) k f fd ps sp) (hr : Room (k + 1) X.A) (hg : Gl X x) (hm : X.mg x = some (.ref C)) (hb : Binds X.K fd ps [])
    (hx : ∀ σ, PassesAt (L2.CX X.prog X.w) X σ (E σ)) (ha : PA X (e :: es) t) (hdb : (x == ("__debug__" : Str)) = false := by decide)
    (he : starEach (e :: es) X.env = (false, eval e X.env) :: starEach es X.env := by rfl) (hpl : (backTo pos (starEach es X.env)).any (·.1) = false := by rfl) : PE X (.Call (.Name x p) (e :: es) [] pos) (tMakeS C sp E t) := by
  refine ⟨fun pins s σ H Q I h => wpAny_Call_Name_kw (ld_glob I hg hm ?_ hdb)⟩
  have next := thn (Q' := fun us s1 => X.K.In s1.heap ∧ wpAny (model X.prog X.w) X.A (call (.ref C) us) (EP X pins σ Q) X.xe s1) (ha.run pos pins s σ H _ I h)
    fun us s1 ⟨vs, H1, I1, r, q⟩ => ⟨I1.kIn, run_makeS M F hr hb hx I1 r q⟩
  exact PySem.W.callWith_K (h₀ := X.base) I.ok.mod.kin M.kp next he hpl
theorem pe_methT {pl : Sem Bool} (he : PE X o ta) (c : Cls X.K C) (hm : Meth X.K C m f) (F : FnOk X.prog X.w X.K X.mg X.base (L2.CX X.prog X.w) k f fd ps sp) (hr : Room k X.A) (hb : Binds X.K fd ps [])
    (hx : ∀ σ, PassesAt (L2.CX X.prog X.w) X σ (E σ)) (ha : PA X (e :: es) t) (hst : starEach (e :: es) X.env = (false, eval e X.env) :: starEach es X.env := by rfl) (hpl : (backTo pos (starEach es X.env)).any (·.1) = false := by rfl)
    (ht : eval (.Call (.Attribute o m apos) (e :: es) [] pos) X.env = (do let ov ← eval o X.env; standAt apos.atName; let (f, first) ← holding [ov] (getMethod ov m pl); callWith pos f first (backTo pos (starEach (e :: es) X.env)) (backToKw pos (keywordEach [] X.env))) := by rfl) : PE X (.Call (.Attribute o m apos) (e :: es) [] pos) (tMethS C m sp E ta t) := by
  refine ⟨fun pins s σ H Q I h => PySem.W.methodCall_KW (pl := pl) (thn (he.run pins s σ H _ I h) fun u s1 ⟨x, H1, I1, rx, a, dx, fs, ex, ea, l, q⟩ => ?_) ht⟩
  cases ex
  cases rx
  refine getmeth_ok I1 ea c hm l ?_
  have next := thn (Q' := fun us s2 => X.K.In s2.heap ∧ wpAny (model X.prog X.w) X.A (call (.ref f) (.ref a :: us)) (EP X pins σ Q) X.xe s2) (ha.run pos pins s1 σ H1 _ I1 q)
    fun us s2 ⟨vs, H2, I2, r, q2⟩ => ⟨I2.kIn, run_fnS (us := .ref a :: us) (vs := .ref a :: vs) F hr hb (hx σ) I2 (.cons rfl r) q2⟩
  exact PySem.W.callWith_K (first := [.ref a]) (h₀ := X.base) I.ok.mod.kin hm.kp next hst hpl
end
end BM

namespace BM
open PySem PySem.Spec PyProof.Rows L2
def top (i : Nat) : Stmt := PySem.Challenge.pw_backmarks_k06_walkers_refused.main.body.getD i (.Pass ⟨0, 0, 0, 0⟩)
abbrev s_is_among : Stmt := top 13
abbrev s_is_state : Stmt := top 14
abbrev s_is_rule : Stmt := top 15
abbrev s_need_row : Stmt := top 16
abbrev s_forth : Stmt := top 17
abbrev s_is_deed : Stmt := top 19
abbrev s_need_counts : Stmt := top 22
abbrev s_choices : Stmt := top 23
abbrev s_ways : Stmt := top 24
abbrev s_often : Stmt := top 25
abbrev s_Walker_init : Stmt := inClass (top 27) 0
abbrev s_Walker_do : Stmt := inClass (top 27) 1
abbrev s_Walker_keep : Stmt := inClass (top 27) 2
abbrev s_Walker_go : Stmt := inClass (top 27) 3
abbrev s_Walker_meet : Stmt := inClass (top 27) 4
abbrev s_Walker_kept : Stmt := inClass (top 27) 5
abbrev s_Walker_met : Stmt := inClass (top 27) 6
abbrev s_first_mark : Stmt := top 29
abbrev s_again_and_again : Stmt := top 30
abbrev s_from_mark : Stmt := top 31
abbrev s_plan : Stmt := top 32
abbrev s_walked : Stmt := top 34
abbrev s_backwards : Stmt := top 35
abbrev s_l_cell_at : Stmt := top 37
abbrev s_l_number : Stmt := top 38
abbrev s_l_rule : Stmt := top 39
abbrev s_l_forth : Stmt := top 40
abbrev s_l_row : Stmt := top 41
abbrev s_l_states : Stmt := top 42
abbrev s_l_class : Stmt := top 43
abbrev s_l_made : Stmt := top 44
abbrev s_l_deeds : Stmt := top 45
abbrev s_l_wrong_deeds : Stmt := top 46
abbrev s_law : Stmt := top 47
/-- what the top has left -/
structure Txt (K : PySem.W.Frag) (mg : Str → Option Value) : Type where
  aBadCount : Addr
  aBadRule : Addr
  aBadDeed : Addr
  aNotKept : Addr
  aTwice : Addr
  aFull : Addr
  aAtEnd : Addr
  aNotWanted : Addr
  aMarkError : Addr
  aWalker : Addr
  d_is_among : Def K mg "is_among" "is_among" s_is_among ["thing", "low", "high"]
  d_is_state : Def K mg "is_state" "is_state" s_is_state ["thing"]
  d_is_rule : Def K mg "is_rule" "is_rule" s_is_rule ["thing"]
  d_need_row : Def K mg "need_row" "need_row" s_need_row ["first", "rules"]
  d_forth : Def K mg "forth" "forth" s_forth ["rule", "state"]
  d_is_deed : Def K mg "is_deed" "is_deed" s_is_deed ["thing"]
  d_need_counts : Def K mg "need_counts" "need_counts" s_need_counts ["steps", "room"]
  d_choices : Def K mg "choices" "choices" s_choices ["many", "chosen"]
  d_ways : Def K mg "ways" "ways" s_ways ["room", "times"]
  d_often : Def K mg "often" "often" s_often ["steps", "room"]
  d_first_mark : Def K mg "first_mark" "first_mark" s_first_mark ["steps", "room"]
  d_again_and_again : Def K mg "again_and_again" "again_and_again" s_again_and_again ["start", "steps"]
  d_from_mark : Def K mg "from_mark" "from_mark" s_from_mark ["start", "steps", "room"]
  d_plan : Def K mg "plan" "plan" s_plan ["steps", "room"]
  d_walked : Def K mg "walked" "walked" s_walked ["first", "rules", "room", "deeds"]
  d_backwards : Def K mg "backwards" "backwards" s_backwards ["first", "rules", "room"]
  d_l_cell_at : Def K mg "_law_cell_at" "_law_cell_at" s_l_cell_at ["_law_script", "_law_k"]
  d_l_number : Def K mg "_law_number" "_law_number" s_l_number ["_law_script", "_law_k"]
  d_l_rule : Def K mg "_law_rule" "_law_rule" s_l_rule ["_law_number_here"]
  d_l_row : Def K mg "_law_row" "_law_row" s_l_row ["_law_script", "_law_start", "_law_most"]
  d_l_class : Def K mg "_law_class" "_law_class" s_l_class ["_law_e"]
  d_l_made : Def K mg "_law_made" "_law_made" s_l_made ["_law_first", "_law_rules", "_law_room", "_law_way"]
  d_l_deeds : Def K mg "_law_deeds" "_law_deeds" s_l_deeds ["_law_first", "_law_rules", "_law_room", "_law_deeds_here"]
  d_l_wrong_deeds : Def K mg "_law_wrong_deeds" "_law_wrong_deeds" s_l_wrong_deeds ["_law_first", "_law_rules", "_law_cell"]
  d_law : Def K mg "law" "law" s_law ["_law_script"]
  o_Walker : OCW K mg aWalker
  d_Walker_init : DefI K aWalker "__init__" "Walker.__init__" s_Walker_init ["self", "first", "rules", "room"]
  d_Walker_keep : DefM K aWalker "keep" "Walker.keep" s_Walker_keep ["self"]
  d_Walker_meet : DefM K aWalker "meet" "Walker.meet" s_Walker_meet ["self"]
  d_Walker_go : DefM K aWalker "go" "Walker.go" s_Walker_go ["self", "many"]
  d_Walker_do : DefM K aWalker "do" "Walker.do" s_Walker_do ["self", "deed"]
  d_Walker_kept : DefM K aWalker "kept" "Walker.kept" s_Walker_kept ["self"]
  d_Walker_met : DefM K aWalker "met" "Walker.met" s_Walker_met ["self"]
  c_MODULUS : ∃ t, mg "MODULUS" = some (.int 999983 t)
  c_MOST_STEPS : ∃ t, mg "MOST_STEPS" = some (.int 100 t)
  c_MOST_ROOM : ∃ t, mg "MOST_ROOM" = some (.int 12 t)
  n_isinstance : mg "isinstance" = none
  n_bool : mg "bool" = none
  n_int : mg "int" = none
  n_str : mg "str" = none
  n_len : mg "len" = none
  n_tuple : mg "tuple" = none
  n_list : mg "list" = none
  n_range : mg "range" = none
  n_sorted : mg "sorted" = none
  n_min : mg "min" = none
  n_ValueError : mg "ValueError" = none
  x_BadCount : XC K mg "BadCount" aBadCount
  x_BadRule : XC K mg "BadRule" aBadRule
  x_BadDeed : XC K mg "BadDeed" aBadDeed
  x_NotKept : XC K mg "NotKept" aNotKept
  x_Twice : XC K mg "Twice" aTwice
  x_Full : XC K mg "Full" aFull
  x_AtEnd : XC K mg "AtEnd" aAtEnd
  x_NotWanted : XC K mg "NotWanted" aNotWanted
  x_MarkError : XC K mg "MarkError" aMarkError
  q_BadCount : Kind K (fun j => [aBadCount, aBadRule, aBadDeed, aFull, aTwice, aNotKept, aAtEnd, aNotWanted].getD j 0) aBadCount 0
  e_BadCount : PySem.W.exmOne K (.ref aBadCount) (.ref aMarkError) = some true
  q_BadRule : Kind K (fun j => [aBadCount, aBadRule, aBadDeed, aFull, aTwice, aNotKept, aAtEnd, aNotWanted].getD j 0) aBadRule 1
  e_BadRule : PySem.W.exmOne K (.ref aBadRule) (.ref aMarkError) = some true
  q_BadDeed : Kind K (fun j => [aBadCount, aBadRule, aBadDeed, aFull, aTwice, aNotKept, aAtEnd, aNotWanted].getD j 0) aBadDeed 2
  e_BadDeed : PySem.W.exmOne K (.ref aBadDeed) (.ref aMarkError) = some true
  q_Full : Kind K (fun j => [aBadCount, aBadRule, aBadDeed, aFull, aTwice, aNotKept, aAtEnd, aNotWanted].getD j 0) aFull 3
  e_Full : PySem.W.exmOne K (.ref aFull) (.ref aMarkError) = some true
  q_Twice : Kind K (fun j => [aBadCount, aBadRule, aBadDeed, aFull, aTwice, aNotKept, aAtEnd, aNotWanted].getD j 0) aTwice 4
  e_Twice : PySem.W.exmOne K (.ref aTwice) (.ref aMarkError) = some true
  q_NotKept : Kind K (fun j => [aBadCount, aBadRule, aBadDeed, aFull, aTwice, aNotKept, aAtEnd, aNotWanted].getD j 0) aNotKept 5
  e_NotKept : PySem.W.exmOne K (.ref aNotKept) (.ref aMarkError) = some true
  q_AtEnd : Kind K (fun j => [aBadCount, aBadRule, aBadDeed, aFull, aTwice, aNotKept, aAtEnd, aNotWanted].getD j 0) aAtEnd 6
  e_AtEnd : PySem.W.exmOne K (.ref aAtEnd) (.ref aMarkError) = some true
  q_NotWanted : Kind K (fun j => [aBadCount, aBadRule, aBadDeed, aFull, aTwice, aNotKept, aAtEnd, aNotWanted].getD j 0) aNotWanted 7
  e_NotWanted : PySem.W.exmOne K (.ref aNotWanted) (.ref aMarkError) = some true
def Txt.w8 {K : PySem.W.Frag} {mg : Str → Option Value} (T : Txt K mg) : Nat → Addr := fun j => [0, 0, T.aBadDeed, T.aFull, T.aTwice, T.aNotKept, T.aAtEnd, T.aNotWanted].getD j 0
def Txt.c8 {K : PySem.W.Frag} {mg : Str → Option Value} (T : Txt K mg) : Nat → Addr := fun j => [T.aBadCount, T.aBadRule, T.aBadDeed, T.aFull, T.aTwice, T.aNotKept, T.aAtEnd, T.aNotWanted].getD j 0
theorem sc_is_among : FnScope ["thing", "low", "high"] ["thing", "low", "high"] (defScope s_is_among) := ⟨rfl, rfl, rfl, by decide +kernel, rfl, by decide +kernel, by decide +kernel⟩
theorem sc_is_state : FnScope ["thing"] ["thing"] (defScope s_is_state) := ⟨rfl, rfl, rfl, by decide +kernel, rfl, by decide +kernel, by decide +kernel⟩
theorem sc_is_rule : FnScope ["thing"] ["thing"] (defScope s_is_rule) := ⟨rfl, rfl, rfl, by decide +kernel, rfl, by decide +kernel, by decide +kernel⟩
theorem sc_need_row : FnScope ["first", "rules", "rule"] ["first", "rules"] (defScope s_need_row) := ⟨rfl, rfl, rfl, by decide +kernel, rfl, by decide +kernel, by decide +kernel⟩
theorem sc_forth : FnScope ["rule", "state"] ["rule", "state"] (defScope s_forth) := ⟨rfl, rfl, rfl, by decide +kernel, rfl, by decide +kernel, by decide +kernel⟩
theorem sc_is_deed : FnScope ["thing"] ["thing"] (defScope s_is_deed) := ⟨rfl, rfl, rfl, by decide +kernel, rfl, by decide +kernel, by decide +kernel⟩
theorem sc_need_counts : FnScope ["steps", "room"] ["steps", "room"] (defScope s_need_counts) := ⟨rfl, rfl, rfl, by decide +kernel, rfl, by decide +kernel, by decide +kernel⟩
theorem sc_choices : FnScope ["many", "chosen", "found", "turn"] ["many", "chosen"] (defScope s_choices) := ⟨rfl, rfl, rfl, by decide +kernel, rfl, by decide +kernel, by decide +kernel⟩
theorem sc_ways : FnScope ["room", "times"] ["room", "times"] (defScope s_ways) := ⟨rfl, rfl, rfl, by decide +kernel, rfl, by decide +kernel, by decide +kernel⟩
theorem sc_often : FnScope ["steps", "room", "times"] ["steps", "room"] (defScope s_often) := ⟨rfl, rfl, rfl, by decide +kernel, rfl, by decide +kernel, by decide +kernel⟩
theorem sc_Walker_init : FnScope ["self", "first", "rules", "room"] ["self", "first", "rules", "room"] (defScope s_Walker_init) := ⟨rfl, rfl, rfl, by decide +kernel, rfl, by decide +kernel, by decide +kernel⟩
theorem sc_Walker_keep : FnScope ["self"] ["self"] (defScope s_Walker_keep) := ⟨rfl, rfl, rfl, by decide +kernel, rfl, by decide +kernel, by decide +kernel⟩
theorem sc_Walker_meet : FnScope ["self"] ["self"] (defScope s_Walker_meet) := ⟨rfl, rfl, rfl, by decide +kernel, rfl, by decide +kernel, by decide +kernel⟩
theorem sc_Walker_go : FnScope ["self", "many", "rule"] ["self", "many"] (defScope s_Walker_go) := ⟨rfl, rfl, rfl, by decide +kernel, rfl, by decide +kernel, by decide +kernel⟩
theorem sc_Walker_do : FnScope ["self", "deed"] ["self", "deed"] (defScope s_Walker_do) := ⟨rfl, rfl, rfl, by decide +kernel, rfl, by decide +kernel, by decide +kernel⟩
theorem sc_Walker_kept : FnScope ["self", "place"] ["self"] (defScope s_Walker_kept) := ⟨rfl, rfl, rfl, by decide +kernel, rfl, by decide +kernel, by decide +kernel⟩
theorem sc_Walker_met : FnScope ["self"] ["self"] (defScope s_Walker_met) := ⟨rfl, rfl, rfl, by decide +kernel, rfl, by decide +kernel, by decide +kernel⟩
theorem sc_first_mark : FnScope ["steps", "room", "times"] ["steps", "room"] (defScope s_first_mark) := ⟨rfl, rfl, rfl, by decide +kernel, rfl, by decide +kernel, by decide +kernel⟩
theorem sc_again_and_again : FnScope ["start", "steps", "found", "many"] ["start", "steps"] (defScope s_again_and_again) := ⟨rfl, rfl, rfl, by decide +kernel, rfl, by decide +kernel, by decide +kernel⟩
theorem sc_from_mark : FnScope ["start", "steps", "room", "mark", "found"] ["start", "steps", "room"] (defScope s_from_mark) := ⟨rfl, rfl, rfl, by decide +kernel, rfl, by decide +kernel, by decide +kernel⟩
theorem sc_plan : FnScope ["steps", "room"] ["steps", "room"] (defScope s_plan) := ⟨rfl, rfl, rfl, by decide +kernel, rfl, by decide +kernel, by decide +kernel⟩
theorem sc_walked : FnScope ["first", "rules", "room", "deeds", "walker", "deed"] ["first", "rules", "room", "deeds"] (defScope s_walked) := ⟨rfl, rfl, rfl, by decide +kernel, rfl, by decide +kernel, by decide +kernel⟩
theorem sc_backwards : FnScope ["first", "rules", "room", "walker", "deed"] ["first", "rules", "room"] (defScope s_backwards) := ⟨rfl, rfl, rfl, by decide +kernel, rfl, by decide +kernel, by decide +kernel⟩
theorem sc_l_cell_at : FnScope ["_law_script", "_law_k"] ["_law_script", "_law_k"] (defScope s_l_cell_at) := ⟨rfl, rfl, rfl, by decide +kernel, rfl, by decide +kernel, by decide +kernel⟩
theorem sc_l_number : FnScope ["_law_script", "_law_k", "_law_base"] ["_law_script", "_law_k"] (defScope s_l_number) := ⟨rfl, rfl, rfl, by decide +kernel, rfl, by decide +kernel, by decide +kernel⟩
theorem sc_l_rule : FnScope ["_law_number_here", "_law_k"] ["_law_number_here"] (defScope s_l_rule) := ⟨rfl, rfl, rfl, by decide +kernel, rfl, by decide +kernel, by decide +kernel⟩
theorem sc_l_row : FnScope ["_law_script", "_law_start", "_law_most", "_law_first", "_law_many", "_law_k"] ["_law_script", "_law_start", "_law_most"] (defScope s_l_row) := ⟨rfl, rfl, rfl, by decide +kernel, rfl, by decide +kernel, by decide +kernel⟩
theorem sc_l_class : FnScope ["_law_e", "_law_kinds", "_law_words"] ["_law_e"] (defScope s_l_class) := ⟨rfl, rfl, rfl, by decide +kernel, rfl, by decide +kernel, by decide +kernel⟩
theorem sc_l_made : FnScope ["_law_first", "_law_rules", "_law_room", "_law_way", "_law_e"] ["_law_first", "_law_rules", "_law_room", "_law_way"] (defScope s_l_made) := ⟨rfl, rfl, rfl, by decide +kernel, rfl, by decide +kernel, by decide +kernel⟩
theorem sc_l_deeds : FnScope ["_law_first", "_law_rules", "_law_room", "_law_deeds_here", "_law_walker", "_law_e"] ["_law_first", "_law_rules", "_law_room", "_law_deeds_here"] (defScope s_l_deeds) := ⟨rfl, rfl, rfl, by decide +kernel, rfl, by decide +kernel, by decide +kernel⟩
theorem sc_l_wrong_deeds : FnScope ["_law_first", "_law_rules", "_law_cell", "_law_good", "_law_odd", "_law_deed", "_law_due", "_law_at", "_law_deeds_here"] ["_law_first", "_law_rules", "_law_cell"] (defScope s_l_wrong_deeds) := ⟨rfl, rfl, rfl, by decide +kernel, rfl, by decide +kernel, by decide +kernel⟩
theorem sc_law : FnScope ["_law_script", "_law_first", "_law_rules", "_law_room", "_law_cell", "_law_due", "_law_at", "_law_handed", "_law_way", "_law_walker"] ["_law_script"] (defScope s_law) := ⟨rfl, rfl, rfl, by decide +kernel, rfl, by decide +kernel, by decide +kernel⟩
section
variable {P : Program} {w : World} {K : PySem.W.Frag} {mg : Str → Option Value} {base : Heap}
-- @@ is_among
/-- is_among(thing, low, high) -/
def sp_is_among (K : PySem.W.Frag) : Sp := fun vs H Q _ => ∃ (x : V) (lo hi : Int) (o : Option Int), vs = [x, .int lo, .int hi] ∧ Thg K H x o ∧ Q (.bl (among o lo hi)) H
theorem ok_is_among (T : Txt K mg) : OkF P w K mg base "is_among" 1 ["thing", "low", "high"] (sp_is_among K) := by
  refine okf T.d_is_among sc_is_among (fun vs H Q E h => ?_) (fun f cdv A outer s H vs Q E hr h => ?_)
  · obtain ⟨x, lo, hi, o, rfl, th, k⟩ := h
    rfl
  · obtain ⟨x, lo, hi, o, rfl, th, k⟩ := h
    refine ⟨_, (pss_one (ps_ret (pe_and (pe_callB call_isi (by rfl) T.n_isinstance (by decide +kernel) (pa_cons (pv 0) (pa_cons (pe_bltn (v := .ty "int") (by rfl) T.n_int (by decide +kernel) rfl) pa_nil))) (pe_and (pe_not (pe_callB call_isi (by rfl) T.n_isinstance (by decide +kernel) (pa_cons (pv 0) (pa_cons (pe_bltn (v := .ty "bool") (by rfl) T.n_bool (by decide +kernel) rfl) pa_nil)))) (pe_one (pe_chain op_le op_le (pv 1) (pv 0) (pv 2))))))), ?_⟩
    refine ⟨_, rfl, ?_⟩
    cases th with
    | int i =>
      refine ⟨_, _, _, _, true, rfl, .ty "int", .base (.int i), kit_ty (by decide +kernel), true, rfl, iteT ?_⟩
      refine ⟨_, rfl, _, _, _, _, false, rfl, .ty "bool", .base (.int i), kit_ty (by decide +kernel), false, rfl, true, rfl, iteT ?_⟩
      refine ⟨_, rfl, _, rfl, _, _, rfl, rfl, _, rfl, ?_⟩
      refine ite2 (fun c => ?_) (fun c => ?_)
      · refine ⟨_, rfl, _, _, rfl, rfl, ?_⟩
        have e : among (some i) lo hi = decide (i ≤ hi) := by
          show (decide (lo ≤ i) && decide (i ≤ hi)) = decide (i ≤ hi)
          rw [c, Bool.true_and]
        rw [e] at k
        exact k
      · have e : among (some i) lo hi = false := by
          show (decide (lo ≤ i) && decide (i ≤ hi)) = false
          rw [Bool.eq_false_iff.mpr c, Bool.false_and]
        rw [e] at k
        exact k
    | bl b =>
      refine ⟨_, _, _, _, true, rfl, .ty "int", .base (.bl b), kit_ty (by decide +kernel), true, rfl, iteT ?_⟩
      refine ⟨_, rfl, _, _, _, _, true, rfl, .ty "bool", .base (.bl b), kit_ty (by decide +kernel), true, rfl, false, rfl, iteF ?_⟩
      exact k
    | oth ty ni =>
      refine ⟨_, _, _, _, false, rfl, .ty "int", ty, ni, false, rfl, iteF ?_⟩
      exact k
-- @@ is_state
def sp_is_state (K : PySem.W.Frag) : Sp := fun vs H Q _ => ∃ (x : V) (o : Option Int), vs = [x] ∧ Thg K H x o ∧ Q (.bl (among o 0 999982)) H
theorem ok_is_state (T : Txt K mg) : OkF P w K mg base "is_state" 2 ["thing"] (sp_is_state K) := by
  obtain ⟨f_is_among, fd_is_among, m_is_among, k_is_among, b_is_among, G_is_among⟩ := ok_is_among (P := P) (w := w) (base := base) T
  refine okf T.d_is_state sc_is_state (fun vs H Q E h => ?_) (fun f cdv A outer s H vs Q E hr h => ?_)
  · obtain ⟨x, o, rfl, th, k⟩ := h
    rfl
  · obtain ⟨x, o, rfl, th, k⟩ := h
    refine ⟨_, (pss_one (ps_ret (pe_call G_is_among (hr.mono (by decide)) (by rfl) m_is_among k_is_among b_is_among .nil passL (pa_cons (pv 0) (pa_cons pe_int (pa_cons (pe_op op_sub (pe_glob (v := .int 999983) (by rfl) T.c_MODULUS.choose_spec ⟨_, rfl⟩) pe_int) pa_nil)))))), ?_⟩
    exact ⟨_, rfl, _, _, rfl, rfl, x, 0, 999982, o, rfl, th, k⟩
-- @@ is_rule
def sp_is_rule (K : PySem.W.Frag) : Sp := fun vs H Q _ => ∃ (x : V) (b : Bool), vs = [x] ∧ RuleTh K H x b ∧ Q (.bl b) H
theorem str_eq (w v : Str) : decide (V.str w = V.str v) = decide (w = v) := decide_eq_decide.mpr ⟨V.str.inj, fun e => by rw [e]⟩
theorem len_ne0 {v : V} {r : List V} : decide (V.int ((v :: r).length : Int) = V.int 0) = false := decide_eq_false (fun z => by have := V.int.inj z; rw [List.length_cons] at this; omega)
def RTail (K : PySem.W.Frag) (H : Hp) (w : Str) (r : List V) (b : Bool) : Prop :=
  ((w = "add" ∨ w = "times") ∧ r.length ≠ 1 ∧ b = false) ∨ (∃ v o, (w = "add" ∨ w = "times") ∧ r = [v] ∧ Thg K H v o ∧ b = among o 0 999982) ∨ (w ≠ "add" ∧ w ≠ "times" ∧ b = (decide (r = []) && (decide (w = "square") || decide (w = "half"))))
theorem ok_is_rule (T : Txt K mg) : OkF P w K mg base "is_rule" 3 ["thing"] (sp_is_rule K) := by
  obtain ⟨f_is_state, fd_is_state, m_is_state, k_is_state, b_is_state, G_is_state⟩ := ok_is_state (P := P) (w := w) (base := base) T
  refine okf T.d_is_rule sc_is_rule (fun vs H Q E h => ?_) (fun f cdv A outer s H vs Q E hr h => ?_)
  · obtain ⟨x, b, rfl, th, k⟩ := h
    rfl
  · obtain ⟨x, b, rfl, th, k⟩ := h
    refine ⟨_, (Evl.pss_cut (ps_if (PW.pt (pw_or (pt_not (pt_val (pe_callB call_isi (by rfl) T.n_isinstance (by decide +kernel) (pa_cons (pv 0) (pa_cons (pe_bltn (v := .ty "tuple") (by rfl) T.n_tuple (by decide +kernel) rfl) pa_nil))))) (pw_or (pt_cmpR op_eq (pe_callB call_len_seq (by rfl) T.n_len PySem.boot_len (pa_cons (pv 0) pa_nil)) pe_int (nomark _)) (pw_or1 (pt_not (pt_val (pe_callB call_isi (by rfl) T.n_isinstance (by decide +kernel) (pa_cons (pe_ix ix_tup (pv 0) pe_int (fun _ _ => rfl)) (pa_cons (pe_bltn (v := .ty "str") (by rfl) T.n_str (by decide +kernel) rfl) pa_nil)))))))))
        (pss_one (ps_ret pe_bl))
        pss_nil)
        (Evl.pss_cut (ps_if (PW.pt (pw_or (pt_cmpR op_eq (pe_ix ix_tup (pv 0) pe_int (fun _ _ => rfl)) pe_str (nomark _)) (pw_or1 (pt_cmpR op_eq (pe_ix ix_tup (pv 0) pe_int (fun _ _ => rfl)) pe_str (nomark _)))))
        (pss_one (ps_ret (pe_and (pe_cmpR op_eq (pe_callB call_len_seq (by rfl) T.n_len PySem.boot_len (pa_cons (pv 0) pa_nil)) pe_int (nomark _)) (pe_one (pe_call G_is_state (hr.mono (by decide)) (by rfl) m_is_state k_is_state b_is_state .nil passL (pa_cons (pe_ix ix_tup (pv 0) pe_int (fun _ _ => rfl)) pa_nil))))))
        pss_nil)
        (pss_one (ps_ret (pe_and (pe_cmpR op_eq (pe_callB call_len_seq (by rfl) T.n_len PySem.boot_len (pa_cons (pv 0) pa_nil)) pe_int (nomark _)) (pe_one (pe_or (pe_cmpR op_eq (pe_ix ix_tup (pv 0) pe_int (fun _ _ => rfl)) pe_str (nomark _)) (pe_one (pe_cmpR op_eq (pe_ix ix_tup (pv 0) pe_int (fun _ _ => rfl)) pe_str (nomark _)))))))))), ?_⟩
    refine ⟨fun σ H' => H' = H ∧ σ = [some x] ∧ ∃ q w r, x = .ref q ∧ H q = some (.tup (.str w :: r)) ∧ RTail K H w r b, ?_, ?_⟩
    · cases th with
      | ntup ty ni =>
        exact ⟨_, rfl, x, _, _, _, false, rfl, .ty "tuple", ty, ni, false, rfl, iteT k⟩
      | @nil q hq =>
        refine ⟨_, rfl, .ref q, _, _, _, true, rfl, .ty "tuple", .base (.tup hq), kit_ty (by decide +kernel), true, rfl, iteF ?_⟩
        exact ⟨_, rfl, q, _, rfl, .inr (SqT.of hq), rfl, _, rfl, iteT k⟩
      | @nstr q v r t hq ty ni =>
        refine ⟨_, rfl, .ref q, _, _, _, true, rfl, .ty "tuple", .base (.tup hq), kit_ty (by decide +kernel), true, rfl, iteF ?_⟩
        refine ⟨_, rfl, q, _, rfl, .inr (SqT.of hq), rfl, _, rfl, ?_⟩
        rw [len_ne0]
        refine iteF ?_
        exact ⟨_, rfl, q, _, _, v, rfl, rfl, SqT.of hq, atI_nat (j := 0) rfl, v, _, _, _, false, rfl, .ty "str", ty, ni, false, rfl, iteT k⟩
      | @two q w r hq hw hl =>
        refine ⟨_, rfl, .ref q, _, _, _, true, rfl, .ty "tuple", .base (.tup hq), kit_ty (by decide +kernel), true, rfl, iteF ?_⟩
        refine ⟨_, rfl, q, _, rfl, .inr (SqT.of hq), rfl, _, rfl, ?_⟩
        rw [len_ne0]
        refine iteF ?_
        exact ⟨_, rfl, q, _, _, .str w, rfl, rfl, SqT.of hq, atI_nat (j := 0) rfl, .str w, _, _, _, true, rfl, .ty "str", .base (.str _), kit_ty (by decide +kernel), true, rfl, iteF ⟨rfl, rfl, q, w, r, rfl, hq, .inl ⟨hw, hl, rfl⟩⟩⟩
      | @num q w v o hq hw th =>
        refine ⟨_, rfl, .ref q, _, _, _, true, rfl, .ty "tuple", .base (.tup hq), kit_ty (by decide +kernel), true, rfl, iteF ?_⟩
        refine ⟨_, rfl, q, _, rfl, .inr (SqT.of hq), rfl, _, rfl, iteF ?_⟩
        exact ⟨_, rfl, q, _, _, .str w, rfl, rfl, SqT.of hq, atI_nat (j := 0) rfl, .str w, _, _, _, true, rfl, .ty "str", .base (.str _), kit_ty (by decide +kernel), true, rfl, iteF ⟨rfl, rfl, q, w, _, rfl, hq, .inr (.inl ⟨v, o, hw, rfl, th, rfl⟩)⟩⟩
      | @one q w r _ hq h1 h2 hb =>
        refine ⟨_, rfl, .ref q, _, _, _, true, rfl, .ty "tuple", .base (.tup hq), kit_ty (by decide +kernel), true, rfl, iteF ?_⟩
        refine ⟨_, rfl, q, _, rfl, .inr (SqT.of hq), rfl, _, rfl, ?_⟩
        rw [len_ne0]
        refine iteF ?_
        exact ⟨_, rfl, q, _, _, .str w, rfl, rfl, SqT.of hq, atI_nat (j := 0) rfl, .str w, _, _, _, true, rfl, .ty "str", .base (.str _), kit_ty (by decide +kernel), true, rfl, iteF ⟨rfl, rfl, q, w, r, rfl, hq, .inr (.inr ⟨h1, h2, hb⟩)⟩⟩
    rintro σ H' ⟨rfl, rfl, q, w, r, rfl, hq, tl⟩
    refine ⟨fun σ H1 => H1 = H' ∧ σ = [some (.ref q)] ∧ b = (decide (r = []) && (decide (w = "square") || decide (w = "half"))), ?_, ?_⟩
    · have go : (w = "add" ∨ w = "times") → (tAndV (tOp rEq (tCB (fun xs H Q => ∃ p ys, xs = [V.ref p] ∧ (SqL K H p ys ∨ SqT K H p ys) ∧ Q (V.int ys.length) H) (tCons (tVar 0) tNil)) (tC (.int 2))) (tCall (sp_is_state K) [] E0 (tCons (tOp (rIxT K) (tVar 0) (tC (.int 1))) tNil))) [some (.ref q)] H' (fun v H2 => Q v H2) := fun hw => by
        refine ⟨_, rfl, q, _, rfl, .inr (SqT.of hq), rfl, _, rfl, ?_⟩
        rcases tl with ⟨_, hl, hb⟩ | ⟨v, o, _, rfl, th, hb⟩ | ⟨h1, h2, _⟩
        · rw [show decide (V.int ((V.str w :: r).length : Int) = V.int 2) = false from decide_eq_false (fun z => by have := V.int.inj z; rw [List.length_cons] at this; omega)]
          rw [hb] at k
          exact iteF k
        · refine iteT ?_
          rw [hb] at k
          exact ⟨_, rfl, q, _, _, v, rfl, rfl, SqT.of hq, atI_nat (j := 1) rfl, v, o, rfl, th, k⟩
        · exact absurd hw (fun z => z.elim h1 h2)
      refine ⟨_, rfl, q, _, _, .str w, rfl, rfl, SqT.of hq, atI_nat (j := 0) rfl, rfl, _, rfl, ?_⟩
      rw [str_eq]
      refine ite2 (fun c => ?_) (fun c => ?_)
      · exact iteT (go (.inl (of_decide_eq_true c)))
      · refine ⟨_, rfl, q, _, _, .str w, rfl, rfl, SqT.of hq, atI_nat (j := 0) rfl, rfl, _, rfl, ?_⟩
        rw [str_eq]
        refine ite2 (fun c2 => ?_) (fun c2 => ?_)
        · exact go (.inr (of_decide_eq_true c2))
        · rcases tl with ⟨hw, _⟩ | ⟨v, o, hw, _⟩ | ⟨h1, h2, hb⟩
          · exact absurd hw (fun z => z.elim (fun z => c (decide_eq_true z)) (fun z => c2 (decide_eq_true z)))
          · exact absurd hw (fun z => z.elim (fun z => c (decide_eq_true z)) (fun z => c2 (decide_eq_true z)))
          · exact ⟨rfl, rfl, hb⟩
    rintro σ H1 ⟨rfl, rfl, hb⟩
    refine ⟨_, rfl, q, _, rfl, .inr (SqT.of hq), rfl, _, rfl, ?_⟩
    have el : decide (V.int ((V.str w :: r).length : Int) = V.int 1) = decide (r = []) := decide_eq_decide.mpr ⟨fun z => by
      have := V.int.inj z
      rw [List.length_cons] at this
      exact List.length_eq_zero_iff.mp (by omega), fun z => by rw [z] <;> rfl⟩
    rw [el]
    rw [hb] at k
    refine ite2 (fun c => ?_) (fun c => ?_)
    · rw [c, Bool.true_and] at k
      refine ⟨_, rfl, q, _, _, .str w, rfl, rfl, SqT.of hq, atI_nat (j := 0) rfl, rfl, _, rfl, ?_⟩
      rw [str_eq]
      refine ite2 (fun c1 => ?_) (fun c1 => ?_)
      · rw [c1, Bool.true_or] at k
        exact k
      · rw [Bool.eq_false_iff.mpr c1, Bool.false_or] at k
        refine ⟨_, rfl, q, _, _, .str w, rfl, rfl, SqT.of hq, atI_nat (j := 0) rfl, rfl, ?_⟩
        rw [str_eq]
        exact k
    · rw [Bool.eq_false_iff.mpr c, Bool.false_and] at k
      exact k
-- @@ need_row
def sp_need_row (K : PySem.W.Frag) (C1 C2 : Addr) : Sp := fun vs H Q E => ∃ (x y : V) (o : Option Int) (b : Bool), vs = [x, y] ∧ Thg K H x o ∧ ListTh K H y b ∧ (among o 0 999982 = false → E (.ref C1) none H) ∧ (among o 0 999982 = true → b = false → E (.ref C2) none H) ∧ (among o 0 999982 = true → b = true → Q .non H)
theorem ok_need_row (T : Txt K mg) : OkF P w K mg base "need_row" 4 ["first", "rules"] (sp_need_row K T.aBadCount T.aBadRule) := by
  obtain ⟨f_is_state, fd_is_state, m_is_state, k_is_state, b_is_state, G_is_state⟩ := ok_is_state (P := P) (w := w) (base := base) T
  obtain ⟨f_is_rule, fd_is_rule, m_is_rule, k_is_rule, b_is_rule, G_is_rule⟩ := ok_is_rule (P := P) (w := w) (base := base) T
  refine okf T.d_need_row sc_need_row (fun vs H Q E h => ?_) (fun f cdv A outer s H vs Q E hr h => ?_)
  · obtain ⟨x, y, o, b, rfl, tx, ty, k1, k2, k3⟩ := h
    rfl
  · obtain ⟨x, y, o, b, rfl, tx, ty, k1, k2, k3⟩ := h
    refine ⟨_, (pss_cons (ps_if (pt_not (pt_val (pe_call G_is_state (hr.mono (by decide)) (by rfl) m_is_state k_is_state b_is_state .nil passL (pa_cons (pv 0) pa_nil))))
        (pss_one (ps_raise rfl (takes_of rfl rfl rfl rfl) (pmk_own PySem.F.excBase_ValueError T.x_BadCount.x T.x_BadCount.g T.x_BadCount.k (raises_own T.x_BadCount.b T.x_BadCount.t) rfl)))
        pss_nil)
        (pss_cons (ps_if (PW.pt (pw_or (pt_not (pt_val (pe_callB call_isi (by rfl) T.n_isinstance (by decide +kernel) (pa_cons (pv 1) (pa_cons (pe_bltn (v := .ty "list") (by rfl) T.n_list (by decide +kernel) rfl) pa_nil))))) (pw_or1 (pt_cmpR op_gt (pe_callB call_len_seq (by rfl) T.n_len PySem.boot_len (pa_cons (pv 1) pa_nil)) (pe_glob (v := .int 100) (by rfl) T.c_MOST_STEPS.choose_spec ⟨_, rfl⟩) (nomark _)))))
        (pss_one (ps_raise rfl (takes_of rfl rfl rfl rfl) (pmk_own PySem.F.excBase_ValueError T.x_BadRule.x T.x_BadRule.g T.x_BadRule.k (raises_own T.x_BadRule.b T.x_BadRule.t) rfl)))
        pss_nil)
        (pss_one (ps_for (passes_of rfl) rfl (pi_list (pv 1)) (pg_name (i := 2) sc_need_row.nd rfl (Or.inl rfl))
        (pss_one (ps_if (pt_not (pt_val (pe_call G_is_rule (hr.mono (by decide)) (by rfl) m_is_rule k_is_rule b_is_rule .nil passL (pa_cons (pv 2) pa_nil))))
        (pss_one (ps_raise rfl (takes_of rfl rfl rfl rfl) (pmk_own PySem.F.excBase_ValueError T.x_BadRule.x T.x_BadRule.g T.x_BadRule.k (raises_own T.x_BadRule.b T.x_BadRule.t) rfl)))
        pss_nil)))))), ?_⟩
    refine ⟨_, rfl, x, o, rfl, tx, _, rfl, ?_⟩
    cases c : among o 0 999982 with
    | false => exact iteT (k1 c)
    | true =>
      refine iteF ?_
      cases ty with
      | nlist ty ni =>
        exact ⟨_, rfl, y, _, _, _, false, rfl, .ty "list", ty, ni, false, rfl, iteT (k2 c rfl)⟩
      | @big p xs hP hl =>
        refine ⟨_, rfl, .ref p, _, _, _, true, rfl, .ty "list", .base (.lst hP), kit_ty (by decide +kernel), true, rfl, iteF ?_⟩
        refine ⟨_, rfl, p, _, rfl, .inl (SqL.of hP), _, _, rfl, rfl, _, rfl, ?_⟩
        rw [decide_eq_true (show (100 : Int) < (xs.length : Int) by omega)]
        exact iteT (k2 c rfl)
      | @all p xs bs hP hl hb ht =>
        refine ⟨_, rfl, .ref p, _, _, _, true, rfl, .ty "list", .base (.lst hP), kit_ty (by decide +kernel), true, rfl, iteF ?_⟩
        refine ⟨_, rfl, p, _, rfl, .inl (SqL.of hP), _, _, rfl, rfl, _, rfl, ?_⟩
        rw [decide_eq_false (show ¬ (100 : Int) < (xs.length : Int) by omega)]
        refine iteF ?_
        refine ⟨_, rfl, p, rfl, ⟨_, SqL.of hP⟩, ?_⟩
        refine for_list (K := K) (a := p) (xs := xs) (fun i σ H' => H' = H ∧ (∃ u, σ = [some x, some (.ref p), u]) ∧ ∀ (j : Nat), j < i → bs[j]? = some true) ⟨rfl, ⟨none, rfl⟩, fun j hj => by omega⟩ (fun i σ H' _ ⟨e, _⟩ => by rw [e]; exact SqL.of hP) ?_ ?_
        · rintro i z σ H' hi ⟨rfl, ⟨u, rfl⟩, hj⟩
          have hil := (List.getElem?_eq_some_iff.mp hi).1
          obtain ⟨b', hb'⟩ : ∃ b', bs[i]? = some b' := ⟨bs[i]'(by omega), List.getElem?_eq_getElem _⟩
          have th := ht i z b' hi hb'
          refine ⟨_, rfl, z, b', rfl, th, _, rfl, ?_⟩
          cases b' with
          | false =>
            refine iteT ?_
            refine k2 c ?_
            refine Bool.eq_false_iff.mpr fun e => ?_
            have := List.all_eq_true.mp e false (List.mem_of_getElem? hb')
            exact absurd this (by decide)
          | true =>
            refine iteF ⟨rfl, ⟨_, rfl⟩, fun j hj' => ?_⟩
            by_cases e : j = i
            · rw [e]
              exact hb'
            · exact hj j (by omega)
        · rintro σ H' ⟨rfl, ⟨u, rfl⟩, hj⟩
          refine k3 c ?_
          refine List.all_eq_true.mpr fun b' hb' => ?_
          obtain ⟨j, hj1, hj2⟩ := List.getElem_of_mem hb'
          have := hj j (by omega)
          rw [List.getElem?_eq_getElem hj1, hj2] at this
          exact Option.some.inj this
-- @@ forth
def sp_forth (K : PySem.W.Frag) : Sp := fun vs H Q _ => ∃ (q : Addr) (r : Rule) (s : Nat), vs = [.ref q, .int (s : Int)] ∧ H q = some (.tup r.vs) ∧ r.ok ∧ s < 999983 ∧ Q (.int (forthN r s : Int)) H
theorem ok_forth (T : Txt K mg) : OkF P w K mg base "forth" 1 ["rule", "state"] (sp_forth K) := by
  refine okf T.d_forth sc_forth (fun vs H Q E h => ?_) (fun f cdv A outer s H vs Q E hr h => ?_)
  · obtain ⟨q, r, s', rfl, hq, ok, hs, k⟩ := h
    rfl
  · obtain ⟨q, r, s', rfl, hq, ok, hs, k⟩ := h
    refine ⟨_, (pss_cons (ps_if (pt_cmpR op_eq (pe_ix ix_tup (pv 0) pe_int (fun _ _ => rfl)) pe_str (nomark _))
        (pss_one (ps_ret (pe_op op_mod (pe_op op_add (pv 1) (pe_ix ix_tup (pv 0) pe_int (fun _ _ => rfl))) (pe_glob (v := .int 999983) (by rfl) T.c_MODULUS.choose_spec ⟨_, rfl⟩))))
        pss_nil)
        (pss_cons (ps_if (pt_cmpR op_eq (pe_ix ix_tup (pv 0) pe_int (fun _ _ => rfl)) pe_str (nomark _))
        (pss_one (ps_ret (pe_op op_mod (pe_op op_mul (pv 1) (pe_ix ix_tup (pv 0) pe_int (fun _ _ => rfl))) (pe_glob (v := .int 999983) (by rfl) T.c_MODULUS.choose_spec ⟨_, rfl⟩))))
        pss_nil)
        (pss_cons (ps_if (pt_cmpR op_eq (pe_ix ix_tup (pv 0) pe_int (fun _ _ => rfl)) pe_str (nomark _))
        (pss_one (ps_ret (pe_op op_mod (pe_op op_mul (pv 1) (pv 1)) (pe_glob (v := .int 999983) (by rfl) T.c_MODULUS.choose_spec ⟨_, rfl⟩))))
        pss_nil)
        (pss_one (ps_ret (pe_op op_fdiv (pv 1) pe_int)))))), ?_⟩
    refine ⟨_, rfl, q, _, _, .str r.word, rfl, rfl, SqT.of hq, r.at0, rfl, _, rfl, ?_⟩
    have ne : ∀ {a b : Str}, a ≠ b → decide (V.str a = V.str b) = false := fun h => decide_eq_false fun z => h (V.str.inj z)
    cases r with
    | add j =>
      have hj : j < 999983 := ok
      refine iteT ?_
      refine ⟨_, rfl, _, rfl, q, _, _, .int (j : Int), rfl, rfl, SqT.of hq, rfl, _, _, rfl, rfl, _, _, rfl, rfl, by show (0 : Int) < 999983; decide, ?_⟩
      have e : ((s' : Int) + (j : Int)) % 999983 = (forthN (.add j) s' : Int) := by
        show _ = (((s' + j) % 999983 : Nat) : Int)
        omega
      show Q (V.int (((s' : Int) + (j : Int)) % 999983)) H
      rw [e]
      exact k
    | times j =>
      have hj : j < 999983 := ok
      rw [ne (show Rule.word (.times j) ≠ "add" from (by decide +kernel : ("times" : Str) ≠ "add"))]
      refine iteF ?_
      refine ⟨_, rfl, q, _, _, .str "times", rfl, rfl, SqT.of hq, rfl, rfl, _, rfl, iteT ?_⟩
      refine ⟨_, rfl, _, rfl, q, _, _, .int (j : Int), rfl, rfl, SqT.of hq, rfl, _, _, rfl, rfl, .inl ⟨by omega, by omega⟩, _, _, rfl, rfl, by show (0 : Int) < 999983; decide, ?_⟩
      have e : ((s' : Int) * (j : Int)) % 999983 = (forthN (.times j) s' : Int) := by
        show _ = ((s' * j % 999983 : Nat) : Int)
        rw [Int.natCast_emod, Int.natCast_mul] <;> rfl
      show Q (V.int (((s' : Int) * (j : Int)) % 999983)) H
      rw [e]
      exact k
    | square =>
      rw [ne (show Rule.word .square ≠ "add" from (by decide +kernel : ("square" : Str) ≠ "add"))]
      refine iteF ?_
      refine ⟨_, rfl, q, _, _, .str "square", rfl, rfl, SqT.of hq, rfl, rfl, _, rfl, ?_⟩
      rw [ne (show ("square" : Str) ≠ "times" by decide +kernel)]
      refine iteF ?_
      refine ⟨_, rfl, q, _, _, .str "square", rfl, rfl, SqT.of hq, rfl, rfl, _, rfl, iteT ?_⟩
      refine ⟨_, rfl, _, rfl, _, _, rfl, rfl, .inl ⟨by omega, by omega⟩, _, _, rfl, rfl, by show (0 : Int) < 999983; decide, ?_⟩
      have e : ((s' : Int) * (s' : Int)) % 999983 = (forthN .square s' : Int) := by
        show _ = ((s' * s' % 999983 : Nat) : Int)
        rw [Int.natCast_emod, Int.natCast_mul] <;> rfl
      show Q (V.int (((s' : Int) * (s' : Int)) % 999983)) H
      rw [e]
      exact k
    | half =>
      rw [ne (show Rule.word .half ≠ "add" from (by decide +kernel : ("half" : Str) ≠ "add"))]
      refine iteF ?_
      refine ⟨_, rfl, q, _, _, .str "half", rfl, rfl, SqT.of hq, rfl, rfl, _, rfl, ?_⟩
      rw [ne (show ("half" : Str) ≠ "times" by decide +kernel)]
      refine iteF ?_
      refine ⟨_, rfl, q, _, _, .str "half", rfl, rfl, SqT.of hq, rfl, rfl, _, rfl, ?_⟩
      rw [ne (show ("half" : Str) ≠ "square" by decide +kernel)]
      refine iteF ?_
      refine ⟨_, rfl, _, _, rfl, rfl, ⟨by decide, by decide⟩, ?_⟩
      have e : (s' : Int) / 2 = (forthN .half s' : Int) := by
        show _ = ((s' / 2 : Nat) : Int)
        omega
      show Q (V.int ((s' : Int) / 2)) H
      rw [e]
      exact k
-- @@ is_deed
def sp_is_deed (K : PySem.W.Frag) : Sp := fun vs H Q _ => ∃ (x : V) (b : Bool), vs = [x] ∧ DeedTh K H x b ∧ Q (.bl b) H
theorem str_eqD (w v : Str) : decide (V.str w = V.str v) = decide (w = v) := decide_eq_decide.mpr ⟨V.str.inj, fun e => by rw [e]⟩
theorem len_ne0D {v : V} {r : List V} : decide (V.int ((v :: r).length : Int) = V.int 0) = false := decide_eq_false (fun z => by have := V.int.inj z; rw [List.length_cons] at this; omega)
def DTail (K : PySem.W.Frag) (H : Hp) (w : Str) (r : List V) (b : Bool) : Prop :=
  ((w = "keep" ∨ w = "meet") ∧ b = decide (r = [])) ∨ (w ≠ "keep" ∧ w ≠ "meet" ∧ r.length ≠ 1 ∧ b = false) ∨ (∃ v o, w ≠ "keep" ∧ w ≠ "meet" ∧ r = [v] ∧ Thg K H v o ∧ b = if w = "go" then among o 1 100 else (decide (w = "take") || decide (w = "drop")) && among o 0 100)
theorem ok_is_deed (T : Txt K mg) : OkF P w K mg base "is_deed" 2 ["thing"] (sp_is_deed K) := by
  obtain ⟨f_is_among, fd_is_among, m_is_among, k_is_among, b_is_among, G_is_among⟩ := ok_is_among (P := P) (w := w) (base := base) T
  refine okf T.d_is_deed sc_is_deed (fun vs H Q E h => ?_) (fun f cdv A outer s H vs Q E hr h => ?_)
  · obtain ⟨x, b, rfl, th, k⟩ := h
    rfl
  · obtain ⟨x, b, rfl, th, k⟩ := h
    refine ⟨_, (Evl.pss_cut (ps_if (PW.pt (pw_or (pt_not (pt_val (pe_callB call_isi (by rfl) T.n_isinstance (by decide +kernel) (pa_cons (pv 0) (pa_cons (pe_bltn (v := .ty "tuple") (by rfl) T.n_tuple (by decide +kernel) rfl) pa_nil))))) (pw_or (pt_cmpR op_eq (pe_callB call_len_seq (by rfl) T.n_len PySem.boot_len (pa_cons (pv 0) pa_nil)) pe_int (nomark _)) (pw_or1 (pt_not (pt_val (pe_callB call_isi (by rfl) T.n_isinstance (by decide +kernel) (pa_cons (pe_ix ix_tup (pv 0) pe_int (fun _ _ => rfl)) (pa_cons (pe_bltn (v := .ty "str") (by rfl) T.n_str (by decide +kernel) rfl) pa_nil)))))))))
        (pss_one (ps_ret pe_bl))
        pss_nil)
        (Evl.pss_cut (ps_if (PW.pt (pw_or (pt_cmpR op_eq (pe_ix ix_tup (pv 0) pe_int (fun _ _ => rfl)) pe_str (nomark _)) (pw_or1 (pt_cmpR op_eq (pe_ix ix_tup (pv 0) pe_int (fun _ _ => rfl)) pe_str (nomark _)))))
        (pss_one (ps_ret (pe_cmpR op_eq (pe_callB call_len_seq (by rfl) T.n_len PySem.boot_len (pa_cons (pv 0) pa_nil)) pe_int (nomark _))))
        pss_nil)
        (pss_cons (ps_if (pt_cmpR op_ne (pe_callB call_len_seq (by rfl) T.n_len PySem.boot_len (pa_cons (pv 0) pa_nil)) pe_int (nomark _))
        (pss_one (ps_ret pe_bl))
        pss_nil)
        (pss_cons (ps_if (pt_cmpR op_eq (pe_ix ix_tup (pv 0) pe_int (fun _ _ => rfl)) pe_str (nomark _))
        (pss_one (ps_ret (pe_call G_is_among (hr.mono (by decide)) (by rfl) m_is_among k_is_among b_is_among .nil passL (pa_cons (pe_ix ix_tup (pv 0) pe_int (fun _ _ => rfl)) (pa_cons pe_int (pa_cons (pe_glob (v := .int 100) (by rfl) T.c_MOST_STEPS.choose_spec ⟨_, rfl⟩) pa_nil))))))
        pss_nil)
        (pss_one (ps_ret (pe_and (pe_or (pe_cmpR op_eq (pe_ix ix_tup (pv 0) pe_int (fun _ _ => rfl)) pe_str (nomark _)) (pe_one (pe_cmpR op_eq (pe_ix ix_tup (pv 0) pe_int (fun _ _ => rfl)) pe_str (nomark _)))) (pe_one (pe_call G_is_among (hr.mono (by decide)) (by rfl) m_is_among k_is_among b_is_among .nil passL (pa_cons (pe_ix ix_tup (pv 0) pe_int (fun _ _ => rfl)) (pa_cons pe_int (pa_cons (pe_glob (v := .int 100) (by rfl) T.c_MOST_STEPS.choose_spec ⟨_, rfl⟩) pa_nil)))))))))))), ?_⟩
    refine ⟨fun σ H' => H' = H ∧ σ = [some x] ∧ ∃ q w r, x = .ref q ∧ H q = some (.tup (.str w :: r)) ∧ DTail K H w r b, ?_, ?_⟩
    · have body : ∀ q w r, H q = some (.tup (.str w :: r)) → DTail K H w r b → x = .ref q → (tIfS (tOr (tNot (tB (tCB (rIsi K) (tCons (tVar 0) (tCons (tC (.ty "tuple")) tNil))))) (tOr (tTest (tOp rEq (tCB (fun xs H Q => ∃ p ys, xs = [V.ref p] ∧ (SqL K H p ys ∨ SqT K H p ys) ∧ Q (V.int ys.length) H) (tCons (tVar 0) tNil)) (tC (.int 0)))) (tNot (tB (tCB (rIsi K) (tCons (tOp (rIxT K) (tVar 0) (tC (.int 0))) (tCons (tC (.ty "str")) tNil))))))) (tRet (tC (.bl false))) tNext)
          { nx := fun σ H' => H' = H ∧ σ = [some x] ∧ ∃ q w r, x = .ref q ∧ H q = some (.tup (.str w :: r)) ∧ DTail K H w r b, rt := Q } [some x] H := fun q w r hq tl hx => by
        refine ⟨_, rfl, x, _, _, _, true, rfl, .ty "tuple", by rw [hx]; exact .base (.tup hq), kit_ty (by decide +kernel), true, rfl, iteF ?_⟩
        refine ⟨_, rfl, q, _, by rw [hx], .inr (SqT.of hq), rfl, _, rfl, ?_⟩
        rw [len_ne0D]
        refine iteF ?_
        exact ⟨_, rfl, q, _, _, .str w, hx, rfl, SqT.of hq, atI_nat (j := 0) rfl, .str w, _, _, _, true, rfl, .ty "str", .base (.str _), kit_ty (by decide +kernel), true, rfl, iteF ⟨rfl, rfl, q, w, r, hx, hq, tl⟩⟩
      cases th with
      | ntup ty ni =>
        exact ⟨_, rfl, x, _, _, _, false, rfl, .ty "tuple", ty, ni, false, rfl, iteT k⟩
      | @nil q hq =>
        refine ⟨_, rfl, .ref q, _, _, _, true, rfl, .ty "tuple", .base (.tup hq), kit_ty (by decide +kernel), true, rfl, iteF ?_⟩
        exact ⟨_, rfl, q, _, rfl, .inr (SqT.of hq), rfl, _, rfl, iteT k⟩
      | @nstr q v r t hq ty ni =>
        refine ⟨_, rfl, .ref q, _, _, _, true, rfl, .ty "tuple", .base (.tup hq), kit_ty (by decide +kernel), true, rfl, iteF ?_⟩
        refine ⟨_, rfl, q, _, rfl, .inr (SqT.of hq), rfl, _, rfl, ?_⟩
        rw [len_ne0D]
        refine iteF ?_
        exact ⟨_, rfl, q, _, _, v, rfl, rfl, SqT.of hq, atI_nat (j := 0) rfl, v, _, _, _, false, rfl, .ty "str", ty, ni, false, rfl, iteT k⟩
      | @one q w r _ hq hw hb => exact body q w r hq (.inl ⟨hw, hb⟩) rfl
      | @two q w r hq h1 h2 hl => exact body q w r hq (.inr (.inl ⟨h1, h2, hl, rfl⟩)) rfl
      | @num q w v o _ hq h1 h2 th hb => exact body q w [v] hq (.inr (.inr ⟨v, o, h1, h2, rfl, th, hb⟩)) rfl
    rintro σ H' ⟨rfl, rfl, q, w, r, rfl, hq, tl⟩
    have lenq : ∀ n : Nat, decide (V.int ((V.str w :: r).length : Int) = V.int (n : Int)) = decide (r.length + 1 = n) := fun n => decide_eq_decide.mpr ⟨fun z => by
      have := V.int.inj z
      rw [List.length_cons] at this
      omega, fun z => by rw [List.length_cons, z]⟩
    refine ⟨fun σ H1 => H1 = H' ∧ σ = [some (.ref q)] ∧ w ≠ "keep" ∧ w ≠ "meet", ?_, ?_⟩
    · have go : (w = "keep" ∨ w = "meet") → Q (.bl (decide (V.int ((V.str w :: r).length : Int) = V.int 1))) H' := fun hw => by
        rcases tl with ⟨_, hb⟩ | ⟨h1, h2, _⟩ | ⟨v, o, h1, h2, _⟩
        · rw [show (decide (V.int ((V.str w :: r).length : Int) = V.int 1)) = decide (r = []) from (lenq 1).trans (decide_eq_decide.mpr ⟨fun z => List.length_eq_zero_iff.mp (by omega), fun z => by rw [z] <;> rfl⟩), ← hb]
          exact k
        · exact absurd hw (fun z => z.elim h1 h2)
        · exact absurd hw (fun z => z.elim h1 h2)
      refine ⟨_, rfl, q, _, _, .str w, rfl, rfl, SqT.of hq, atI_nat (j := 0) rfl, rfl, _, rfl, ?_⟩
      rw [str_eqD]
      refine ite2 (fun c => ?_) (fun c => ?_)
      · exact iteT ⟨_, rfl, q, _, rfl, .inr (SqT.of hq), rfl, go (.inl (of_decide_eq_true c))⟩
      · refine ⟨_, rfl, q, _, _, .str w, rfl, rfl, SqT.of hq, atI_nat (j := 0) rfl, rfl, _, rfl, ?_⟩
        rw [str_eqD]
        refine ite2 (fun c2 => ?_) (fun c2 => ?_)
        · exact ⟨_, rfl, q, _, rfl, .inr (SqT.of hq), rfl, go (.inr (of_decide_eq_true c2))⟩
        · exact ⟨rfl, rfl, fun z => c (decide_eq_true z), fun z => c2 (decide_eq_true z)⟩
    rintro σ H1 ⟨rfl, rfl, h1, h2⟩
    refine ⟨_, rfl, q, _, rfl, .inr (SqT.of hq), rfl, _, rfl, ?_⟩
    rw [show (decide (V.int ((V.str w :: r).length : Int) = V.int 2)) = decide (r.length + 1 = 2) from lenq 2]
    rcases tl with ⟨hw, _⟩ | ⟨_, _, hl, hb⟩ | ⟨v, o, _, _, rfl, th, hb⟩
    · exact absurd hw (fun z => z.elim h1 h2)
    · rw [decide_eq_false (show ¬ (r.length + 1 = 2) by omega)]
      rw [hb] at k
      exact iteT k
    · refine iteF ?_
      refine ⟨_, rfl, q, _, _, .str w, rfl, rfl, SqT.of hq, atI_nat (j := 0) rfl, rfl, _, rfl, ?_⟩
      rw [str_eqD]
      by_cases cg : w = "go"
      · rw [decide_eq_true cg]
        rw [if_pos cg] at hb
        rw [hb] at k
        exact iteT ⟨_, rfl, q, _, _, v, rfl, rfl, SqT.of hq, atI_nat (j := 1) rfl, v, 1, 100, o, rfl, th, k⟩
      · rw [decide_eq_false cg]
        rw [if_neg cg] at hb
        rw [hb] at k
        refine iteF ?_
        have last : ∀ c : Bool, c = (decide (w = "take") || decide (w = "drop")) → (if c = true then (tCall (sp_is_among K) [] E0 (tCons (tOp (rIxT K) (tVar 0) (tC (.int 1))) (tCons (tC (.int 0)) (tCons (tC (.int 100)) tNil)))) [some (.ref q)] H1 (fun v H2 => Q v H2) else Q (.bl false) H1) := fun c hc => by
          rw [← hc] at k
          cases c with
          | true =>
            rw [Bool.true_and] at k
            exact iteT ⟨_, rfl, q, _, _, v, rfl, rfl, SqT.of hq, atI_nat (j := 1) rfl, v, 0, 100, o, rfl, th, k⟩
          | false =>
            rw [Bool.false_and] at k
            exact iteF k
        refine ⟨_, rfl, q, _, _, .str w, rfl, rfl, SqT.of hq, atI_nat (j := 0) rfl, rfl, _, rfl, ?_⟩
        rw [str_eqD]
        refine ite2 (fun c => ?_) (fun c => ?_)
        · exact ⟨true, rfl, last true (by rw [c, Bool.true_or])⟩
        · refine ⟨_, rfl, q, _, _, .str w, rfl, rfl, SqT.of hq, atI_nat (j := 0) rfl, rfl, ?_⟩
          rw [str_eqD]
          exact ⟨_, rfl, last _ (by rw [Bool.eq_false_iff.mpr c, Bool.false_or])⟩
-- @@ need_counts
theorem good_ok {s r : Nat} (h1 : s ≤ 100) (h2 : 1 ≤ r) (h3 : r ≤ 12) : goodC (some (s : Int)) (some (r : Int)) = true := by
  show ((decide ((0 : Int) ≤ (s : Int)) && decide ((s : Int) ≤ 100)) && (decide ((1 : Int) ≤ (r : Int)) && decide ((r : Int) ≤ 12))) = true
  simp only [Bool.and_eq_true, decide_eq_true_eq]
  omega
def sp_need_counts (K : PySem.W.Frag) (C : Addr) : Sp := fun vs H Q E => ∃ (x y : V) (o1 o2 : Option Int), vs = [x, y] ∧ Thg K H x o1 ∧ Thg K H y o2 ∧ (goodC o1 o2 = true → Q .non H) ∧ (goodC o1 o2 = false → E (.ref C) none H)
theorem ok_need_counts (T : Txt K mg) : OkF P w K mg base "need_counts" 2 ["steps", "room"] (sp_need_counts K T.aBadCount) := by
  obtain ⟨f_is_among, fd_is_among, m_is_among, k_is_among, b_is_among, G_is_among⟩ := ok_is_among (P := P) (w := w) (base := base) T
  refine okf T.d_need_counts sc_need_counts (fun vs H Q E h => ?_) (fun f cdv A outer s H vs Q E hr h => ?_)
  · obtain ⟨x, y, o1, o2, rfl, t1, t2, kg, kb⟩ := h
    rfl
  · obtain ⟨x, y, o1, o2, rfl, t1, t2, kg, kb⟩ := h
    refine ⟨_, (pss_cons (ps_if (pt_not (pt_val (pe_call G_is_among (hr.mono (by decide)) (by rfl) m_is_among k_is_among b_is_among .nil passL (pa_cons (pv 0) (pa_cons pe_int (pa_cons (pe_glob (v := .int 100) (by rfl) T.c_MOST_STEPS.choose_spec ⟨_, rfl⟩) pa_nil))))))
        (pss_one (ps_raise rfl (takes_of rfl rfl rfl rfl) (pmk_own PySem.F.excBase_ValueError T.x_BadCount.x T.x_BadCount.g T.x_BadCount.k (raises_own T.x_BadCount.b T.x_BadCount.t) rfl)))
        pss_nil)
        (pss_one (ps_if (pt_not (pt_val (pe_call G_is_among (hr.mono (by decide)) (by rfl) m_is_among k_is_among b_is_among .nil passL (pa_cons (pv 1) (pa_cons pe_int (pa_cons (pe_glob (v := .int 12) (by rfl) T.c_MOST_ROOM.choose_spec ⟨_, rfl⟩) pa_nil))))))
        (pss_one (ps_raise rfl (takes_of rfl rfl rfl rfl) (pmk_own PySem.F.excBase_ValueError T.x_BadCount.x T.x_BadCount.g T.x_BadCount.k (raises_own T.x_BadCount.b T.x_BadCount.t) rfl)))
        pss_nil))), ?_⟩
    refine ⟨_, rfl, x, 0, 100, o1, rfl, t1, _, rfl, ?_⟩
    cases c1 : among o1 0 100 with
    | false =>
      refine iteT ?_
      refine kb ?_
      unfold goodC
      rw [c1, Bool.false_and]
    | true =>
      refine iteF ?_
      refine ⟨_, rfl, y, 1, 12, o2, rfl, t2, _, rfl, ?_⟩
      cases c2 : among o2 1 12 with
      | false =>
        refine iteT ?_
        refine kb ?_
        unfold goodC
        rw [c1, c2, Bool.true_and]
      | true =>
        refine iteF ?_
        refine kg ?_
        unfold goodC
        rw [c1, c2, Bool.true_and]
-- @@ choices
def sp_choices : Sp := fun vs H Q _ => ∃ m c : Nat, vs = [.int (m : Int), .int (c : Int)] ∧ c ≤ m ∧ m ≤ 1000 ∧ Q (.int (choN m c : Int)) H
theorem ok_choices (T : Txt K mg) : OkF P w K mg base "choices" 1 ["many", "chosen"] (sp_choices) := by
  refine okf T.d_choices sc_choices (fun vs H Q E h => ?_) (fun f cdv A outer s H vs Q E hr h => ?_)
  · obtain ⟨m, c, rfl, hc, hm, k⟩ := h
    rfl
  · obtain ⟨m, c, rfl, hc, hm, k⟩ := h
    refine ⟨_, (pss_cons (ps_set (i := 2) sc_choices.nd rfl (Or.inl rfl) pe_int)
        (pss_cons (ps_for (passes_of rfl) rfl (pi_range1 (by rfl) T.n_range (pa_cons (pv 1) pa_nil)) (pg_name (i := 3) sc_choices.nd rfl (Or.inl rfl))
        (pss_one (ps_set (i := 2) sc_choices.nd rfl (Or.inl rfl) (pe_op op_fdiv (pe_op op_mul (pv 2) (pe_op op_sub (pv 0) (pv 3))) (pe_op op_add (pv 3) pe_int)))))
        (pss_one (ps_ret (pv 2))))), ?_⟩
    refine ⟨_, rfl, _, rfl, by omega, by omega, ?_⟩
    refine for_range (lo := 0) (n := (c : Int).toNat) (fun i σ H' => H' = H ∧ ∃ v, σ = [some (.int (m : Int)), some (.int (c : Int)), some (.int (choN m i : Int)), v]) ⟨rfl, none, rfl⟩ ?_ ?_
    · rintro i σ H' hi ⟨rfl, v, rfl⟩
      rw [Int.toNat_natCast] at hi
      refine ⟨_, rfl, _, rfl, _, rfl, _, _, rfl, rfl, _, _, rfl, rfl, .inr ⟨by show -(2 ^ 64 : Int) < (m : Int) - (0 + (i : Int)); omega, by show (m : Int) - (0 + (i : Int)) < 2 ^ 64; omega⟩, _, rfl, _, _, rfl, rfl, _, _, rfl, rfl, ⟨by show (0 : Int) < 0 + (i : Int) + 1; omega, by show (0 : Int) + (i : Int) + 1 < 1073741824; omega⟩, ?_⟩
      refine ⟨rfl, some (.int (0 + (i : Int))), ?_⟩
      have e1 : ((m : Int) - (0 + (i : Int))) = ((m - i : Nat) : Int) := by omega
      have e2 : ((0 : Int) + (i : Int) + 1) = ((i + 1 : Nat) : Int) := by omega
      have e : ((choN m i : Int) * ((m : Int) - (0 + (i : Int)))) / (0 + (i : Int) + 1) = (choN m (i + 1) : Int) := by
        rw [e1, e2, choN_succ]
        show _ = ((choN m i * (m - i) / (i + 1) : Nat) : Int)
        rw [Int.natCast_ediv, Int.natCast_mul]
      show [some (V.int (m : Int)), some (V.int (c : Int)), some (V.int (((choN m i : Int) * ((m : Int) - (0 + (i : Int)))) / (0 + (i : Int) + 1))), some (V.int (0 + (i : Int)))] = _
      rw [e]
    · rintro σ H' ⟨rfl, v, rfl⟩
      rw [Int.toNat_natCast]
      exact ⟨_, rfl, k⟩
-- @@ ways
def sp_ways : Sp := fun vs H Q _ => ∃ r t : Nat, vs = [.int (r : Int), .int (t : Int)] ∧ r + t ≤ 1000 ∧ Q (.int (waysN r t : Int)) H
theorem ok_ways (T : Txt K mg) : OkF P w K mg base "ways" 2 ["room", "times"] (sp_ways) := by
  obtain ⟨f_choices, fd_choices, m_choices, k_choices, b_choices, G_choices⟩ := ok_choices (P := P) (w := w) (base := base) T
  refine okf T.d_ways sc_ways (fun vs H Q E h => ?_) (fun f cdv A outer s H vs Q E hr h => ?_)
  · obtain ⟨r, t, rfl, hb, k⟩ := h
    rfl
  · obtain ⟨r, t, rfl, hb, k⟩ := h
    refine ⟨_, (pss_one (ps_ret (pe_call G_choices (hr.mono (by decide)) (by rfl) m_choices k_choices b_choices .nil passL (pa_cons (pe_op op_add (pv 0) (pv 1)) (pa_cons (pv 0) pa_nil))))), ?_⟩
    exact ⟨_, rfl, _, rfl, _, _, rfl, rfl, _, rfl, r + t, r, by rw [Int.natCast_add] <;> rfl, Nat.le_add_right _ _, hb, k⟩
-- @@ often
def sp_often : Sp := fun vs H Q _ => ∃ s r : Nat, vs = [.int (s : Int), .int (r : Int)] ∧ s ≤ 100 ∧ 1 ≤ r ∧ r ≤ 12 ∧ Q (.int (oftN s r : Int)) H
theorem ok_often (T : Txt K mg) : OkF P w K mg base "often" 3 ["steps", "room"] (sp_often) := by
  obtain ⟨f_ways, fd_ways, m_ways, k_ways, b_ways, G_ways⟩ := ok_ways (P := P) (w := w) (base := base) T
  refine okf T.d_often sc_often (fun vs H Q E h => ?_) (fun f cdv A outer s H vs Q E hr h => ?_)
  · obtain ⟨s', r, rfl, hs, h1, h2, k⟩ := h
    rfl
  · obtain ⟨s', r, rfl, hs, h1, h2, k⟩ := h
    refine ⟨_, (pss_cons (ps_set (i := 2) sc_often.nd rfl (Or.inl rfl) pe_int)
        (pss_cons (ps_while (passes_of rfl) (pt_cmpR op_le (pe_call G_ways (hr.mono (by decide)) (by rfl) m_ways k_ways b_ways .nil passL (pa_cons (pv 1) (pa_cons (pv 2) pa_nil))) (pv 0) (nomark _))
        (pss_one (ps_set (i := 2) sc_often.nd rfl (Or.inl rfl) (pe_op op_add (pv 2) pe_int))))
        (pss_one (ps_ret (pv 2))))), ?_⟩
    refine ⟨fun n σ H' => ∃ t : Nat, t + n = 101 ∧ H' = H ∧ σ = [some (.int (s' : Int)), some (.int (r : Int)), some (.int (t : Int))] ∧ oftGo s' r n t = oftN s' r, ⟨101, 0, rfl, rfl, rfl, rfl⟩, ?_⟩
    rintro n σ H' ⟨t, ht, rfl, rfl, e⟩
    refine ⟨_, rfl, _, rfl, r, t, rfl, by omega, _, rfl, _, _, rfl, rfl, _, rfl, ?_⟩
    refine ite2 (fun c => ?_) (fun c => ?_)
    · have c' : waysN r t ≤ s' := by
        have := of_decide_eq_true c
        omega
      cases n with
      | zero =>
        have f := ways_far r (by omega) h1
        have z : t = 101 := by omega
        rw [z] at c'
        omega
      | succ n =>
        rw [oft_yes c'] at e
        refine ⟨fun σ' H'' => ∃ t : Nat, t + n = 101 ∧ H'' = H' ∧ σ' = [some (.int (s' : Int)), some (.int (r : Int)), some (.int (t : Int))] ∧ oftGo s' r n t = oftN s' r, fun σ' H'' q => ⟨n, Nat.lt_succ_self n, q⟩, ?_⟩
        exact ⟨_, rfl, _, _, rfl, rfl, t + 1, by omega, rfl, rfl, e⟩
    · have c' : ¬ waysN r t ≤ s' := fun z => c (decide_eq_true (by omega))
      rw [oft_no c'] at e
      rw [← e] at k
      exact ⟨_, rfl, k⟩
-- @@ Walker.__init__
def InitBad (K : PySem.W.Frag) (C1 C2 : Addr) (H : Hp) (fx y rm : V) (E : XK) : Prop := ∃ o b o3, Thg K H fx o ∧ ListTh K H y b ∧ Thg K H rm o3 ∧
  ((among o 0 999982 = false ∧ E (.ref C1) none H) ∨ (among o 0 999982 = true ∧ b = false ∧ E (.ref C2) none H) ∨ (among o 0 999982 = true ∧ b = true ∧ among o3 1 12 = false ∧ E (.ref C1) none H))
def sp_Walker_init (K : PySem.W.Frag) (C C1 C2 : Addr) : Sp := fun vs H Q E =>
  (∃ (x dx p : Addr) (f R : Nat) (rs : List (Addr × Rule)), vs = [.ref x, .int (f : Int), .ref p, .int (R : Int)] ∧ H x = some (.ins C dx []) ∧ H p = some (.lst (refsR rs)) ∧ RS H rs ∧ f < 999983 ∧ rs.length ≤ 100 ∧ 1 ≤ R ∧ R ≤ 12 ∧
    ∀ (A : WA) (H' : Hp), A.x = x → A.dx = dx → H A.rl = none → H A.md = none → H A.sn = none → (∀ b o, H b = some o → b ≠ x → H' b = some o) → WAt C H' A rs R (wk0 f rs.length) → Q .non H') ∨
  (∃ (x : Addr) (fx y rm : V), vs = [.ref x, fx, y, rm] ∧ InitBad K C1 C2 H fx y rm E)
theorem InitBad.up {K : PySem.W.Frag} {C1 C2 : Addr} {H H0 : Hp} {fx y rm : V} {E : XK} (e : Same H H0) (h : InitBad K C1 C2 H fx y rm (fun c d _ => ∀ H', Same H H' → E c d H')) : InitBad K C1 C2 H0 fx y rm E := by
  obtain ⟨o, b, o3, t1, t2, t3, bad⟩ := h
  have lt : ListTh K H0 y b := by
    cases t2 with
    | nlist ty ni => exact .nlist (tyX_same e ty) ni
    | big h hl => exact .big (e _ _ h) hl
    | all h hl hb ht => exact .all (e _ _ h) hl hb fun i x b hx hb => (ht i x b hx hb).same e
  refine ⟨o, b, o3, t1.same e, lt, t3.same e, ?_⟩
  rcases bad with ⟨a, z⟩ | ⟨a, b', z⟩ | ⟨a, b', c, z⟩
  · exact .inl ⟨a, z _ e⟩
  · exact .inr (.inl ⟨a, b', z _ e⟩)
  · exact .inr (.inr ⟨a, b', c, z _ e⟩)
theorem ok_Walker_init (T : Txt K mg) : OkI P w K mg base T.aWalker "__init__" 5 ["self", "first", "rules", "room"] (sp_Walker_init K T.aWalker T.aBadCount T.aBadRule) := by
  obtain ⟨f_need_row, fd_need_row, m_need_row, k_need_row, b_need_row, G_need_row⟩ := ok_need_row (P := P) (w := w) (base := base) T
  obtain ⟨f_is_among, fd_is_among, m_is_among, k_is_among, b_is_among, G_is_among⟩ := ok_is_among (P := P) (w := w) (base := base) T
  refine oki T.d_Walker_init sc_Walker_init (fun vs H Q E h => ?_) (fun f cdv A outer s H vs Q E hr h => ?_)
  · rcases h with ⟨x, dx, p, f, R, rs, rfl, _⟩ | ⟨x, fx, y, rm, rfl, _⟩ <;> rfl
  · skip
    refine ⟨_, (pss_cons (ps_expr (pe_call G_need_row (hr.mono (by decide)) (by rfl) m_need_row k_need_row b_need_row .nil (passes_call (W := fun cls d _ H => E cls d H) (takes_of rfl rfl rfl rfl) (fun _ _ _ _ h => h)) (pa_cons (pv 1) (pa_cons (pv 2) pa_nil))))
        (pss_cons (ps_if (pt_not (pt_val (pe_call G_is_among (hr.mono (by decide)) (by rfl) m_is_among k_is_among b_is_among .nil passL (pa_cons (pv 3) (pa_cons pe_int (pa_cons (pe_glob (v := .int 12) (by rfl) T.c_MOST_ROOM.choose_spec ⟨_, rfl⟩) pa_nil))))))
        (pss_one (ps_raise rfl (takes_of rfl rfl rfl rfl) (pmk_own PySem.F.excBase_ValueError T.x_BadCount.x T.x_BadCount.g T.x_BadCount.k (raises_own T.x_BadCount.b T.x_BadCount.t) rfl)))
        pss_nil)
        (pss_cons (ps_fld (pv 0) (pe_callTy (T := "list") (r := rListOf K) call_list_of (by rfl) T.n_list (by decide +kernel) (pa_cons (pv 2) pa_nil)) rfl)
        (pss_cons (ps_fld (pv 0) (pv 3) rfl)
        (pss_cons (ps_fld (pv 0) pe_int rfl)
        (pss_cons (ps_fld (pv 0) (pv 1) rfl)
        (pss_cons (ps_fld (pv 0) pe_int rfl)
        (pss_cons (ps_fld (pv 0) (pe_callB call_len_seq (by rfl) T.n_len PySem.boot_len (pa_cons (pv 2) pa_nil)) rfl)
        (pss_cons (ps_fld (pv 0) pe_dnewK rfl)
        (pss_one (ps_fld (pv 0) (pe_lst pa_nil) rfl))))))))))), ?_⟩
    rcases h with ⟨x, dx, p, f, R, rs, rfl, hx, hP, hR, hf, hl, r1, r2, k⟩ | ⟨x, fx, y, rm, rfl, o, b, o3, t1, t2, t3, bad⟩
    case inr =>
      refine ⟨_, rfl, _, rfl, fx, y, o, b, rfl, t1, t2, fun c => ?_, fun c c2 => ?_, fun c c2 => ?_⟩
      · rcases bad with ⟨_, e⟩ | ⟨c', _⟩ | ⟨c', _⟩
        · exact e
        · rw [c] at c'; cases c'
        · rw [c] at c'; cases c'
      · rcases bad with ⟨c', _⟩ | ⟨_, _, e⟩ | ⟨_, c', _⟩
        · rw [c] at c'; cases c'
        · exact e
        · rw [c2] at c'; cases c'
      · rcases bad with ⟨c', _⟩ | ⟨_, c', _⟩ | ⟨_, _, c3, e⟩
        · rw [c] at c'; cases c'
        · rw [c2] at c'; cases c'
        · refine ⟨_, rfl, rm, 1, 12, o3, rfl, t3, _, rfl, ?_⟩
          rw [c3]
          exact iteT e
    have cl := T.o_Walker.cl
    have am : among (some (f : Int)) 0 999982 = true := among_of (by omega) (by omega)
    refine ⟨_, rfl, _, rfl, .int (f : Int), .ref p, some _, true, rfl, .int _, ListTh.good hP hR hl, fun c => absurd c (by rw [am]; decide), fun _ c => absurd c (by decide), fun _ _ => ?_⟩
    have am2 : among (some (R : Int)) 1 12 = true := among_of (by omega) (by omega)
    refine ⟨_, rfl, .int (R : Int), 1, 12, some _, rfl, .int _, _, rfl, ?_⟩
    rw [am2]
    refine iteF ?_
    refine ⟨_, rfl, p, _, rfl, .inl (SqL.of hP), fun l hl1 => ?_⟩
    have nxl : x ≠ l := ne_of_none hx hl1
    refine ⟨_, rfl, x, T.aWalker, dx, [], rfl, by rw [upd_ne nxl]; exact hx, cl, T.o_Walker.nru, by show 0 < 1000; decide, ?_⟩
    refine ⟨_, rfl, _, rfl, x, T.aWalker, dx, _, rfl, upd_same, cl, T.o_Walker.nro, by show 1 < 1000; decide, ?_⟩
    refine ⟨_, rfl, x, T.aWalker, dx, _, rfl, upd_same, cl, T.o_Walker.npl, by show 2 < 1000; decide, ?_⟩
    refine ⟨_, rfl, _, rfl, x, T.aWalker, dx, _, rfl, upd_same, cl, T.o_Walker.nst, by show 3 < 1000; decide, ?_⟩
    refine ⟨_, rfl, x, T.aWalker, dx, _, rfl, upd_same, cl, T.o_Walker.ndn, by show 4 < 1000; decide, ?_⟩
    have npx : p ≠ x := ne_of hP hx (by intro z; cases z)
    have npl : p ≠ l := ne_of_none hP hl1
    refine ⟨_, rfl, p, _, rfl, .inl (SqL.of (by rw [upd_ne npx, upd_ne npx, upd_ne npx, upd_ne npx, upd_ne npx, upd_ne npl]; exact hP)), _, rfl, x, T.aWalker, dx, _, rfl, upd_same, cl, T.o_Walker.nwa, by show 5 < 1000; decide, ?_⟩
    refine fun m hm => ?_
    have nxm : x ≠ m := ne_of_none upd_same hm
    refine ⟨_, rfl, x, T.aWalker, dx, _, rfl, by rw [upd_ne nxm]; exact upd_same, cl, T.o_Walker.nma, by show 6 < 1000; decide, ?_⟩
    refine ⟨by show 0 ≤ sizeLine; decide, fun n hn => ?_⟩
    have nxn : x ≠ n := ne_of_none upd_same hn
    refine ⟨_, rfl, x, T.aWalker, dx, _, rfl, by rw [upd_ne nxn]; exact upd_same, cl, T.o_Walker.nse, by show 7 < 1000; decide, ?_⟩
    have hm0 : (upd H l (.lst (refsR rs))) m = none := by
      simpa only [upd_ne nxm.symm] using hm
    have nlm : l ≠ m := ne_of_none upd_same hm0
    have hn0 : (upd (upd H l (.lst (refsR rs))) m (.dK [])) n = none := by
      have z := hn
      rw [upd_ne nxn.symm] at z
      by_cases e : n = m
      · rw [e, upd_same] at z; cases z
      · rw [upd_ne e] at z ⊢
        simpa only [upd_ne nxn.symm] using z
    have nmn : m ≠ n := ne_of_none upd_same hn0
    have nln : l ≠ n := ne_of_none (o := .lst (refsR rs)) (by rw [upd_ne nlm]; exact upd_same) hn0
    have keepl : ∀ b o, b ≠ x → (upd H l (.lst (refsR rs))) b = some o → b ≠ m → b ≠ n → upd (upd (upd (upd (upd (upd (upd (upd (upd (upd (upd H l (.lst (refsR rs))) x (.ins T.aWalker dx (putF "rules" (.ref l) []))) x (.ins T.aWalker dx (putF "room" (.int (R : Int)) (putF "rules" (.ref l) [])))) x (.ins T.aWalker dx (putF "place" (.int 0) (putF "room" (.int (R : Int)) (putF "rules" (.ref l) []))))) x (.ins T.aWalker dx (putF "state" (.int (f : Int)) (putF "place" (.int 0) (putF "room" (.int (R : Int)) (putF "rules" (.ref l) [])))))) x (.ins T.aWalker dx (putF "done" (.int 0) (putF "state" (.int (f : Int)) (putF "place" (.int 0) (putF "room" (.int (R : Int)) (putF "rules" (.ref l) []))))))) x (.ins T.aWalker dx (putF "wanted" (.int ((refsR rs).length : Int)) (putF "done" (.int 0) (putF "state" (.int (f : Int)) (putF "place" (.int 0) (putF "room" (.int (R : Int)) (putF "rules" (.ref l) [])))))))) m (.dK [])) x (.ins T.aWalker dx (putF "marks" (.ref m) (putF "wanted" (.int ((refsR rs).length : Int)) (putF "done" (.int 0) (putF "state" (.int (f : Int)) (putF "place" (.int 0) (putF "room" (.int (R : Int)) (putF "rules" (.ref l) []))))))))) n (.lst [])) x (.ins T.aWalker dx (putF "seen" (.ref n) (putF "marks" (.ref m) (putF "wanted" (.int ((refsR rs).length : Int)) (putF "done" (.int 0) (putF "state" (.int (f : Int)) (putF "place" (.int 0) (putF "room" (.int (R : Int)) (putF "rules" (.ref l) [])))))))))  b = some o := fun b o hb h n1 n2 => by
      rw [upd_ne hb, upd_ne n2, upd_ne hb, upd_ne n1, upd_ne hb, upd_ne hb, upd_ne hb, upd_ne hb, upd_ne hb, upd_ne hb]
      exact h
    refine k ⟨x, dx, l, m, n⟩ _ rfl rfl hl1 ((Same.new hl1).free hm0) ((Same.new hl1).free ((Same.new hm0).free hn0)) (fun b o h hb => ?_) ?_
    · have h1 := (Same.new (o := .lst (refsR rs)) hl1) _ _ h
      have h2 := (Same.new (o := .dK []) hm0) _ _ h1
      exact keepl b o hb h1 (ne_of_none h1 hm0) (ne_of_none h2 hn0)
    · refine ⟨?_, keepl l _ nxl.symm upd_same nlm nln, ?_, ?_, nln⟩
      · show upd _ x _ x = _
        rw [upd_same, wF_made, refsR_len] <;> rfl
      · show upd _ x _ m = _
        rw [upd_ne nxm.symm, upd_ne nmn, upd_ne nxm.symm, upd_same] <;> rfl
      · show upd _ x _ n = _
        rw [upd_ne nxn.symm, upd_same] <;> rfl
-- @@ Walker.keep
theorem cut_rules (rs : List (Addr × Rule)) (i m : Nat) : cutV (refsR rs) (some (i : Int)) (some ((i : Int) + (m : Int))) = refsR ((rs.drop i).take m) := by
  unfold cutV refsR
  have e1 : ∀ (n j d : Nat), HT.sIx n d (some (j : Int)) = min j n := fun n j d => by
    unfold HT.sIx
    first | rfl | (simp; omega) | (split <;> simp <;> omega)
  rw [show ((i : Int) + (m : Int)) = ((i + m : Nat) : Int) from rfl, e1, e1, List.length_map]
  by_cases c : i ≤ rs.length
  · rw [Nat.min_eq_left c, ← List.map_drop, ← List.map_take]
    congr 1
    by_cases c2 : i + m ≤ rs.length
    · rw [Nat.min_eq_left c2, show i + m - i = m by omega]
    · rw [Nat.min_eq_right (by omega), List.take_of_length_le (by rw [List.length_drop]; omega), List.take_of_length_le (by rw [List.length_drop]; omega)]
  · rw [Nat.min_eq_right (by omega), Nat.min_eq_right (by omega), List.drop_of_length_le (by rw [List.length_map]; omega), List.drop_of_length_le (by omega), List.take_nil, List.take_nil] <;> rfl
def sp_Walker_keep (K : PySem.W.Frag) (C : Addr) (c8 : Nat → Addr) : Sp := fun vs H Q E => ∃ (A : WA) (rs : List (Addr × Rule)) (R : Nat) (w : WK), vs = [.ref A.x] ∧ StepP K C c8 H A rs R w .keep Q E
theorem ok_Walker_keep (T : Txt K mg) : OkM P w K mg base T.aWalker "keep" 1 ["self"] (sp_Walker_keep K T.aWalker T.w8) := by
  refine okm T.d_Walker_keep sc_Walker_keep (fun vs H Q E h => ?_) (fun f cdv A outer s H vs Q E hr h => ?_)
  · obtain ⟨A, rs, R, w', rfl, W, hR, ok, hl, hm, hs, kg, kb⟩ := h
    rfl
  · obtain ⟨A, rs, R, w', rfl, W, hR, ok, hl, hm, hs, kg, kb⟩ := h
    refine ⟨_, (pss_cons (ps_if (pt_cmp (pc_din (hu_of hr) (pe_fld (pv 0) rfl) (pe_fld (pv 0) rfl)))
        (pss_one (ps_raise rfl (takes_of rfl rfl rfl rfl) (pmk_own PySem.F.excBase_ValueError T.x_Twice.x T.x_Twice.g T.x_Twice.k (raises_own T.x_Twice.b T.x_Twice.t) rfl)))
        pss_nil)
        (pss_cons (ps_if (pt_cmpR op_eq (pe_callB call_lenD (by rfl) T.n_len PySem.boot_len (pa_cons (pe_fld (pv 0) rfl) pa_nil)) (pe_fld (pv 0) rfl) (nomark _))
        (pss_one (ps_raise rfl (takes_of rfl rfl rfl rfl) (pmk_own PySem.F.excBase_ValueError T.x_Full.x T.x_Full.g T.x_Full.k (raises_own T.x_Full.b T.x_Full.t) rfl)))
        pss_nil)
        (pss_one (ps_dput (hu_of hr) (pe_fld (pv 0) rfl) (pe_fld (pv 0) rfl) (pe_fld (pv 0) rfl) rfl)))), ?_⟩
    have hu := hu_of hr
    have cl := T.o_Walker.cl
    have O := T.o_Walker
    refine ⟨_, rfl, A.x, T.aWalker, A.dx, _, _, rfl, W.ob, cl, O.npl, wF_place .., _, rfl, A.x, T.aWalker, A.dx, _, _, rfl, W.ob, cl, O.nma, wF_marks .., A.md, _, rfl, DGet.k (k := Sum.inl (w'.pl : Int)) W.ma, _, rfl, ?_⟩
    rw [mkK_val]
    cases e : stOf w'.mks w'.pl with
    | some s =>
      refine iteT ?_
      refine kb 4 ?_
      show (if (stOf w'.mks w'.pl).isSome = true then Except.error 4 else _) = Except.error 4
      rw [e] <;> rfl
    | none =>
      refine iteF ?_
      refine ⟨_, rfl, A.x, T.aWalker, A.dx, _, _, rfl, W.ob, cl, O.nma, wF_marks .., A.md, _, rfl, W.ma, _, rfl, A.x, T.aWalker, A.dx, _, _, rfl, W.ob, cl, O.nro, wF_room .., rfl, _, rfl, ?_⟩
      have eq : decide (V.int ((mkK w'.mks).length : Int) = V.int (R : Int)) = decide (w'.mks.length = R) := decide_eq_decide.mpr ⟨fun z => by
        have := V.int.inj z
        rw [mkK_len] at this
        omega, fun z => by rw [mkK_len, z]⟩
      rw [eq]
      refine ite2 (fun c => ?_) (fun c => ?_)
      · refine kb 3 ?_
        show (if (stOf w'.mks w'.pl).isSome = true then Except.error 4 else if w'.mks.length = R then Except.error 3 else _) = Except.error 3
        rw [e, if_neg (by decide), if_pos (of_decide_eq_true c)]
      · refine ⟨_, rfl, A.x, T.aWalker, A.dx, _, _, rfl, W.ob, cl, O.nst, wF_state .., _, rfl, A.x, T.aWalker, A.dx, _, _, rfl, W.ob, cl, O.nma, wF_marks .., _, rfl, A.x, T.aWalker, A.dx, _, _, rfl, W.ob, cl, O.npl, wF_place .., A.md, _, rfl, DPut.k (k := Sum.inl (w'.pl : Int)) W.ma (small1000 (by rw [mkK_len]; exact hm)), ?_⟩
        rw [mkK_put e]
        refine kg { w' with mks := w'.mks ++ [(w'.pl, w'.st)] } ?_ _ But.upd_mk ⟨?_, ?_, upd_same, ?_, W.n1⟩
        · show (if (stOf w'.mks w'.pl).isSome = true then Except.error 4 else if w'.mks.length = R then Except.error 3 else _) = _
          rw [e, if_neg (by decide), if_neg (fun z => c (decide_eq_true z))]
        · rw [upd_ne W.xm]
          exact W.ob
        · rw [upd_ne W.rm]
          exact W.ru
        · rw [upd_ne W.ms.symm]
          exact W.se
-- @@ Walker.meet
def sp_Walker_meet (K : PySem.W.Frag) (C : Addr) (c8 : Nat → Addr) : Sp := fun vs H Q E => ∃ (A : WA) (rs : List (Addr × Rule)) (R : Nat) (w : WK), vs = [.ref A.x] ∧ StepP K C c8 H A rs R w .meet Q E
theorem ok_Walker_meet (T : Txt K mg) : OkM P w K mg base T.aWalker "meet" 1 ["self"] (sp_Walker_meet K T.aWalker T.w8) := by
  refine okm T.d_Walker_meet sc_Walker_meet (fun vs H Q E h => ?_) (fun f cdv A outer s H vs Q E hr h => ?_)
  · obtain ⟨A, rs, R, w', rfl, W, hR, ok, hl, hm, hs, kg, kb⟩ := h
    rfl
  · obtain ⟨A, rs, R, w', rfl, W, hR, ok, hl, hm, hs, kg, kb⟩ := h
    refine ⟨_, (pss_cons (ps_if (pt_cmpR op_ne (pe_fld (pv 0) rfl) (pe_fld (pv 0) rfl) (nomark _))
        (pss_one (ps_raise rfl (takes_of rfl rfl rfl rfl) (pmk_own PySem.F.excBase_ValueError T.x_NotWanted.x T.x_NotWanted.g T.x_NotWanted.k (raises_own T.x_NotWanted.b T.x_NotWanted.t) rfl)))
        pss_nil)
        (pss_cons (ps_expr (pe_bm PySem.F.plainAttrs_list PySem.F.slot_list_append PySem.F.type_list_append mt_append (pe_fld (pv 0) rfl) (pa_cons (pe_fld (pv 0) rfl) pa_nil)))
        (pss_one (ps_fld (pv 0) (pe_ifExp (pt_cmpR op_eq (pe_fld (pv 0) rfl) pe_int (nomark _)) pe_non (pe_op op_sub (pe_fld (pv 0) rfl) pe_int)) rfl)))), ?_⟩
    have cl := T.o_Walker.cl
    have O := T.o_Walker
    have eq : decide (V.int (w'.pl : Int) = oW w'.wa) = decide (some w'.pl = w'.wa) := decide_eq_decide.mpr (by
      cases w'.wa with
      | none => exact ⟨fun z => (by cases z), fun z => (by cases z)⟩
      | some n => exact ⟨fun z => by have := V.int.inj z; congr 1; omega, fun z => by rw [Option.some.inj z] <;> rfl⟩)
    have D : WAt T.aWalker H A rs R w' := W
    refine ⟨_, rfl, A.x, T.aWalker, A.dx, _, _, rfl, W.ob, cl, O.npl, wF_place .., _, rfl, A.x, T.aWalker, A.dx, _, _, rfl, W.ob, cl, O.nwa, wF_wanted .., ?_⟩
    refine ⟨by cases w'.wa <;> rfl, _, rfl, ?_⟩
    rw [eq]
    refine ite2 (fun c => ?_) (fun c => ?_)
    · refine kb 7 ?_
      show (if some w'.pl = w'.wa then _ else Except.error 7) = Except.error 7
      rw [if_neg (fun z => by rw [decide_eq_true z] at c; exact absurd c (by decide))]
    have c' : some w'.pl = w'.wa := by
      by_cases z : some w'.pl = w'.wa
      · exact z
      · exact absurd (by rw [decide_eq_false z] <;> rfl) c
    refine ⟨_, rfl, A.x, T.aWalker, A.dx, _, _, rfl, W.ob, cl, O.nse, wF_seen .., .inl ⟨rfl, _, SqL.of W.se⟩, _, rfl, A.x, T.aWalker, A.dx, _, _, rfl, W.ob, cl, O.nst, wF_state .., A.sn, _, _, rfl, rfl, W.se, sz5' (by rw [List.length_map]; omega), ?_⟩
    have hob : (upd H A.sn (.lst (w'.sn.map (fun (s : Nat) => V.int (s : Int)) ++ [V.int (w'.st : Int)]))) A.x = some (.ins T.aWalker A.dx (wF A.rl (R : Int) (w'.pl : Int) (w'.st : Int) (w'.dn : Int) (oW w'.wa) A.md A.sn)) := by
      rw [upd_ne W.xs]
      exact W.ob
    have fin : ∀ wa', wa' = (if w'.pl = 0 then none else some (w'.pl - 1)) → Q .non (upd (upd H A.sn (.lst (w'.sn.map (fun (s : Nat) => V.int (s : Int)) ++ [V.int (w'.st : Int)]))) A.x (.ins T.aWalker A.dx (putF "wanted" (oW wa') (wF A.rl (R : Int) (w'.pl : Int) (w'.st : Int) (w'.dn : Int) (oW w'.wa) A.md A.sn)))) := fun wa' hwa => by
      rw [wF_sw]
      refine kg { w' with sn := w'.sn ++ [w'.st], wa := if w'.pl = 0 then none else some (w'.pl - 1) } ?_ _ (But.upd_sn.trans But.upd_x) ⟨?_, ?_, ?_, ?_, W.n1⟩
      · show (if some w'.pl = w'.wa then _ else Except.error 7) = _
        rw [if_pos c']
      · rw [upd_same, hwa]
      · rw [upd_ne W.xr.symm, upd_ne W.n1]
        exact W.ru
      · rw [upd_ne W.xm.symm, upd_ne W.ms]
        exact W.ma
      · rw [upd_ne W.xs.symm, upd_same, List.map_append] <;> rfl
    refine ⟨_, rfl, A.x, T.aWalker, A.dx, _, _, rfl, hob, cl, O.npl, wF_place .., rfl, _, rfl, ?_⟩
    refine ite2 (fun z => ?_) (fun z => ?_)
    · have z' : w'.pl = 0 := by
        have := V.int.inj (of_decide_eq_true z)
        omega
      exact ⟨_, rfl, A.x, T.aWalker, A.dx, _, rfl, hob, cl, O.nwa, wF_len .., fin none (by rw [if_pos z'])⟩
    · have z' : ¬ w'.pl = 0 := fun q => z (decide_eq_true (by rw [q] <;> rfl))
      refine ⟨_, rfl, A.x, T.aWalker, A.dx, _, _, rfl, hob, cl, O.npl, wF_place .., _, _, rfl, rfl, _, rfl, A.x, T.aWalker, A.dx, _, rfl, hob, cl, O.nwa, wF_len .., ?_⟩
      have f := fin (some (w'.pl - 1)) (by rw [if_neg z'])
      have e1 : ((w'.pl : Int) - 1) = ((w'.pl - 1 : Nat) : Int) := by omega
      show Q .non (upd _ A.x (.ins T.aWalker A.dx (putF "wanted" (.int ((w'.pl : Int) - 1)) _)))
      rw [e1]
      exact f
-- @@ Walker.go
def sp_Walker_go (K : PySem.W.Frag) (C : Addr) (c8 : Nat → Addr) : Sp := fun vs H Q E => ∃ (A : WA) (rs : List (Addr × Rule)) (R : Nat) (w : WK) (m : Nat), vs = [.ref A.x, .int (m : Int)] ∧ StepP K C c8 H A rs R w (.go m) Q E
theorem ok_Walker_go (T : Txt K mg) : OkM P w K mg base T.aWalker "go" 2 ["self", "many"] (sp_Walker_go K T.aWalker T.w8) := by
  obtain ⟨f_forth, fd_forth, m_forth, k_forth, b_forth, G_forth⟩ := ok_forth (P := P) (w := w) (base := base) T
  refine okm T.d_Walker_go sc_Walker_go (fun vs H Q E h => ?_) (fun f cdv A outer s H vs Q E hr h => ?_)
  · obtain ⟨A, rs, R, w', m, rfl, W, hR, ok, hl, hm, hs, kg, kb⟩ := h
    rfl
  · obtain ⟨A, rs, R, w', m, rfl, W, hR, ok, hl, hm, hs, kg, kb⟩ := h
    refine ⟨_, (pss_cons (ps_if (pt_cmpR op_gt (pe_op op_add (pe_fld (pv 0) rfl) (pv 1)) (pe_callB call_len_seq (by rfl) T.n_len PySem.boot_len (pa_cons (pe_fld (pv 0) rfl) pa_nil)) (nomark _))
        (pss_one (ps_raise rfl (takes_of rfl rfl rfl rfl) (pmk_own PySem.F.excBase_ValueError T.x_AtEnd.x T.x_AtEnd.g T.x_AtEnd.k (raises_own T.x_AtEnd.b T.x_AtEnd.t) rfl)))
        pss_nil)
        (pss_cons (ps_for (passes_of rfl) rfl (pi_list (pe_slice sl_list (pe_fld (pv 0) rfl) (po_some (pe_fld (pv 0) rfl)) (po_some (pe_op op_add (pe_fld (pv 0) rfl) (pv 1))))) (pg_name (i := 2) sc_Walker_go.nd rfl (Or.inl rfl))
        (pss_one (ps_fld (pv 0) (pe_call G_forth (hr.mono (by decide)) (by rfl) m_forth k_forth b_forth .nil passL (pa_cons (pv 2) (pa_cons (pe_fld (pv 0) rfl) pa_nil))) rfl)))
        (pss_cons (ps_fld (pv 0) (pe_op op_add (pe_fld (pv 0) rfl) (pv 1)) rfl)
        (pss_one (ps_fld (pv 0) (pe_op op_add (pe_fld (pv 0) rfl) (pv 1)) rfl))))), ?_⟩
    have cl := T.o_Walker.cl
    have O := T.o_Walker
    refine ⟨_, rfl, A.x, T.aWalker, A.dx, _, _, rfl, W.ob, cl, O.npl, wF_place .., _, rfl, _, _, rfl, rfl, _, rfl, A.x, T.aWalker, A.dx, _, _, rfl, W.ob, cl, O.nru, wF_rules .., A.rl, _, rfl, .inl (SqL.of W.ru), _, _, rfl, rfl, _, rfl, ?_⟩
    have el : (rs.map (·.2)).length = rs.length := List.length_map ..
    rw [refsR_len]
    refine ite2 (fun c => ?_) (fun c => ?_)
    · refine kb 6 ?_
      have := of_decide_eq_true c
      show (if w'.pl + m > (rs.map (·.2)).length then Except.error 6 else _) = Except.error 6
      rw [if_pos (by rw [el]; omega)]
    have c' : ¬ w'.pl + m > rs.length := fun z => c (decide_eq_true (by omega))
    refine ⟨_, rfl, A.x, T.aWalker, A.dx, _, _, rfl, W.ob, cl, O.nru, wF_rules .., ?_⟩
    refine ⟨_, rfl, A.x, T.aWalker, A.dx, _, _, rfl, W.ob, cl, O.npl, wF_place .., _, rfl, ?_⟩
    refine ⟨_, rfl, A.x, T.aWalker, A.dx, _, _, rfl, W.ob, cl, O.npl, wF_place .., _, rfl, _, _, rfl, rfl, _, rfl, ?_⟩
    refine ⟨A.rl, _, rfl, SqL.of W.ru, fun p hp => ?_⟩
    rw [cut_rules]
    have W1 := W.same (Same.new (o := .lst (refsR ((rs.drop w'.pl).take m))) hp)
    have nxp : A.x ≠ p := ne_of_none W.ob hp
    refine ⟨p, rfl, ⟨_, SqL.of upd_same⟩, ?_⟩
    refine for_list (K := K) (a := p) (xs := refsR ((rs.drop w'.pl).take m)) (fun i σ H' => (∃ u, σ = [some (.ref A.x), some (.int (m : Int)), u]) ∧ But A H H' ∧ H' p = some (.lst (refsR ((rs.drop w'.pl).take m))) ∧
        WAt T.aWalker H' A rs R { w' with st := lastN w'.st ((((rs.drop w'.pl).take m).take i).map (·.2)) }) ⟨⟨none, rfl⟩, Same.but (Same.new hp), upd_same, W1⟩ (fun i σ H' _ ⟨_, _, h, _⟩ => SqL.of h) ?_ ?_
    · rintro i y σ H' hi ⟨⟨u, rfl⟩, bt, hP, W2⟩
      obtain ⟨q, hq, rfl⟩ := get_map hi
      have hqm : q ∈ rs := List.mem_of_mem_drop (List.mem_of_mem_take (List.mem_of_getElem? hq))
      obtain ⟨hqt, hqo⟩ := (RS.but W bt hR) q hqm
      refine ⟨_, rfl, _, rfl, A.x, T.aWalker, A.dx, _, _, rfl, W2.ob, cl, O.nst, wF_state .., q.1, q.2, _, rfl, hqt, hqo, lastN_lt ok.st, ?_⟩
      refine ⟨_, rfl, A.x, T.aWalker, A.dx, _, rfl, W2.ob, cl, O.nst, wF_len .., ?_⟩
      rw [wF_ss]
      refine ⟨⟨_, rfl⟩, bt.trans But.upd_x, by rw [upd_ne nxp.symm]; exact hP, ⟨?_, ?_, ?_, ?_, W.n1⟩⟩
      · rw [upd_same, take_succ hq, List.map_append, List.map_cons, List.map_nil, lastN_snoc]
      · rw [upd_ne W.xr.symm]
        exact W2.ru
      · rw [upd_ne W.xm.symm]
        exact W2.ma
      · rw [upd_ne W.xs.symm]
        exact W2.se
    · rintro σ H' ⟨⟨u, rfl⟩, bt, hP, W2⟩
      rw [refsR_len, List.take_length] at W2
      refine ⟨_, rfl, A.x, T.aWalker, A.dx, _, _, rfl, W2.ob, cl, O.npl, wF_place .., _, rfl, _, _, rfl, rfl, _, rfl, A.x, T.aWalker, A.dx, _, rfl, W2.ob, cl, O.npl, wF_len .., ?_⟩
      rw [wF_sp]
      refine ⟨_, rfl, A.x, T.aWalker, A.dx, _, _, rfl, upd_same, cl, O.ndn, wF_done .., _, rfl, _, _, rfl, rfl, _, rfl, A.x, T.aWalker, A.dx, _, rfl, upd_same, cl, O.ndn, wF_len .., ?_⟩
      rw [wF_sd]
      refine kg { w' with pl := w'.pl + m, st := lastN w'.st (((rs.map (·.2)).drop w'.pl).take m), dn := w'.dn + m } ?_ _ ((bt.trans But.upd_x).trans But.upd_x) ⟨?_, ?_, ?_, ?_, W.n1⟩
      · show (if w'.pl + m > (rs.map (·.2)).length then Except.error 6 else _) = _
        rw [if_neg (by rw [el]; exact c')]
      · rw [upd_same, ← List.map_drop, ← List.map_take, Int.natCast_add, Int.natCast_add]
      · rw [upd_ne W.xr.symm, upd_ne W.xr.symm]
        exact W2.ru
      · rw [upd_ne W.xm.symm, upd_ne W.xm.symm]
        exact W2.ma
      · rw [upd_ne W.xs.symm, upd_ne W.xs.symm]
        exact W2.se
-- @@ Walker.do
def sp_Walker_do (K : PySem.W.Frag) (C : Addr) (c8 : Nat → Addr) : Sp := fun vs H Q E => ∃ (A : WA) (x : V), vs = [.ref A.x, x] ∧
  ((DeedTh K H x false ∧ E (.ref (c8 2)) none H) ∨ (∃ (a : Addr) (d : Deed) (rs : List (Addr × Rule)) (R : Nat) (w : WK), x = .ref a ∧ H a = some (.tup d.vs) ∧ d.ok ∧ StepP K C c8 H A rs R w d Q E))
theorem ok_Walker_do (T : Txt K mg) : OkM P w K mg base T.aWalker "do" 3 ["self", "deed"] (sp_Walker_do K T.aWalker T.w8) := by
  obtain ⟨f_is_deed, fd_is_deed, m_is_deed, k_is_deed, b_is_deed, G_is_deed⟩ := ok_is_deed (P := P) (w := w) (base := base) T
  obtain ⟨f_Walker_keep, fd_Walker_keep, M_Walker_keep, b_Walker_keep, G_Walker_keep⟩ := ok_Walker_keep (P := P) (w := w) (base := base) T
  obtain ⟨f_Walker_meet, fd_Walker_meet, M_Walker_meet, b_Walker_meet, G_Walker_meet⟩ := ok_Walker_meet (P := P) (w := w) (base := base) T
  obtain ⟨f_Walker_go, fd_Walker_go, M_Walker_go, b_Walker_go, G_Walker_go⟩ := ok_Walker_go (P := P) (w := w) (base := base) T
  refine okm T.d_Walker_do sc_Walker_do (fun vs H Q E h => ?_) (fun f cdv A outer s H vs Q E hr h => ?_)
  · obtain ⟨A, x, rfl, h⟩ := h
    rfl
  · obtain ⟨A, x, rfl, h⟩ := h
    refine ⟨_, (pss_cons (ps_if (pt_not (pt_val (pe_call G_is_deed (hr.mono (by decide)) (by rfl) m_is_deed k_is_deed b_is_deed .nil passL (pa_cons (pv 1) pa_nil))))
        (pss_one (ps_raise rfl (takes_of rfl rfl rfl rfl) (pmk_own PySem.F.excBase_ValueError T.x_BadDeed.x T.x_BadDeed.g T.x_BadDeed.k (raises_own T.x_BadDeed.b T.x_BadDeed.t) rfl)))
        pss_nil)
        (pss_one (ps_if (pt_cmpR op_eq (pe_ix ix_tup (pv 1) pe_int (fun _ _ => rfl)) pe_str (nomark _))
        (pss_one (ps_expr (pe_meth0 (pv 0) T.o_Walker.cl M_Walker_keep G_Walker_keep (hr.mono (by decide)) b_Walker_keep .nil (passes_call (W := fun cls d _ H => E cls d H) (takes_of rfl rfl rfl rfl) (fun _ _ _ _ h => h)))))
        (pss_one (ps_if (pt_cmpR op_eq (pe_ix ix_tup (pv 1) pe_int (fun _ _ => rfl)) pe_str (nomark _))
        (pss_one (ps_expr (pe_meth0 (pv 0) T.o_Walker.cl M_Walker_meet G_Walker_meet (hr.mono (by decide)) b_Walker_meet .nil (passes_call (W := fun cls d _ H => E cls d H) (takes_of rfl rfl rfl rfl) (fun _ _ _ _ h => h)))))
        (pss_one (ps_if (pt_cmpR op_eq (pe_ix ix_tup (pv 1) pe_int (fun _ _ => rfl)) pe_str (nomark _))
        (pss_one (ps_expr (pe_meth (pv 0) T.o_Walker.cl M_Walker_go G_Walker_go (hr.mono (by decide)) b_Walker_go .nil (passes_call (W := fun cls d _ H => E cls d H) (takes_of rfl rfl rfl rfl) (fun _ _ _ _ h => h)) (pa_cons (pe_ix ix_tup (pv 1) pe_int (fun _ _ => rfl)) pa_nil))))
        (pss_cons (ps_if (pt_cmp (pc_dnotin (hu_of hr) (pe_ix ix_tup (pv 1) pe_int (fun _ _ => rfl)) (pe_fld (pv 0) rfl)))
        (pss_one (ps_raise rfl (takes_of rfl rfl rfl rfl) (pmk_own PySem.F.excBase_ValueError T.x_NotKept.x T.x_NotKept.g T.x_NotKept.k (raises_own T.x_NotKept.b T.x_NotKept.t) rfl)))
        pss_nil)
        (pss_one (ps_if (pt_cmpR op_eq (pe_ix ix_tup (pv 1) pe_int (fun _ _ => rfl)) pe_str (nomark _))
        (pss_one (ps_expr (pe_dpop1 (pe_fld (pv 0) rfl) (pe_ix ix_tup (pv 1) pe_int (fun _ _ => rfl)) ⟨rfl, rfl, rfl, rfl⟩)))
        (pss_cons (ps_fld (pv 0) (pe_ix ix_tup (pv 1) pe_int (fun _ _ => rfl)) rfl)
        (pss_one (ps_fld (pv 0) (pe_dget (hu_of hr) (pe_fld (pv 0) rfl) (pe_ix ix_tup (pv 1) pe_int (fun _ _ => rfl)) (fun _ _ => rfl)) rfl))))))))))))), ?_⟩
    have hu := hu_of hr
    have cl := T.o_Walker.cl
    have O := T.o_Walker
    rcases h with ⟨th, e⟩ | ⟨a, d, rs, R, w', rfl, ha, dok, SP⟩
    · exact ⟨_, rfl, x, false, rfl, th, _, rfl, iteT e⟩
    have W := SP.1
    refine ⟨_, rfl, .ref a, true, rfl, d.th dok ha, _, rfl, iteF ?_⟩
    refine ⟨_, rfl, a, _, _, .str d.word, rfl, rfl, SqT.of ha, d.at0, rfl, _, rfl, ?_⟩
    cases d with
    | keep =>
      refine iteT ?_
      exact ⟨_, rfl, A.x, A.dx, _, rfl, W.ob, wF_keep .., A, rs, R, w', rfl, SP⟩
    | meet =>
      rw [show decide (V.str Deed.meet.word = V.str "keep") = false by decide +kernel]
      refine iteF ?_
      refine ⟨_, rfl, a, _, _, .str "meet", rfl, rfl, SqT.of ha, rfl, rfl, _, rfl, iteT ?_⟩
      exact ⟨_, rfl, A.x, A.dx, _, rfl, W.ob, wF_meet .., A, rs, R, w', rfl, SP⟩
    | go m =>
      rw [show decide (V.str (Deed.go m).word = V.str "keep") = false from (by decide +kernel : decide (V.str "go" = V.str "keep") = false)]
      refine iteF ?_
      refine ⟨_, rfl, a, _, _, .str "go", rfl, rfl, SqT.of ha, rfl, rfl, _, rfl, ?_⟩
      rw [show decide (V.str "go" = V.str "meet") = false by decide +kernel]
      refine iteF ?_
      refine ⟨_, rfl, a, _, _, .str "go", rfl, rfl, SqT.of ha, rfl, rfl, _, rfl, iteT ?_⟩
      exact ⟨_, rfl, A.x, A.dx, _, rfl, W.ob, wF_go .., _, rfl, a, _, _, .int (m : Int), rfl, rfl, SqT.of ha, rfl, A, rs, R, w', m, rfl, SP⟩
    | take p =>
      obtain ⟨_, hR, ok, hl, hm, hs, kg, kb⟩ := SP
      rw [show decide (V.str (Deed.take p).word = V.str "keep") = false from (by decide +kernel : decide (V.str "take" = V.str "keep") = false)]
      refine iteF ?_
      refine ⟨_, rfl, a, _, _, .str "take", rfl, rfl, SqT.of ha, rfl, rfl, _, rfl, ?_⟩
      rw [show decide (V.str "take" = V.str "meet") = false by decide +kernel]
      refine iteF ?_
      refine ⟨_, rfl, a, _, _, .str "take", rfl, rfl, SqT.of ha, rfl, rfl, _, rfl, ?_⟩
      rw [show decide (V.str "take" = V.str "go") = false by decide +kernel]
      refine iteF ?_
      refine ⟨_, rfl, a, _, _, .int (p : Int), rfl, rfl, SqT.of ha, rfl, _, rfl, A.x, T.aWalker, A.dx, _, _, rfl, W.ob, cl, O.nma, wF_marks .., A.md, _, rfl, DGet.k (k := Sum.inl (p : Int)) W.ma, _, rfl, ?_⟩
      have mv := mkK_val w'.mks p
      rw [mv]
      cases e : stOf w'.mks p with
      | none =>
        refine iteT ?_
        refine kb 5 ?_
        show (match stOf w'.mks p with | none => Except.error 5 | some s => _) = Except.error 5
        rw [e]
      | some s' =>
        refine iteF ?_
        rw [e] at mv
        refine ⟨_, rfl, a, _, _, .str "take", rfl, rfl, SqT.of ha, rfl, rfl, _, rfl, ?_⟩
        rw [show decide (V.str "take" = V.str "drop") = false by decide +kernel]
        refine iteF ?_
        refine ⟨_, rfl, a, _, _, .int (p : Int), rfl, rfl, SqT.of ha, rfl, _, rfl, A.x, T.aWalker, A.dx, _, rfl, W.ob, cl, O.npl, wF_len .., ?_⟩
        rw [wF_sp]
        have nax : a ≠ A.x := ne_of ha W.ob (by intro z; cases z)
        have ha1 : (upd H A.x (.ins T.aWalker A.dx (wF A.rl (R : Int) (p : Int) (w'.st : Int) (w'.dn : Int) (oW w'.wa) A.md A.sn))) a = some (.tup (Deed.take p).vs) := by
          rw [upd_ne nax]
          exact ha
        have hm1 : (upd H A.x (.ins T.aWalker A.dx (wF A.rl (R : Int) (p : Int) (w'.st : Int) (w'.dn : Int) (oW w'.wa) A.md A.sn))) A.md = some (.dK (mkK w'.mks)) := by
          rw [upd_ne W.xm.symm]
          exact W.ma
        refine ⟨_, rfl, A.x, T.aWalker, A.dx, _, _, rfl, upd_same, cl, O.nma, wF_marks .., _, rfl, a, _, _, .int (p : Int), rfl, rfl, SqT.of ha1, rfl, A.md, .int (s' : Int), rfl, ?_, ?_⟩
        · have g := DGet.k (k := Sum.inl (p : Int)) hm1
          rw [mv] at g
          exact g
        refine ⟨_, rfl, A.x, T.aWalker, A.dx, _, rfl, upd_same, cl, O.nst, wF_len .., ?_⟩
        rw [wF_ss]
        refine kg { w' with pl := p, st := s' } ?_ _ (But.upd_x.trans But.upd_x) ⟨upd_same, ?_, ?_, ?_, W.n1⟩
        · show (match stOf w'.mks p with | none => Except.error 5 | some s => _) = _
          rw [e]
        · rw [upd_ne W.xr.symm, upd_ne W.xr.symm]
          exact W.ru
        · rw [upd_ne W.xm.symm]
          exact hm1
        · rw [upd_ne W.xs.symm, upd_ne W.xs.symm]
          exact W.se
    | drop p =>
      obtain ⟨_, hR, ok, hl, hm, hs, kg, kb⟩ := SP
      rw [show decide (V.str (Deed.drop p).word = V.str "keep") = false from (by decide +kernel : decide (V.str "drop" = V.str "keep") = false)]
      refine iteF ?_
      refine ⟨_, rfl, a, _, _, .str "drop", rfl, rfl, SqT.of ha, rfl, rfl, _, rfl, ?_⟩
      rw [show decide (V.str "drop" = V.str "meet") = false by decide +kernel]
      refine iteF ?_
      refine ⟨_, rfl, a, _, _, .str "drop", rfl, rfl, SqT.of ha, rfl, rfl, _, rfl, ?_⟩
      rw [show decide (V.str "drop" = V.str "go") = false by decide +kernel]
      refine iteF ?_
      refine ⟨_, rfl, a, _, _, .int (p : Int), rfl, rfl, SqT.of ha, rfl, _, rfl, A.x, T.aWalker, A.dx, _, _, rfl, W.ob, cl, O.nma, wF_marks .., A.md, _, rfl, DGet.k (k := Sum.inl (p : Int)) W.ma, _, rfl, ?_⟩
      have mv := mkK_val w'.mks p
      rw [mv]
      cases e : stOf w'.mks p with
      | none =>
        refine iteT ?_
        refine kb 5 ?_
        show (match stOf w'.mks p with | none => Except.error 5 | some s => _) = Except.error 5
        rw [e]
      | some s' =>
        refine iteF ?_
        rw [e] at mv
        refine ⟨_, rfl, a, _, _, .str "drop", rfl, rfl, SqT.of ha, rfl, rfl, _, rfl, iteT ?_⟩
        refine ⟨_, rfl, A.x, T.aWalker, A.dx, _, _, rfl, W.ob, cl, O.nma, wF_marks .., A.md, rfl, .inl ⟨_, .inl W.ma⟩, _, rfl, a, _, _, .int (p : Int), rfl, rfl, SqT.of ha, rfl, _, Sum.inl (p : Int), .int (s' : Int), W.ma, rfl, mv, ?_⟩
        rw [mkK_drop]
        refine kg { w' with mks := w'.mks.filter fun q => q.1 != p } ?_ _ But.upd_mk ⟨?_, ?_, upd_same, ?_, W.n1⟩
        · show (match stOf w'.mks p with | none => Except.error 5 | some s => _) = _
          rw [e]
        · rw [upd_ne W.xm]
          exact W.ob
        · rw [upd_ne W.rm]
          exact W.ru
        · rw [upd_ne W.ms.symm]
          exact W.se
-- @@ Walker.kept
def refsM (ts : List (Addr × Nat × Nat)) : List V := ts.map fun q => V.ref q.1
def sp_Walker_kept (K : PySem.W.Frag) (C : Addr) : Sp := fun vs H Q E => ∃ (A : WA) (rs : List (Addr × Rule)) (R : Nat) (w : WK), vs = [.ref A.x] ∧ WAt C H A rs R w ∧ w.mks.length < 64 ∧
  ∀ (p : Addr) (H' : Hp) (ts : List (Addr × Nat × Nat)), H p = none → Same H H' → H' p = some (.lst (refsM ts)) → (∀ q ∈ ts, H' q.1 = some (.tup [.int (q.2.1 : Int), .int (q.2.2 : Int)]) ∧ stOf w.mks q.2.1 = some q.2.2) →
    (ts.map fun q => ((q.2.1 : Nat) : Int)).Perm (w.mks.map fun q => ((q.1 : Nat) : Int)) → (ts.map fun q => ((q.2.1 : Nat) : Int)).Pairwise (· ≤ ·) → Q (.ref p) H'
theorem ok_Walker_kept (T : Txt K mg) : OkM P w K mg base T.aWalker "kept" 1 ["self"] (sp_Walker_kept K T.aWalker) := by
  refine okm T.d_Walker_kept sc_Walker_kept (fun vs H Q E h => ?_) (fun f cdv A outer s H vs Q E hr h => ?_)
  · obtain ⟨A, rs, R, w', rfl, W, hm, k⟩ := h
    rfl
  · obtain ⟨A, rs, R, w', rfl, W, hm, k⟩ := h
    refine ⟨_, (pss_one (ps_ret (pe_lc (own := [("place", 1)]) rfl sc_Walker_kept.nd (pi_list (pe_callB (call_sortedDI rfl) (by rfl) T.n_sorted (by decide +kernel) (pa_cons (pe_fld (pv 0) rfl) pa_nil))) (blkOk_by (own := [("place", 1)]) (N := ["self", "place"]) (sc := defScope s_Walker_kept) (by decide +kernel)) (fun _ _ _ _ _ => (pg_name (i := 1) sc_Walker_kept.nd rfl (Or.inl rfl))) (fun _ _ _ _ _ => pts_nil) (fun _ _ _ _ _ => (pe_tup (pa_cons (pv 1) (pa_cons (pe_dget (hu_of hr) (pe_fldK (K := K) rfl (pv 0) rfl) (pv 1) (fun _ _ => rfl)) pa_nil))))))), ?_⟩
    have cl := T.o_Walker.cl
    have O := T.o_Walker
    have hkeys : (mkK w'.mks).map (·.1) = (w'.mks.map fun q => ((q.1 : Nat) : Int)).map Sum.inl := by
      unfold mkK
      rw [List.map_map, List.map_map] <;> rfl
    refine ⟨_, rfl, A.x, T.aWalker, A.dx, _, _, rfl, W.ob, cl, O.nma, wF_marks .., A.md, _, _, rfl, .inl W.ma, hkeys, by rw [List.length_map]; exact hm, fun ys l hperm hsort hl => ?_⟩
    have w1 := Same.new (o := .lst (ys.map V.int)) hl
    refine ⟨l, rfl, ⟨_, SqL.of upd_same⟩, fun D hD => ?_⟩
    have hlen : ys.length = w'.mks.length := by rw [hperm.length_eq, List.length_map]
    refine lc_list (K := K) (a := l) (xs := ys.map V.int) (fun i H' => Same (upd H l (.lst (ys.map V.int))) H' ∧ ∃ ts : List (Addr × Nat × Nat), ts.map (fun q => ((q.2.1 : Nat) : Int)) = ys.take i ∧ H' D = some (.lst (refsM ts)) ∧ ∀ q ∈ ts, H' q.1 = some (.tup [.int (q.2.1 : Int), .int (q.2.2 : Int)]) ∧ stOf w'.mks q.2.1 = some q.2.2)
      ⟨Same.new hD, [], rfl, upd_same, fun q hq => (nomatch hq)⟩ (fun i H' _ ⟨s2, _⟩ => SqL.of (s2 _ _ upd_same)) ?_ ?_
    · rintro i y H' hi ⟨s2, ts, hts, hQ, hT⟩
      obtain ⟨z, hz, rfl⟩ := get_map hi
      have hil := (List.getElem?_eq_some_iff.mp hz).1
      have hzm : z ∈ w'.mks.map fun q => ((q.1 : Nat) : Int) := hperm.mem_iff.mp (List.mem_of_getElem? hz)
      obtain ⟨q, hq, rfl⟩ := List.mem_map.mp hzm
      obtain ⟨st, hst⟩ := stOf_some (ms := w'.mks) (p := q.1) (List.mem_map.mpr ⟨q, hq, rfl⟩)
      have W2 := W.same (w1.trans s2)
      have g := DGet.k (k := Sum.inl (q.1 : Int)) W2.ma
      rw [mkK_val, hst] at g
      have lt : ts.length = i := by
        have e := congrArg List.length hts
        rw [List.length_map, List.length_take] at e
        omega
      refine ⟨rfl, ?_⟩
      refine ⟨_, rfl, _, rfl, A.x, T.aWalker, A.dx, _, _, rfl, W2.ob, cl, O.nma, wF_marks .., _, rfl, A.md, .int (st : Int), rfl, g, by show 2 ≤ sizeLine; decide, fun t ht => ?_⟩
      have w3 := Same.new (o := .tup [.int (q.1 : Int), .int (st : Int)]) ht
      have hQ3 := w3 _ _ hQ
      refine ⟨_, hQ3, sz5' (by rw [show (refsM ts).length = ts.length from List.length_map ..]; omega), Same.mut (s2.trans w3) hD, ts ++ [(t, q.1, st)], ?_, ?_, fun r hr => ?_⟩
      · rw [List.map_append, hts, take_succ hz] <;> rfl
      · rw [upd_same]
        unfold refsM
        rw [List.map_append] <;> rfl
      · rcases List.mem_append.mp hr with z | z
        · have e := w3 _ _ (hT r z).1
          refine ⟨?_, (hT r z).2⟩
          rw [upd_ne (ne_of e hQ3 (by intro z; cases z))]
          exact e
        · rw [List.mem_singleton.mp z]
          refine ⟨?_, hst⟩
          show upd _ D _ t = _
          rw [upd_ne (ne_of upd_same hQ3 (by intro z; cases z))]
          exact upd_same
    · rintro H' ⟨s2, ts, hts, hQ, hT⟩
      have e0 : ys.take (ys.map V.int).length = ys := by rw [List.length_map, List.take_length]
      rw [e0] at hts
      exact k D H' ts (w1.free hD) (w1.trans s2) hQ hT (by rw [hts]; exact hperm) (by rw [hts]; exact hsort)
-- @@ Walker.met
def sp_Walker_met (K : PySem.W.Frag) (C : Addr) : Sp := fun vs H Q E => ∃ (A : WA) (rs : List (Addr × Rule)) (R : Nat) (w : WK), vs = [.ref A.x] ∧ WAt C H A rs R w ∧ ∀ (p : Addr) (H' : Hp), H p = none → Same H H' → H' p = some (.lst (w.sn.map fun (s : Nat) => V.int (s : Int))) → Q (.ref p) H'
theorem ok_Walker_met (T : Txt K mg) : OkM P w K mg base T.aWalker "met" 1 ["self"] (sp_Walker_met K T.aWalker) := by
  refine okm T.d_Walker_met sc_Walker_met (fun vs H Q E h => ?_) (fun f cdv A outer s H vs Q E hr h => ?_)
  · obtain ⟨A, rs, R, w', rfl, W, k⟩ := h
    rfl
  · obtain ⟨A, rs, R, w', rfl, W, k⟩ := h
    refine ⟨_, (pss_one (ps_ret (pe_callTy (T := "list") (r := rListOf K) call_list_of (by rfl) T.n_list (by decide +kernel) (pa_cons (pe_fld (pv 0) rfl) pa_nil)))), ?_⟩
    exact ⟨_, rfl, A.x, T.aWalker, A.dx, _, _, rfl, W.ob, T.o_Walker.cl, T.o_Walker.nse, wF_seen .., A.sn, _, rfl, .inl (SqL.of W.se), fun l hl => k l _ hl (Same.new hl) upd_same⟩
-- @@ first_mark
def sp_first_mark : Sp := fun vs H Q _ => ∃ s r : Nat, vs = [.int (s : Int), .int (r : Int)] ∧ 1 ≤ s ∧ s ≤ 100 ∧ 2 ≤ r ∧ r ≤ 12 ∧ Q (.int (markN s r : Int)) H
theorem ok_first_mark (T : Txt K mg) : OkF P w K mg base "first_mark" 4 ["steps", "room"] (sp_first_mark) := by
  obtain ⟨f_often, fd_often, m_often, k_often, b_often, G_often⟩ := ok_often (P := P) (w := w) (base := base) T
  obtain ⟨f_ways, fd_ways, m_ways, k_ways, b_ways, G_ways⟩ := ok_ways (P := P) (w := w) (base := base) T
  refine okf T.d_first_mark sc_first_mark (fun vs H Q E h => ?_) (fun f cdv A outer s H vs Q E hr h => ?_)
  · obtain ⟨s', r, rfl, hs0, hs, h1, h2, k⟩ := h
    rfl
  · obtain ⟨s', r, rfl, hs0, hs, h1, h2, k⟩ := h
    refine ⟨_, (pss_cons (ps_set (i := 2) sc_first_mark.nd rfl (Or.inl rfl) (pe_call G_often (hr.mono (by decide)) (by rfl) m_often k_often b_often .nil passL (pa_cons (pv 0) (pa_cons (pv 1) pa_nil))))
        (pss_one (ps_ret (pe_callB (call_min2 rfl) (by rfl) T.n_min (by decide +kernel) (pa_cons (pe_call G_ways (hr.mono (by decide)) (by rfl) m_ways k_ways b_ways .nil passL (pa_cons (pv 1) (pa_cons (pe_op op_sub (pv 2) pe_int) pa_nil))) (pa_cons (pe_op op_sub (pe_op op_add (pv 0) pe_int) (pe_call G_ways (hr.mono (by decide)) (by rfl) m_ways k_ways b_ways .nil passL (pa_cons (pe_op op_sub (pv 1) pe_int) (pa_cons (pe_op op_sub (pv 2) pe_int) pa_nil)))) pa_nil)))))), ?_⟩
    have o := oft_le (s := s') (r := r) (by omega) (by omega) (by omega)
    obtain ⟨oa, ob⟩ := oft_spec (s := s') (r := r) (by omega) (by omega) (by omega)
    have o1 : 1 ≤ oftN s' r := by
      by_cases z : oftN s' r = 0
      · rw [z, ways_zero r (by omega)] at ob
        omega
      · omega
    have ow := oa (oftN s' r - 1) (by omega)
    have ow2 : waysN (r - 1) (oftN s' r - 1) ≤ waysN r (oftN s' r - 1) := by
      obtain ⟨q, rfl⟩ : ∃ q, r = q + 1 := ⟨r - 1, by omega⟩
      rw [show q + 1 - 1 = q by omega]
      have hu : oftN s' (q + 1) - 1 ≤ 100 := by omega
      generalize oftN s' (q + 1) - 1 = u at ow hu ⊢
      cases u with
      | zero => rw [ways_zero q (by omega), ways_zero (q + 1) (by omega)]; omega
      | succ u => rw [pascal (r := q) (t := u) (by omega) (by omega)]; omega
    have e1 : ((oftN s' r : Int) - 1) = ((oftN s' r - 1 : Nat) : Int) := by omega
    have e2 : ((r : Int) - 1) = ((r - 1 : Nat) : Int) := by omega
    refine ⟨_, rfl, _, rfl, s', r, rfl, by omega, by omega, by omega, ?_⟩
    refine ⟨_, rfl, _, rfl, _, _, rfl, rfl, r, oftN s' r - 1, by rw [← e1] <;> rfl, by omega, ?_⟩
    refine ⟨_, rfl, _, _, rfl, rfl, _, rfl, _, _, rfl, rfl, _, rfl, _, _, rfl, rfl, r - 1, oftN s' r - 1, by rw [← e1, ← e2] <;> rfl, by omega, _, _, rfl, rfl, _, _, rfl, ?_⟩
    have e3 : ((s' : Int) + 1 - (waysN (r - 1) (oftN s' r - 1) : Int)) = ((s' + 1 - waysN (r - 1) (oftN s' r - 1) : Nat) : Int) := by omega
    have em : (if ((s' : Int) + 1 - (waysN (r - 1) (oftN s' r - 1) : Int)) < (waysN r (oftN s' r - 1) : Int) then ((s' : Int) + 1 - (waysN (r - 1) (oftN s' r - 1) : Int)) else (waysN r (oftN s' r - 1) : Int)) = (markN s' r : Int) := by
      unfold markN
      rw [e3]
      by_cases z : ((s' + 1 - waysN (r - 1) (oftN s' r - 1) : Nat) : Int) < (waysN r (oftN s' r - 1) : Int)
      · rw [if_pos z]
        omega
      · rw [if_neg z]
        omega
    rw [← em] at k
    exact k
-- @@ again_and_again
def sp_again_and_again : Sp := fun vs H Q _ => ∃ a n : Nat, vs = [.int (a : Int), .int (n : Int)] ∧ n ≤ 100 ∧ RetD H (againN a n) Q
theorem ok_again_and_again (T : Txt K mg) : OkF P w K mg base "again_and_again" 1 ["start", "steps"] (sp_again_and_again) := by
  refine okf T.d_again_and_again sc_again_and_again (fun vs H Q E h => ?_) (fun f cdv A outer s H vs Q E hr h => ?_)
  · obtain ⟨a, n, rfl, hn, k⟩ := h
    rfl
  · obtain ⟨a, n, rfl, hn, k⟩ := h
    refine ⟨_, (pss_cons (ps_set (i := 2) sc_again_and_again.nd rfl (Or.inl rfl) (pe_lst pa_nil))
        (pss_cons (ps_for (passes_of rfl) rfl (pi_range3 (by rfl) T.n_range (pa_cons (pv 1) (pa_cons pe_int (pa_cons (pe_un un_neg pe_int) pa_nil)))) (pg_name (i := 3) sc_again_and_again.nd rfl (Or.inl rfl))
        (pss_one (ps_expr (pe_bm PySem.F.plainAttrs_list PySem.F.slot_list_extend PySem.F.type_list_extend mt_extend (pv 2) (pa_cons (pe_lst (pa_cons (pe_tup (pa_cons pe_str (pa_cons (pv 3) pa_nil))) (pa_cons (pe_tup (pa_cons pe_str pa_nil)) (pa_cons (pe_tup (pa_cons pe_str (pa_cons (pv 0) pa_nil))) pa_nil)))) pa_nil)))))
        (pss_one (ps_ret (pe_op op_cat (pv 2) (pe_lst (pa_cons (pe_tup (pa_cons pe_str pa_nil)) pa_nil))))))), ?_⟩
    refine ⟨by show 0 ≤ sizeLine; decide, fun p hp => ?_⟩
    refine ⟨_, rfl, _, rfl, _, _, _, _, rfl, RgC.neg (by omega) (by omega) (by omega) (by omega), ?_⟩
    have e0 : ((n : Int) - 0).toNat = n := by omega
    refine for_rangeC (lo := (n : Int)) (c := -1) (n := ((n : Int) - 0).toNat) (fun i σ H' => ∃ u ps, σ = [some (.int (a : Int)), some (.int (n : Int)), some (.ref p), u] ∧ Same H H' ∧ H' p = some (.lst (refs ps)) ∧ DS H' ps ∧ ps.map (·.2) = aPre a n i)
      ⟨none, [], rfl, Same.new hp, upd_same, fun q hq => (nomatch hq), rfl⟩ ?_ ?_
    · rintro i σ H' hi ⟨u, ps, rfl, sm, hP, hD, hps⟩
      rw [e0] at hi
      refine ⟨_, rfl, .inl ⟨rfl, _, SqL.of hP⟩, ?_⟩
      refine ⟨_, rfl, by show 2 ≤ sizeLine; decide, fun t1 h1 => ?_⟩
      refine ⟨by show 1 ≤ sizeLine; decide, fun t2 h2 => ?_⟩
      refine ⟨_, rfl, by show 2 ≤ sizeLine; decide, fun t3 h3 => ?_⟩
      refine ⟨by show 3 ≤ sizeLine; decide, fun l hl => ?_⟩
      have lp := (len_of hps).trans (aPre_len a n i)
      have hp0 : H p = none := hp
      have n1 : p ≠ t1 := ne_of_none hP h1
      have n2 : p ≠ t2 := ne_of_none (o := .lst (refs ps)) (by rw [upd_ne n1]; exact hP) h2
      have n3 : p ≠ t3 := ne_of_none (o := .lst (refs ps)) (by rw [upd_ne n2, upd_ne n1]; exact hP) h3
      have n4 : p ≠ l := ne_of_none (o := .lst (refs ps)) (by rw [upd_ne n3, upd_ne n2, upd_ne n1]; exact hP) hl
      refine ⟨p, l, _, _, rfl, rfl, by rw [upd_ne n4, upd_ne n3, upd_ne n2, upd_ne n1]; exact hP, upd_same, sz5 (by rw [refs_len, lp]; show 3 * i + 3 ≤ 100000; omega), ?_⟩
      have sA := ((Same.new (o := .tup [.str "go", .int ((n : Int) + (i : Int) * -1)]) h1).trans (Same.new (o := .tup [.str "meet"]) h2)).trans ((Same.new (o := .tup [.str "take", .int (a : Int)]) h3).trans (Same.new (o := .lst [.ref t1, .ref t2, .ref t3]) hl))
      have eg : (n : Int) + (i : Int) * -1 = ((n - i : Nat) : Int) := by omega
      refine ⟨_, ps ++ [(t1, .go (n - i)), (t2, .meet), (t3, .take a)], rfl, Same.mut (sm.trans sA) hp0, ?_, ?_, ?_⟩
      · rw [upd_same, refs_append] <;> rfl
      · have m12 : t1 ≠ t2 := ne_of_none upd_same h2
        have m13 : t1 ≠ t3 := ne_of_none (o := .tup [.str "go", .int ((n : Int) + (i : Int) * -1)]) (by rw [upd_ne m12]; exact upd_same) h3
        have m14 : t1 ≠ l := ne_of_none (o := .tup [.str "go", .int ((n : Int) + (i : Int) * -1)]) (by rw [upd_ne m13, upd_ne m12]; exact upd_same) hl
        have m23 : t2 ≠ t3 := ne_of_none upd_same h3
        have m24 : t2 ≠ l := ne_of_none (o := .tup [.str "meet"]) (by rw [upd_ne m23]; exact upd_same) hl
        have m34 : t3 ≠ l := ne_of_none upd_same hl
        intro q hq
        rcases List.mem_append.mp hq with z | z
        · have nq : q.1 ≠ p := by
            intro e
            have w1 := hD q z
            rw [e, hP] at w1
            cases w1
          rw [upd_ne nq]
          exact sA _ _ (hD q z)
        · simp only [List.mem_cons, List.not_mem_nil, or_false] at z
          rcases z with rfl | rfl | rfl
          · show upd _ p _ t1 = some (.tup [.str "go", .int ((n - i : Nat) : Int)])
            rw [upd_ne n1.symm, upd_ne m14, upd_ne m13, upd_ne m12, upd_same, eg]
          · show upd _ p _ t2 = some (.tup [.str "meet"])
            rw [upd_ne n2.symm, upd_ne m24, upd_ne m23, upd_same]
          · show upd _ p _ t3 = some (.tup [.str "take", .int (a : Int)])
            rw [upd_ne n3.symm, upd_ne m34, upd_same]
      · rw [List.map_append, hps] <;> rfl
    · rintro σ H' ⟨u, ps, rfl, sm, hP, hD, hps⟩
      rw [e0] at hps
      refine ⟨_, rfl, by show 1 ≤ sizeLine; decide, fun t ht => ?_⟩
      refine ⟨by show 1 ≤ sizeLine; decide, fun l hl => ?_⟩
      have lp := (len_of hps).trans (aPre_len a n n)
      have n1 : p ≠ t := ne_of_none hP ht
      have n2 : p ≠ l := ne_of_none (o := .lst (refs ps)) (by rw [upd_ne n1]; exact hP) hl
      have sA := (Same.new (o := .tup [.str "meet"]) ht).trans (Same.new (o := .lst [.ref t]) hl)
      refine ⟨p, l, _, _, rfl, rfl, by rw [upd_ne n2, upd_ne n1]; exact hP, upd_same, sz5 (by rw [refs_len, lp]; show 3 * n + 1 ≤ 100000; omega), fun q hq => ?_⟩
      have sB := sA.trans (Same.new (o := .lst (refs ps ++ [.ref t])) hq)
      refine k q _ (ps ++ [(t, .meet)]) (sm.free (sA.free hq)) (sm.trans sB) ?_ ?_ ?_
      · rw [List.map_append, hps] <;> rfl
      · rw [upd_same, refs_append] <;> rfl
      · refine (hD.same sB).append fun x hx => ?_
        rw [List.mem_singleton.mp hx]
        have m1 : t ≠ l := ne_of_none upd_same hl
        have m2 : t ≠ q := ne_of_none (o := .tup [.str "meet"]) (by rw [upd_ne m1]; exact upd_same) hq
        show upd _ q _ t = some (.tup [.str "meet"])
        rw [upd_ne m2, upd_ne m1, upd_same]
-- @@ from_mark
def sp_from_mark (j : Nat) : Sp := fun vs H Q _ => ∃ a n r : Nat, vs = [.int (a : Int), .int (n : Int), .int (r : Int)] ∧ n < j ∧ n ≤ 100 ∧ 1 ≤ r ∧ r ≤ 12 ∧ RetD H (fromN j a n r) Q
theorem ok_from_mark_at (T : Txt K mg) {f : Addr} {fd : FuncData} (m_from_mark : mg "from_mark" = some (.ref f)) (F : Fun K "from_mark" "from_mark" s_from_mark f fd) (b_from_mark : Binds K fd ["start", "steps", "room"] []) :
    ∀ j, FnOk P w K mg base (L2.CX P w) (4 + j) f fd ["start", "steps", "room"] (sp_from_mark j)
  | 0 => ⟨fun vs H Q E h => by obtain ⟨_, _, _, _, h, _⟩ := h; omega, fun A outer s H args us vs Q E _ _ _ _ h => by obtain ⟨_, _, _, _, h, _⟩ := h; omega⟩
  | j + 1 => by
    have G_from_mark := ok_from_mark_at T m_from_mark F b_from_mark j
    have k_from_mark := F.kp
    obtain ⟨f_again_and_again, fd_again_and_again, m_again_and_again, k_again_and_again, b_again_and_again, G_again_and_again⟩ := ok_again_and_again (P := P) (w := w) (base := base) T
    obtain ⟨f_first_mark, fd_first_mark, m_first_mark, k_first_mark, b_first_mark, G_first_mark⟩ := ok_first_mark (P := P) (w := w) (base := base) T
    refine F.okX sc_from_mark (fun vs H Q E h => ?_) (fun cdv A outer s H vs Q E hr h => ?_)
    · obtain ⟨a, n, r, rfl, _⟩ := h
      rfl
    · obtain ⟨a, n, r, rfl, hj, hn, h1, h2, k⟩ := h
      have hr : Room (4 + j) _ := hr
      refine ⟨_, (Evl.pss_cut (ps_if (PW.pt (pw_or (pt_cmpR op_eq (pv 1) pe_int (nomark _)) (pw_or1 (pt_cmpR op_eq (pv 2) pe_int (nomark _)))))
    (pss_one (ps_ret (pe_call G_again_and_again (hr.mono (by omega)) (by rfl) m_again_and_again k_again_and_again b_again_and_again .nil passL (pa_cons (pv 0) (pa_cons (pv 1) pa_nil)))))
    pss_nil)
    (pss_cons (ps_set (i := 3) sc_from_mark.nd rfl (Or.inl rfl) (pe_call G_first_mark (hr.mono (by omega)) (by rfl) m_first_mark k_first_mark b_first_mark .nil passL (pa_cons (pv 1) (pa_cons (pv 2) pa_nil))))
    (pss_cons (ps_set (i := 4) sc_from_mark.nd rfl (Or.inl rfl) (pe_op op_cat (pe_lst (pa_cons (pe_tup (pa_cons pe_str (pa_cons (pv 3) pa_nil))) (pa_cons (pe_tup (pa_cons pe_str pa_nil)) pa_nil))) (pe_call G_from_mark (hr.mono (by omega)) (by rfl) m_from_mark k_from_mark b_from_mark .nil passL (pa_cons (pe_op op_add (pv 0) (pv 3)) (pa_cons (pe_op op_sub (pv 1) (pv 3)) (pa_cons (pe_op op_sub (pv 2) pe_int) pa_nil))))))
    (pss_cons (ps_expr (pe_bm PySem.F.plainAttrs_list PySem.F.slot_list_extend PySem.F.type_list_extend mt_extend (pv 4) (pa_cons (pe_lst (pa_cons (pe_tup (pa_cons pe_str (pa_cons (pe_op op_add (pv 0) (pv 3)) pa_nil))) (pa_cons (pe_tup (pa_cons pe_str (pa_cons (pv 0) pa_nil))) pa_nil))) pa_nil)))
    (pss_one (ps_ret (pe_op op_cat (pv 4) (pe_call G_from_mark (hr.mono (by omega)) (by rfl) m_from_mark k_from_mark b_from_mark .nil passL (pa_cons (pv 0) (pa_cons (pe_op op_sub (pv 3) pe_int) (pa_cons (pv 2) pa_nil))))))))))), ?_⟩
      have tl : ∀ X : Prop, (¬ (n = 0 ∨ r = 1) → X) → (n = 0 ∨ r = 1 → X) → X := fun X x1 x2 => by
        by_cases c : n = 0 ∨ r = 1
        · exact x2 c
        · exact x1 c
      refine ⟨fun σ H' => H' = H ∧ σ = [some (.int (a : Int)), some (.int (n : Int)), some (.int (r : Int)), none, none] ∧ ¬ (n = 0 ∨ r = 1), ?_, ?_⟩
      · have base' : n = 0 ∨ r = 1 → RetD H (againN a n) Q := fun c => by
          have e : fromN (j + 1) a n r = againN a n := by
            show (if n = 0 ∨ r = 1 then againN a n else _) = _
            rw [if_pos c]
          rw [e] at k
          exact k
        refine ⟨_, rfl, rfl, _, rfl, ?_⟩
        refine ite2 (fun c => ?_) (fun c => ?_)
        · have c' : n = 0 := by
            have := V.int.inj (of_decide_eq_true c)
            omega
          exact iteT ⟨_, rfl, _, rfl, a, n, rfl, hn, base' (.inl c')⟩
        · refine ⟨_, rfl, rfl, _, rfl, ?_⟩
          refine ite2 (fun c2 => ?_) (fun c2 => ?_)
          · have c' : r = 1 := by
              have := V.int.inj (of_decide_eq_true c2)
              omega
            exact ⟨_, rfl, _, rfl, a, n, rfl, hn, base' (.inr c')⟩
          · refine ⟨rfl, rfl, fun z => ?_⟩
            rcases z with z | z
            · exact c (decide_eq_true (by rw [z] <;> rfl))
            · exact c2 (decide_eq_true (by rw [z] <;> rfl))
      rintro σ H' ⟨rfl, rfl, hc⟩
      obtain ⟨m1, m2, _⟩ := mark_ok (s := n) (r := r - 1) hn (by omega) (by omega) (by omega)
      rw [show r - 1 + 1 = r by omega] at m1 m2
      have ek : fromN (j + 1) a n r = ([.go (markN n r), .keep] ++ fromN j (a + markN n r) (n - markN n r) (r - 1) ++ [.drop (a + markN n r), .take a]) ++ fromN j a (markN n r - 1) r := by
        show (if n = 0 ∨ r = 1 then againN a n else _) = _
        rw [if_neg hc]
      refine ⟨_, rfl, _, rfl, n, r, rfl, by omega, hn, by omega, h2, ?_⟩
      refine ⟨_, rfl, by show 2 ≤ sizeLine; decide, fun t1 q1 => ?_⟩
      refine ⟨by show 1 ≤ sizeLine; decide, fun t2 q2 => ?_⟩
      refine ⟨by show 2 ≤ sizeLine; decide, fun l ql => ?_⟩
      have n12 : t1 ≠ t2 := ne_of_none upd_same q2
      have n1l : t1 ≠ l := ne_of_none (o := .tup [.str "go", .int (markN n r : Int)]) (by rw [upd_ne n12]; exact upd_same) ql
      have n2l : t2 ≠ l := ne_of_none upd_same ql
      have sA := ((Same.new (o := .tup [.str "go", .int (markN n r : Int)]) q1).trans (Same.new (o := .tup [.str "keep"]) q2)).trans (Same.new (o := .lst [.ref t1, .ref t2]) ql)
      refine ⟨_, rfl, _, rfl, _, _, rfl, rfl, _, rfl, _, rfl, _, _, rfl, rfl, _, rfl, _, _, rfl, rfl, a + markN n r, n - markN n r, r - 1, ?_, by omega, by omega, by omega, by omega, fun p1 H1 ps1 hp1 sB hps1 hP1 hD1 => ?_⟩
      · have e1 : ((n : Int) - (markN n r : Int)) = ((n - markN n r : Nat) : Int) := by omega
        have e2 : ((r : Int) - 1) = ((r - 1 : Nat) : Int) := by omega
        rw [Int.natCast_add, ← e1, ← e2] <;> rfl
      have l1 := from_len j (a + markN n r) (n - markN n r) (r - 1) (by omega) (by omega) (by omega) (by omega)
      have l2 := from_len j a (markN n r - 1) r (by omega) h1 h2 (by omega)
      have lp1 := len_of hps1
      refine ⟨l, p1, _, _, rfl, rfl, sB _ _ upd_same, hP1, sz5 (by rw [refs_len, lp1]; show 2 + _ ≤ 100000; omega), fun g qg => ?_⟩
      have sC := (sA.trans sB).trans (Same.new (o := .lst ([.ref t1, .ref t2] ++ refs ps1)) qg)
      have D0 : DS (upd H1 g (.lst ([.ref t1, .ref t2] ++ refs ps1))) ([(t1, .go (markN n r)), (t2, .keep)] ++ ps1) := by
        refine DS.append (fun x hx => ?_) (hD1.same (Same.new qg))
        simp only [List.mem_cons, List.not_mem_nil, or_false] at hx
        rcases hx with rfl | rfl
        · exact (Same.new qg) _ _ (sB _ _ (by rw [upd_ne n1l, upd_ne n12]; exact upd_same))
        · exact (Same.new qg) _ _ (sB _ _ (by rw [upd_ne n2l]; exact upd_same))
      -- found.extend(..)
      refine ⟨_, rfl, .inl ⟨rfl, _, SqL.of upd_same⟩, ?_⟩
      refine ⟨_, rfl, _, rfl, _, _, rfl, rfl, by show 2 ≤ sizeLine; decide, fun t3 q3 => ?_⟩
      refine ⟨_, rfl, by show 2 ≤ sizeLine; decide, fun t4 q4 => ?_⟩
      refine ⟨by show 2 ≤ sizeLine; decide, fun l' ql' => ?_⟩
      have g3 : g ≠ t3 := ne_of_none upd_same q3
      have g4 : g ≠ t4 := ne_of_none (o := .lst ([.ref t1, .ref t2] ++ refs ps1)) (by rw [upd_ne g3]; exact upd_same) q4
      have gl : g ≠ l' := ne_of_none (o := .lst ([.ref t1, .ref t2] ++ refs ps1)) (by rw [upd_ne g4, upd_ne g3]; exact upd_same) ql'
      have n34 : t3 ≠ t4 := ne_of_none upd_same q4
      have n3l : t3 ≠ l' := ne_of_none (o := .tup [.str "drop", .int ((a : Int) + (markN n r : Int))]) (by rw [upd_ne n34]; exact upd_same) ql'
      have n4l : t4 ≠ l' := ne_of_none upd_same ql'
      refine ⟨g, l', _, _, rfl, rfl, by rw [upd_ne gl, upd_ne g4, upd_ne g3]; exact upd_same, upd_same, sz5 (by rw [List.length_append, refs_len, lp1]; show 2 + _ + 2 ≤ 100000; omega), ?_⟩
      have sD := ((Same.new (o := .tup [.str "drop", .int ((a : Int) + (markN n r : Int))]) q3).trans (Same.new (o := .tup [.str "take", .int (a : Int)]) q4)).trans (Same.new (o := .lst [.ref t3, .ref t4]) ql')
      have hg0 : H' g = none := sA.free (sB.free qg)
      have D1 := D0.same sD
      have D2 : ∀ zs, DS (upd (upd (upd (upd (upd H1 g (.lst ([.ref t1, .ref t2] ++ refs ps1))) t3 (.tup [.str "drop", .int ((a : Int) + (markN n r : Int))])) t4 (.tup [.str "take", .int (a : Int)])) l' (.lst [.ref t3, .ref t4])) g (.lst zs)) (([(t1, .go (markN n r)), (t2, .keep)] ++ ps1) ++ [(t3, .drop (a + markN n r)), (t4, .take a)]) := fun zs => by
        intro x hx
        rcases List.mem_append.mp hx with z | z
        · have nq : x.1 ≠ g := by
            intro e
            have w1 := D0 x z
            rw [e, upd_same] at w1
            cases w1
          rw [upd_ne nq]
          exact D1 x z
        · simp only [List.mem_cons, List.not_mem_nil, or_false] at z
          rcases z with rfl | rfl
          · show upd _ g _ t3 = some (.tup [.str "drop", .int ((a + markN n r : Nat) : Int)])
            rw [upd_ne g3.symm, upd_ne n3l, upd_ne n34, upd_same, Int.natCast_add]
          · show upd _ g _ t4 = some (.tup [.str "take", .int (a : Int)])
            rw [upd_ne g4.symm, upd_ne n4l, upd_same]
      -- found + from_mark(..)
      refine ⟨_, rfl, _, rfl, _, rfl, _, _, rfl, rfl, _, rfl, a, markN n r - 1, r, ?_, by omega, by omega, h1, h2, fun p2 H2 ps2 hp2 sE hps2 hP2 hD2 => ?_⟩
      · have e1 : ((markN n r : Int) - 1) = ((markN n r - 1 : Nat) : Int) := by omega
        rw [← e1] <;> rfl
      have lp2 := len_of hps2
      refine ⟨g, p2, _, _, rfl, rfl, sE _ _ upd_same, hP2, sz5 (by rw [List.length_append, List.length_append, refs_len, lp1, refs_len, lp2]; show 2 + _ + 2 + _ ≤ 100000; omega), fun e qe => ?_⟩
      have sF := Same.mut (sC.trans sD) (o := .lst (([.ref t1, .ref t2] ++ refs ps1) ++ [.ref t3, .ref t4])) hg0
      have sG := (sF.trans sE).trans (Same.new (o := .lst ((([.ref t1, .ref t2] ++ refs ps1) ++ [.ref t3, .ref t4]) ++ refs ps2)) qe)
      refine k e _ ((([(t1, .go (markN n r)), (t2, .keep)] ++ ps1) ++ [(t3, .drop (a + markN n r)), (t4, .take a)]) ++ ps2) ((sF.trans sE).free qe) sG ?_ ?_ ?_
      · rw [ek, List.map_append, List.map_append, List.map_append, hps1, hps2] <;> rfl
      · rw [upd_same, refs_append, refs_append, refs_append] <;> rfl
      · exact (((D2 _).same sE).same (Same.new qe)).append (hD2.same (Same.new qe))
theorem ok_from_mark (T : Txt K mg) : OkF P w K mg base "from_mark" 105 ["start", "steps", "room"] (sp_from_mark 101) := by
  obtain ⟨f, fd, hm, F, hb⟩ := T.d_from_mark
  exact ⟨f, fd, hm, F.kp, hb, ok_from_mark_at T hm F hb 101⟩
-- @@ plan
def sp_plan (K : PySem.W.Frag) (C : Addr) : Sp := fun vs H Q E => (∃ s r : Nat, vs = [.int (s : Int), .int (r : Int)] ∧ s ≤ 100 ∧ 1 ≤ r ∧ r ≤ 12 ∧ RetD H (planN s r) Q) ∨
  (∃ (x y : V) (o1 o2 : Option Int), vs = [x, y] ∧ Thg K H x o1 ∧ Thg K H y o2 ∧ goodC o1 o2 = false ∧ E (.ref C) none H)
theorem ok_plan (T : Txt K mg) : OkF P w K mg base "plan" 106 ["steps", "room"] (sp_plan K T.aBadCount) := by
  obtain ⟨f_need_counts, fd_need_counts, m_need_counts, k_need_counts, b_need_counts, G_need_counts⟩ := ok_need_counts (P := P) (w := w) (base := base) T
  obtain ⟨f_from_mark, fd_from_mark, m_from_mark, k_from_mark, b_from_mark, G_from_mark⟩ := ok_from_mark (P := P) (w := w) (base := base) T
  refine okf T.d_plan sc_plan (fun vs H Q E h => ?_) (fun f cdv A outer s H vs Q E hr h => ?_)
  · rcases h with ⟨s', r, rfl, h1, h2, h3, k⟩ | ⟨x, y, o1, o2, rfl, t1, t2, g, k⟩ <;> rfl
  · skip
    refine ⟨_, (pss_cons (ps_expr (pe_call G_need_counts (hr.mono (by decide)) (by rfl) m_need_counts k_need_counts b_need_counts .nil (passes_call (W := fun cls d _ H => E cls d H) (takes_of rfl rfl rfl rfl) (fun _ _ _ _ h => h)) (pa_cons (pv 0) (pa_cons (pv 1) pa_nil))))
        (pss_cons (ps_if (pt_cmpR op_eq (pv 0) pe_int (nomark _))
        (pss_one (ps_ret (pe_lst (pa_cons (pe_tup (pa_cons pe_str pa_nil)) pa_nil))))
        pss_nil)
        (pss_one (ps_ret (pe_op op_cat (pe_lst (pa_cons (pe_tup (pa_cons pe_str pa_nil)) pa_nil)) (pe_call G_from_mark (hr.mono (by decide)) (by rfl) m_from_mark k_from_mark b_from_mark .nil passL (pa_cons pe_int (pa_cons (pv 0) (pa_cons (pv 1) pa_nil))))))))), ?_⟩
    rcases h with ⟨n, r, rfl, h1, h2, h3, k⟩ | ⟨x, y, o1, o2, rfl, t1, t2, g, k⟩
    case inr => exact ⟨_, rfl, _, rfl, x, y, o1, o2, rfl, t1, t2, fun z => absurd g (by rw [z]; decide), fun _ => k⟩
    refine ⟨_, rfl, _, rfl, _, _, _, _, rfl, .int _, .int _, fun _ => ?_, fun z => absurd (good_ok h1 h2 h3) (by rw [z]; decide)⟩
    refine ⟨_, rfl, rfl, _, rfl, ?_⟩
    unfold planN at k
    refine ite2 (fun c => ?_) (fun c => ?_)
    · have c' : n = 0 := by
        have := V.int.inj (of_decide_eq_true c)
        omega
      rw [if_pos c'] at k
      refine ⟨by show 1 ≤ sizeLine; decide, fun t ht => ?_⟩
      refine ⟨by show 1 ≤ sizeLine; decide, fun l hl => ?_⟩
      refine k l _ [(t, .meet)] ((Same.new ht).free hl) ((Same.new ht).trans (Same.new hl)) rfl upd_same fun x hx => ?_
      rw [List.mem_singleton.mp hx]
      exact (Same.new hl) _ _ upd_same
    · have c' : ¬ n = 0 := fun z => c (decide_eq_true (by rw [z] <;> rfl))
      rw [if_neg c'] at k
      refine ⟨by show 1 ≤ sizeLine; decide, fun t ht => ?_⟩
      refine ⟨by show 1 ≤ sizeLine; decide, fun l hl => ?_⟩
      refine ⟨_, rfl, _, rfl, 0, n, r, rfl, by omega, h1, h2, h3, fun p H1 ps hp s1 hps hP hD => ?_⟩
      have lf := from_len 101 0 n r (by omega) h2 h3 h1
      refine ⟨l, p, _, _, rfl, rfl, s1 _ _ upd_same, hP, sz5 (by rw [refs_len, len_of hps]; show 1 + _ ≤ 100000; omega), fun e he => ?_⟩
      have sA := ((Same.new (o := .tup [.str "keep"]) ht).trans (Same.new (o := .lst [.ref t]) hl)).trans s1
      refine k e _ ([(t, .keep)] ++ ps) (sA.free he) (sA.trans (Same.new he)) (by rw [List.map_append, hps] <;> rfl) (by rw [upd_same, refs_append] <;> rfl) ?_
      refine DS.append (fun x hx => ?_) (hD.same (Same.new he))
      rw [List.mem_singleton.mp hx]
      exact (Same.new he) _ _ (s1 _ _ ((Same.new hl) _ _ upd_same))
-- @@ walked
def sp_walked (K : PySem.W.Frag) (C C1 C2 : Addr) (c8 : Nat → Addr) : Sp := fun vs H Q E =>
  (∃ (p q : Addr) (f R : Nat) (rs : List (Addr × Rule)) (xs : List V) (ts : List (Option Deed)), vs = [.int (f : Int), .ref p, .int (R : Int), .ref q] ∧ H p = some (.lst (refsR rs)) ∧ RS H rs ∧ f < 999983 ∧ rs.length ≤ 100 ∧ 1 ≤ R ∧ R ≤ 12 ∧
    SqL K H q xs ∧ ts.length = xs.length ∧ (∀ (i : Nat) (x : V) (t : Option Deed), xs[i]? = some x → ts[i]? = some t → ThingD K H x t) ∧
    (∀ v A H', runT (rs.map (·.2)) R ts (wk0 f rs.length) = .ok v → H A.x = none → H A.md = none → H A.sn = none → Same H H' → WAt C H' A rs R v → Q (.ref A.x) H') ∧
    (∀ i H', Same H H' → runT (rs.map (·.2)) R ts (wk0 f rs.length) = .error i → E (.ref (c8 i)) none H')) ∨
  (∃ (fx y rm z : V), vs = [fx, y, rm, z] ∧ InitBad K C1 C2 H fx y rm (fun c d _ => ∀ H', Same H H' → E c d H'))
theorem ok_walked (T : Txt K mg) : OkF P w K mg base "walked" 7 ["first", "rules", "room", "deeds"] (sp_walked K T.aWalker T.aBadCount T.aBadRule T.w8) := by
  obtain ⟨f_Walker_init, fd_Walker_init, M_Walker_init, b_Walker_init, G_Walker_init⟩ := ok_Walker_init (P := P) (w := w) (base := base) T
  obtain ⟨f_Walker_do, fd_Walker_do, M_Walker_do, b_Walker_do, G_Walker_do⟩ := ok_Walker_do (P := P) (w := w) (base := base) T
  refine okf T.d_walked sc_walked (fun vs H Q E h => ?_) (fun f cdv A outer s H vs Q E hr h => ?_)
  · rcases h with ⟨p, q, f, R, rs, xs, ts, rfl, _⟩ | ⟨fx, y, rm, z, rfl, _⟩ <;> rfl
  · skip
    refine ⟨_, (pss_cons (ps_set (i := 4) sc_walked.nd rfl (Or.inl rfl) (pe_make M_Walker_init G_Walker_init (hr.mono (by decide)) (by rfl) T.o_Walker.mgC b_Walker_init .nil (passes_call (W := fun cls d _ H => E cls d H) (takes_of rfl rfl rfl rfl) (fun _ _ _ _ h => h)) (pa_cons (pv 0) (pa_cons (pv 1) (pa_cons (pv 2) pa_nil)))))
        (pss_cons (ps_for (passes_of rfl) rfl (pi_list (pv 3)) (pg_name (i := 5) sc_walked.nd rfl (Or.inl rfl))
        (pss_one (ps_expr (pe_meth (pv 4) T.o_Walker.cl M_Walker_do G_Walker_do (hr.mono (by decide)) b_Walker_do .nil (passes_call (W := fun cls d _ H => E cls d H) (takes_of rfl rfl rfl rfl) (fun _ _ _ _ h => h)) (pa_cons (pv 5) pa_nil)))))
        (pss_one (ps_ret (pv 4))))), ?_⟩
    rcases h with ⟨p, q, f, R, rs, xs, ts, rfl, hP, hR, hf, hl, r1, r2, hS, hlen, hT, kg, kb⟩ | ⟨fx, y, rm, z, rfl, bad⟩
    case inr =>
      refine ⟨_, rfl, _, rfl, _, rfl, fun x dx hx hdx hne => .inr ⟨x, fx, y, rm, rfl, ?_⟩⟩
      refine bad.up fun b o e => ?_
      rw [upd_ne (ne_of_none e hx), upd_ne (ne_of_none e hdx)]
      exact e
    refine ⟨_, rfl, _, rfl, _, rfl, fun x dx hx hdx hne => ?_⟩
    have s0 : Same H (upd (upd H dx (.own x)) x (.ins T.aWalker dx [])) := fun b o e => by
      rw [upd_ne (ne_of_none e hx), upd_ne (ne_of_none e hdx)]
      exact e
    refine .inl ⟨x, dx, p, f, R, rs, rfl, upd_same, s0 _ _ hP, hR.same s0, hf, hl, r1, r2, fun A H1 e1 e2 a1 a2 a3 kp W => ⟨rfl, ?_⟩⟩
    subst e1
    have fr : ∀ z, (upd (upd H dx (.own A.x)) A.x (.ins T.aWalker dx [])) z = none → H z = none := fun z h => s0.free h
    have s1 : Same H H1 := fun b o e => kp b o (s0 b o e) (ne_of_none e hx)
    refine ⟨_, rfl, q, rfl, ⟨_, s1.seq hS⟩, ?_⟩
    refine for_list (K := K) (a := q) (xs := xs) (fun i σ H2 => ∃ u w, σ = [some (.int (f : Int)), some (.ref p), some (.int (R : Int)), some (.ref q), some (.ref A.x), u] ∧ runT (rs.map (·.2)) R (ts.take i) (wk0 f rs.length) = .ok w ∧ Same H H2 ∧ WAt T.aWalker H2 A rs R w ∧ w.Ok rs.length ∧ w.Ok2 rs.length R)
      ⟨none, wk0 f rs.length, rfl, rfl, s1, W, wk0_ok hf, wk0_ok2⟩ (fun i σ H2 _ ⟨_, _, _, _, s2, _⟩ => s2.seq hS) ?_ ?_
    · rintro i y σ H2 hi ⟨u, w', rfl, hrun, s2, W2, o1, o2⟩
      have hil := (List.getElem?_eq_some_iff.mp hi).1
      obtain ⟨t, ht⟩ : ∃ t, ts[i]? = some t := ⟨ts[i]'(by omega), List.getElem?_eq_getElem _⟩
      have th := (hT i y t hi ht).same s2
      refine ⟨_, rfl, A.x, A.dx, _, rfl, W2.ob, wF_do .., _, rfl, A, y, rfl, ?_⟩
      cases t with
      | none =>
        exact .inl ⟨th, kb 2 H2 s2 (runT_take_err hrun ht rfl)⟩
      | some d =>
        obtain ⟨a, rfl, ha, dok⟩ := th
        refine .inr ⟨a, d, rs, R, w', rfl, ha, dok, W2, hR.same s2, o1, hl, by have := o2.mo; omega, o2.sn_le hl, fun v hv H3 bt W3 => ?_, fun j hj => kb j H2 s2 (runT_take_err hrun ht (by show (match stepK _ R w' d with | .ok v => _ | .error i => _) = _; rw [hj]))⟩
        have hv' : stepK (rs.map (·.2)) R w' d = .ok v := hv
        refine ⟨_, v, rfl, ?_, fun b o e => bt b o (s2 _ _ e) (ne_of_none e hx) (ne_of_none e (fr _ a2)) (ne_of_none e (fr _ a3)), W3, ?_, o2.step hv'⟩
        · rw [take_succ ht, runT_append, hrun]
          show (match stepK _ R w' d with | .ok v => _ | .error i => _) = _
          rw [hv'] <;> rfl
        · have o1' : w'.Ok (rs.map (·.2)).length := by rw [List.length_map]; exact o1
          have := o1'.step hv'
          rw [List.length_map] at this
          exact this
    · rintro σ H2 ⟨u, w', rfl, hrun, s2, W2, o1, o2⟩
      rw [← hlen, List.take_length] at hrun
      exact ⟨_, rfl, kg w' A H2 hrun hx (fr _ a2) (fr _ a3) s2 W2⟩

-- @@ backwards
def sp_backwards (K : PySem.W.Frag) (C C1 C2 : Addr) : Sp := fun vs H Q E =>
  (∃ (p : Addr) (f R : Nat) (rs : List (Addr × Rule)), vs = [.int (f : Int), .ref p, .int (R : Int)] ∧ H p = some (.lst (refsR rs)) ∧ RS H rs ∧ f < 999983 ∧ rs.length ≤ 100 ∧ 1 ≤ R ∧ R ≤ 12 ∧
    ∀ (t m : Addr) (H' : Hp), H t = none → H m = none → Same H H' → H' t = some (.tup [.ref m, .int (costN rs.length R)]) → H' m = some (.lst ((rowN f (rs.map (·.2))).reverse.map fun (s : Nat) => V.int (s : Int))) → Q (.ref t) H') ∨
  (∃ (fx y rm : V), vs = [fx, y, rm] ∧ InitBad K C1 C2 H fx y rm (fun c d _ => ∀ H', Same H H' → E c d H'))
theorem ok_backwards (T : Txt K mg) : OkF P w K mg base "backwards" 107 ["first", "rules", "room"] (sp_backwards K T.aWalker T.aBadCount T.aBadRule) := by
  obtain ⟨f_Walker_init, fd_Walker_init, M_Walker_init, b_Walker_init, G_Walker_init⟩ := ok_Walker_init (P := P) (w := w) (base := base) T
  obtain ⟨f_plan, fd_plan, m_plan, k_plan, b_plan, G_plan⟩ := ok_plan (P := P) (w := w) (base := base) T
  obtain ⟨f_Walker_do, fd_Walker_do, M_Walker_do, b_Walker_do, G_Walker_do⟩ := ok_Walker_do (P := P) (w := w) (base := base) T
  obtain ⟨f_Walker_met, fd_Walker_met, M_Walker_met, b_Walker_met, G_Walker_met⟩ := ok_Walker_met (P := P) (w := w) (base := base) T
  refine okf T.d_backwards sc_backwards (fun vs H Q E h => ?_) (fun f cdv A outer s H vs Q E hr h => ?_)
  · rcases h with ⟨p, f, R, rs, rfl, _⟩ | ⟨fx, y, rm, rfl, _⟩ <;> rfl
  · skip
    refine ⟨_, (pss_cons (ps_set (i := 3) sc_backwards.nd rfl (Or.inl rfl) (pe_make M_Walker_init G_Walker_init (hr.mono (by decide)) (by rfl) T.o_Walker.mgC b_Walker_init .nil (passes_call (W := fun cls d _ H => E cls d H) (takes_of rfl rfl rfl rfl) (fun _ _ _ _ h => h)) (pa_cons (pv 0) (pa_cons (pv 1) (pa_cons (pv 2) pa_nil)))))
        (pss_cons (ps_for (passes_of rfl) rfl (pi_list (pe_call G_plan (hr.mono (by decide)) (by rfl) m_plan k_plan b_plan .nil (passes_call (W := fun cls d _ H => E cls d H) (takes_of rfl rfl rfl rfl) (fun _ _ _ _ h => h)) (pa_cons (pe_callB call_len_seq (by rfl) T.n_len PySem.boot_len (pa_cons (pv 1) pa_nil)) (pa_cons (pv 2) pa_nil)))) (pg_name (i := 4) sc_backwards.nd rfl (Or.inl rfl))
        (pss_one (ps_expr (pe_meth (pv 3) T.o_Walker.cl M_Walker_do G_Walker_do (hr.mono (by decide)) b_Walker_do .nil (passes_call (W := fun cls d _ H => E cls d H) (takes_of rfl rfl rfl rfl) (fun _ _ _ _ h => h)) (pa_cons (pv 4) pa_nil)))))
        (pss_one (ps_ret (pe_tup (pa_cons (pe_meth0 (pv 3) T.o_Walker.cl M_Walker_met G_Walker_met (hr.mono (by decide)) b_Walker_met .nil passL) (pa_cons (pe_fld (pv 3) rfl) pa_nil))))))), ?_⟩
    rcases h with ⟨p, f, R, rs, rfl, hP, hR, hf, hl, r1, r2, k⟩ | ⟨fx, y, rm, rfl, bad⟩
    case inr =>
      refine ⟨_, rfl, _, rfl, _, rfl, fun x dx hx hdx hne => .inr ⟨x, fx, y, rm, rfl, ?_⟩⟩
      refine bad.up fun b o e => ?_
      rw [upd_ne (ne_of_none e hx), upd_ne (ne_of_none e hdx)]
      exact e
    refine ⟨_, rfl, _, rfl, _, rfl, fun x dx hx hdx hne => ?_⟩
    have s0 : Same H (upd (upd H dx (.own x)) x (.ins T.aWalker dx [])) := fun b o e => by
      rw [upd_ne (ne_of_none e hx), upd_ne (ne_of_none e hdx)]
      exact e
    refine .inl ⟨x, dx, p, f, R, rs, rfl, upd_same, s0 _ _ hP, hR.same s0, hf, hl, r1, r2, fun A H1 e1 e2 a1 a2 a3 kp W => ⟨rfl, ?_⟩⟩
    subst e1
    have fr : ∀ z, (upd (upd H dx (.own A.x)) A.x (.ins T.aWalker dx [])) z = none → H z = none := fun z h => s0.free h
    have s1 : Same H H1 := fun b o e => kp b o (s0 b o e) (ne_of_none e hx)
    have eL : (rs.map (·.2)).length = rs.length := List.length_map ..
    have hl' : (rs.map (·.2)).length ≤ 100 := by rw [eL]; exact hl
    obtain ⟨tW, hrun, hwa, hco, _⟩ := plan_run (s := (rs.map (·.2)).length) (r := R) hl' r1 r2
    refine ⟨_, rfl, p, _, rfl, .inl (SqL.of (s1 _ _ hP)), _, rfl, .inl ⟨(rs.map (·.2)).length, R, by rw [refsR_len, eL] <;> rfl, hl', r1, r2, fun q H2 qs hq s2 hqs hQ hDq => ⟨q, rfl, ⟨_, SqL.of hQ⟩, ?_⟩⟩⟩
    have s12 := s1.trans s2
    have W2 := W.same s2
    have hd : ∀ (i : Nat) (y : Addr × Deed), qs[i]? = some y → (planN (rs.map (·.2)).length R)[i]? = some y.2 := fun i y h => by rw [← hqs, List.getElem?_map, h] <;> rfl
    refine for_list (K := K) (a := q) (xs := refs qs) (fun i σ H3 => ∃ u w, σ = [some (.int (f : Int)), some (.ref p), some (.int (R : Int)), some (.ref A.x), u] ∧ But A H2 H3 ∧ Same H H3 ∧ WAt T.aWalker H3 A rs R w ∧ Wki (rs.map (·.2)) f R (planN (rs.map (·.2)).length R) i w)
      ⟨none, wk0 f rs.length, rfl, But.refl A H2, s12, W2, by rw [← eL]; exact Wki.zero _ hf⟩ (fun i σ H3 _ ⟨_, _, _, b3, _⟩ => SqL.of (b3 _ _ hQ (ne_of_none W.ob hq).symm (ne_of_none W.ma hq).symm (ne_of_none W.se hq).symm)) ?_ ?_
    · rintro i y σ H3 hi ⟨u, w', rfl, b3, s3, W3, K3⟩
      obtain ⟨z, hz, rfl⟩ := get_map hi
      obtain ⟨dok, v, hv, K4⟩ := K3.step hl' hrun (hd i z hz)
      have hz2 := hDq z (List.mem_of_getElem? hz)
      have hz3 := b3 _ _ hz2 (ne_of hz2 W2.ob (by intro z; cases z)) (ne_of hz2 W2.ma (by intro z; cases z)) (ne_of hz2 W2.se (by intro z; cases z))
      have o1 := K3.ok
      rw [eL] at o1
      refine ⟨_, rfl, A.x, A.dx, _, rfl, W3.ob, wF_do .., _, rfl, A, _, rfl, .inr ⟨z.1, z.2, rs, R, w', rfl, hz3, dok, W3, hR.same s3, o1, hl, by have := K3.ok2.mo; omega, K3.ok2.sn_le hl', fun v' hv' H4 bt W4 => ?_, fun j hj => ?_⟩⟩
      · have hv' : stepK (rs.map (·.2)) R w' z.2 = .ok v' := hv'
        rw [hv] at hv'
        cases hv'
        exact ⟨_, v, rfl, b3.trans bt, fun b o e => bt b o (s3 _ _ e) (ne_of_none e hx) (ne_of_none e (fr _ a2)) (ne_of_none e (fr _ a3)), W4, K4⟩
      · have hj : stepK (rs.map (·.2)) R w' z.2 = .error j := hj
        rw [hv] at hj
        cases hj
    · rintro σ H3 ⟨u, w', rfl, b3, s3, W3, K3⟩
      rw [refs_len, len_of hqs] at K3
      have S := K3.done hrun
      obtain ⟨hwn, hsn⟩ := sim_met S hwa
      refine ⟨_, rfl, A.x, A.dx, _, rfl, W3.ob, wF_met .., A, rs, R, w', rfl, W3, fun m H4 hm s4 hM => ⟨_, rfl, A.x, T.aWalker, A.dx, _, _, rfl, s4 _ _ W3.ob, T.o_Walker.cl, T.o_Walker.ndn, wF_done .., by show 2 ≤ sizeLine; decide, fun t ht => ?_⟩⟩
      refine k t m _ (s3.free (s4.free ht)) (s3.free hm) ((s3.trans s4).trans (Same.new ht)) ?_ ?_
      · rw [upd_same, S.dn, ← eL, ← hco]
      · rw [hsn] at hM
        exact (Same.new ht) _ _ hM

-- @@ _law_cell_at
/-- _law_cell_at(script, k): the k-th number, or 0 -/
def cellAt (ns : List Int) (k : Nat) : Int := ns.getD k 0
def sp_l_cell_at (K : PySem.W.Frag) : Sp := fun vs H Q _ => ∃ (a : Addr) (ns : List Int) (j : Nat), vs = [.ref a, .int (j : Int)] ∧ SqL K H a (ns.map V.int) ∧ Q (.int (cellAt ns j)) H
theorem ok_l_cell_at (T : Txt K mg) : OkF P w K mg base "_law_cell_at" 1 ["_law_script", "_law_k"] (sp_l_cell_at K) := by
  refine okf T.d_l_cell_at sc_l_cell_at (fun vs H Q E h => ?_) (fun f cdv A outer s H vs Q E hr h => ?_)
  · obtain ⟨a, ns, j, rfl, hS, k⟩ := h
    rfl
  · obtain ⟨a, ns, j, rfl, hS, k⟩ := h
    refine ⟨_, (pss_cons (ps_if (pt_cmpR op_lt (pv 1) (pe_callB call_len_seq (by rfl) T.n_len PySem.boot_len (pa_cons (pv 0) pa_nil)) (nomark _))
        (pss_one (ps_ret (pe_ix ix_list (pv 0) (pv 1) (fun _ _ => rfl))))
        pss_nil)
        (pss_one (ps_ret pe_int))), ?_⟩
    refine ⟨_, rfl, _, rfl, a, _, rfl, .inl hS, _, _, rfl, rfl, _, rfl, ?_⟩
    refine ite2 (fun c => ?_) (fun c => ?_)
    · have c' := of_decide_eq_true c
      rw [List.length_map] at c'
      have hj : j < ns.length := by omega
      refine ⟨_, rfl, _, rfl, a, _, _, .int (cellAt ns j), rfl, rfl, hS, ?_, k⟩
      refine at_map rfl ?_
      unfold cellAt
      rw [List.getElem?_eq_getElem hj, List.getD_eq_getElem?_getD, List.getElem?_eq_getElem hj] <;> rfl
    · have c' : ¬ ((j : Int) < ((ns.map V.int).length : Int)) := fun z => c (decide_eq_true z)
      rw [List.length_map] at c'
      have e : cellAt ns j = 0 := by
        unfold cellAt
        rw [List.getD_eq_getElem?_getD, List.getElem?_eq_none (by omega)] <;> rfl
      rw [e] at k
      exact k

-- @@ _law_number
def numN (ns : List Int) (j : Nat) : Int := if ns = [] then 5003 * (j : Int) else (ns.getD (j % ns.length) 0 + 7919 * ((j / ns.length : Nat) : Int) + 101 * (j : Int)) * 48271 % 2147483647
theorem num_nn (ns : List Int) (j : Nat) : 0 ≤ numN ns j := by
  unfold numN
  split
  · omega
  · exact Int.emod_nonneg _ (by decide)
def sp_l_number (K : PySem.W.Frag) : Sp := fun vs H Q _ => ∃ (a : Addr) (ns : List Int) (j : Nat), vs = [.ref a, .int (j : Int)] ∧ SqL K H a (ns.map V.int) ∧ ns.length ≤ 63 ∧ j < 100000 ∧ Q (.int (numN ns j)) H
theorem ok_l_number (T : Txt K mg) : OkF P w K mg base "_law_number" 1 ["_law_script", "_law_k"] (sp_l_number K) := by
  refine okf T.d_l_number sc_l_number (fun vs H Q E h => ?_) (fun f cdv A outer s H vs Q E hr h => ?_)
  · obtain ⟨a, ns, j, rfl, hS, hl, hj, k⟩ := h
    rfl
  · obtain ⟨a, ns, j, rfl, hS, hl, hj, k⟩ := h
    refine ⟨_, (pss_cons (ps_if (pt_cmpR op_eq (pe_callB call_len_seq (by rfl) T.n_len PySem.boot_len (pa_cons (pv 0) pa_nil)) pe_int (nomark _))
        (pss_one (ps_ret (pe_op op_mul pe_int (pv 1))))
        pss_nil)
        (pss_cons (ps_set (i := 2) sc_l_number.nd rfl (Or.inl rfl) (pe_op op_add (pe_op op_add (pe_ix ix_list (pv 0) (pe_op op_mod (pv 1) (pe_callB call_len_seq (by rfl) T.n_len PySem.boot_len (pa_cons (pv 0) pa_nil))) (fun _ _ => rfl)) (pe_op op_mul pe_int (pe_op op_fdiv (pv 1) (pe_callB call_len_seq (by rfl) T.n_len PySem.boot_len (pa_cons (pv 0) pa_nil))))) (pe_op op_mul pe_int (pv 1))))
        (pss_one (ps_ret (pe_op op_mod (pe_op op_mul (pv 2) pe_int) pe_int))))), ?_⟩
    refine ⟨_, rfl, a, _, rfl, .inl hS, rfl, _, rfl, ?_⟩
    refine ite2 (fun c => ?_) (fun c => ?_)
    · have e : ns = [] := by
        have := V.int.inj (of_decide_eq_true c)
        rw [List.length_map] at this
        exact List.length_eq_zero_iff.mp (by omega)
      have en : numN ns j = 5003 * (j : Int) := by
        unfold numN
        rw [if_pos e]
      rw [en] at k
      exact ⟨_, rfl, _, _, rfl, rfl, .inl ⟨by decide, by decide⟩, k⟩
    · have hp : 0 < ns.length := by
        by_cases z : ns.length = 0
        · exact absurd (decide_eq_true (by rw [List.length_map, z] <;> rfl)) c
        · omega
      have en : numN ns j = (ns.getD (j % ns.length) 0 + 7919 * ((j / ns.length : Nat) : Int) + 101 * (j : Int)) * 48271 % 2147483647 := by
        unfold numN
        rw [if_neg (fun z => by rw [z] at hp; exact absurd hp (by decide))]
      have el : ((ns.map V.int).length : Int) = (ns.length : Int) := by rw [List.length_map]
      have hm := Nat.mod_lt j hp
      refine ⟨_, rfl, _, rfl, _, rfl, a, _, rfl, .inl hS, _, _, rfl, rfl, by rw [el]; show (0 : Int) < (ns.length : Int); omega, a, _, _, .int (ns.getD (j % ns.length) 0), rfl, rfl, hS, ?_, ?_⟩
      · refine at_map (j := j % ns.length) ?_ ?_
        · rw [el, Int.natCast_emod]
        · rw [List.getElem?_eq_getElem hm, List.getD_eq_getElem?_getD, List.getElem?_eq_getElem hm] <;> rfl
      refine ⟨_, rfl, _, rfl, a, _, rfl, .inl hS, _, _, rfl, rfl, ⟨by rw [el]; omega, by rw [el]; omega⟩, _, _, rfl, rfl, .inl ⟨by decide, by decide⟩, _, _, rfl, rfl, _, rfl, _, _, rfl, rfl, .inl ⟨by decide, by decide⟩, _, _, rfl, rfl, ?_⟩
      refine ⟨_, rfl, _, _, rfl, rfl, .inr ⟨by decide, by decide⟩, _, _, rfl, rfl, by show (0 : Int) < 2147483647; decide, ?_⟩
      rw [en, Int.natCast_ediv, ← el] at k
      exact k
-- @@ _law_rule
def sp_l_rule : Sp := fun vs H Q _ => ∃ n : Int, vs = [.int n] ∧ 0 ≤ n ∧ RetR H Q
theorem ok_l_rule (T : Txt K mg) : OkF P w K mg base "_law_rule" 1 ["_law_number_here"] (sp_l_rule) := by
  refine okf T.d_l_rule sc_l_rule (fun vs H Q E h => ?_) (fun f cdv A outer s H vs Q E hr h => ?_)
  · obtain ⟨n, rfl, hn, k⟩ := h
    rfl
  · obtain ⟨n, rfl, hn, k⟩ := h
    refine ⟨_, (Evl.pss_cut (ps_set (i := 1) sc_l_rule.nd rfl (Or.inl rfl) (pe_op op_mod (pe_op op_fdiv (pv 0) pe_int) pe_int))
        (Evl.pss_cut (ps_if (pt_cmpR op_eq (pe_op op_mod (pe_op op_fdiv (pv 0) pe_int) pe_int) pe_int (nomark _))
        (pss_one (ps_set (i := 1) sc_l_rule.nd rfl (Or.inl rfl) (pe_ix ix_list (pe_lst (pa_cons pe_int (pa_cons pe_int (pa_cons pe_int (pa_cons pe_int (pa_cons pe_int pa_nil)))))) (pe_op op_mod (pe_op op_fdiv (pv 0) pe_int) pe_int) (fun _ _ => rfl))))
        pss_nil)
        (pss_cons (ps_if (pt_cmpR op_lt (pe_op op_mod (pv 0) pe_int) pe_int (nomark _))
        (pss_one (ps_ret (pe_tup (pa_cons pe_str (pa_cons (pv 1) pa_nil)))))
        pss_nil)
        (pss_cons (ps_if (pt_cmpR op_eq (pe_op op_mod (pv 0) pe_int) pe_int (nomark _))
        (pss_one (ps_ret (pe_tup (pa_cons pe_str (pa_cons (pv 1) pa_nil)))))
        pss_nil)
        (pss_one (ps_ret (pe_tup (pa_cons (pe_ix ix_list (pe_lst (pa_cons pe_str (pa_cons pe_str pa_nil))) (pe_op op_sub (pe_op op_mod (pv 0) pe_int) pe_int) (fun _ _ => rfl)) pa_nil)))))))), ?_⟩
    refine ⟨fun σ H' => H' = H ∧ ∃ j : Nat, j < 999983 ∧ σ = [some (.int n), some (.int (j : Int))], ?_, ?_⟩
    · obtain ⟨j, hj, ej⟩ := rem_nat (z := n / 5) (m := 999983) (by decide)
      refine ⟨_, rfl, _, _, rfl, rfl, ⟨by decide, by decide⟩, _, _, rfl, rfl, by show (0 : Int) < 999983; decide, rfl, j, by omega, ?_⟩
      rw [← ej] <;> rfl
    rintro σ H' ⟨rfl, j, hj, rfl⟩
    refine ⟨fun σ H1 => Same H' H1 ∧ ∃ j : Nat, j < 999983 ∧ σ = [some (.int n), some (.int (j : Int))], ?_, ?_⟩
    · refine ⟨_, rfl, _, _, rfl, rfl, ⟨by decide, by decide⟩, _, _, rfl, rfl, by show (0 : Int) < 3; decide, rfl, _, rfl, ?_⟩
      refine ite2 (fun _ => ?_) (fun _ => ?_)
      · refine ⟨by show 5 ≤ sizeLine; decide, fun l hl => ?_⟩
        obtain ⟨i, hi, ei⟩ := rem_nat (z := n / 15) (m := 5) (by decide)
        obtain ⟨v, hv, m, rfl, hm⟩ := pick (P := fun v => ∃ m : Nat, v = V.int (m : Int) ∧ m < 999983) (xs := [.int 0, .int 1, .int 2, .int 999982, .int 999981]) (fun v hv => by
          simp only [List.mem_cons, List.not_mem_nil, or_false] at hv
          rcases hv with rfl | rfl | rfl | rfl | rfl
          · exact ⟨0, rfl, by decide⟩
          · exact ⟨1, rfl, by decide⟩
          · exact ⟨2, rfl, by decide⟩
          · exact ⟨999982, rfl, by decide⟩
          · exact ⟨999981, rfl, by decide⟩) (j := i) (by show i < 5; omega)
        exact ⟨_, rfl, _, _, rfl, rfl, ⟨by decide, by decide⟩, _, _, rfl, rfl, by show (0 : Int) < 5; decide, l, _, _, .int (m : Int), rfl, rfl, SqL.of upd_same, at_of ei hv, Same.new hl, m, hm, rfl⟩
      · exact ⟨Same.refl _, j, hj, rfl⟩
    rintro σ H1 ⟨s1, j, hj, rfl⟩
    have e5 : 0 ≤ n % 5 ∧ n % 5 < 5 := ⟨Int.emod_nonneg _ (by decide), Int.emod_lt_of_pos _ (by decide)⟩
    refine ⟨_, rfl, _, _, rfl, rfl, by show (0 : Int) < 5; decide, _, _, rfl, rfl, _, rfl, ?_⟩
    refine ite2 (fun c => ?_) (fun c => ?_)
    · refine ⟨_, rfl, by show 2 ≤ sizeLine; decide, fun t ht => ?_⟩
      exact k (.add j) t _ hj (s1.free ht) (s1.trans (Same.new ht)) upd_same
    · have c' : ¬ n % 5 < 2 := fun z => c (decide_eq_true z)
      refine ⟨_, rfl, _, _, rfl, rfl, by show (0 : Int) < 5; decide, rfl, _, rfl, ?_⟩
      refine ite2 (fun c2 => ?_) (fun c2 => ?_)
      · refine ⟨_, rfl, by show 2 ≤ sizeLine; decide, fun t ht => ?_⟩
        exact k (.times j) t _ hj (s1.free ht) (s1.trans (Same.new ht)) upd_same
      · have c3 : ¬ n % 5 = 2 := fun z => c2 (decide_eq_true (by show V.int (n % 5) = V.int 2; rw [z]))
        refine ⟨by show 2 ≤ sizeLine; decide, fun l hl => ?_⟩
        obtain ⟨i, hi, ei⟩ : ∃ i : Nat, i < 2 ∧ n % 5 - 3 = (i : Int) := ⟨(n % 5 - 3).toNat, by omega, by omega⟩
        obtain ⟨v, hv, r, rfl, hr1, hr2⟩ := pick (P := fun v => ∃ r : Rule, v = V.str r.word ∧ r.vs = [V.str r.word] ∧ r.ok) (xs := [.str "square", .str "half"]) (fun v hv => by
          simp only [List.mem_cons, List.not_mem_nil, or_false] at hv
          rcases hv with rfl | rfl
          · exact ⟨.square, rfl, rfl, trivial⟩
          · exact ⟨.half, rfl, rfl, trivial⟩) (j := i) (by show i < 2; omega)
        refine ⟨_, rfl, _, _, rfl, rfl, by show (0 : Int) < 5; decide, _, _, rfl, rfl, l, _, _, .str r.word, rfl, rfl, SqL.of upd_same, at_of ei hv, by show 1 ≤ sizeLine; decide, fun t ht => ?_⟩
        refine k r t _ hr2 (s1.free ((Same.new hl).free ht)) ((s1.trans (Same.new hl)).trans (Same.new ht)) ?_
        rw [upd_same, hr1]

-- @@ _law_row
def sp_l_row (K : PySem.W.Frag) : Sp := fun vs H Q _ => ∃ (a : Addr) (ns : List Int) (j m : Nat), vs = [.ref a, .int (j : Int), .int (m : Int)] ∧ SqL K H a (ns.map V.int) ∧ ns.length ≤ 63 ∧ j ≤ 1000 ∧ m ≤ 1000 ∧
  ∀ (t l : Addr) (f : Nat) (rs : List (Addr × Rule)) (H' : Hp), H t = none → H l = none → (∀ q ∈ rs, H q.1 = none) → Same H H' → H' t = some (.tup [.int (f : Int), .ref l]) → H' l = some (.lst (refsR rs)) → RS H' rs → f < 999983 → rs.length ≤ m → Q (.ref t) H'
theorem ok_l_row (T : Txt K mg) : OkF P w K mg base "_law_row" 2 ["_law_script", "_law_start", "_law_most"] (sp_l_row K) := by
  obtain ⟨f_l_number, fd_l_number, m_l_number, k_l_number, b_l_number, G_l_number⟩ := ok_l_number (P := P) (w := w) (base := base) T
  obtain ⟨f_l_rule, fd_l_rule, m_l_rule, k_l_rule, b_l_rule, G_l_rule⟩ := ok_l_rule (P := P) (w := w) (base := base) T
  refine okf T.d_l_row sc_l_row (fun vs H Q E h => ?_) (fun f cdv A outer s H vs Q E hr h => ?_)
  · obtain ⟨a, ns, j, m, rfl, hS, hl, hj, hm, k⟩ := h
    rfl
  · obtain ⟨a, ns, j, m, rfl, hS, hl, hj, hm, k⟩ := h
    refine ⟨_, (Evl.pss_cut (ps_set (i := 3) sc_l_row.nd rfl (Or.inl rfl) (pe_ix ix_list (pe_lst (pa_cons pe_int (pa_cons pe_int (pa_cons pe_int (pa_cons (pe_op op_mod (pe_op op_fdiv (pe_call G_l_number (hr.mono (by decide)) (by rfl) m_l_number k_l_number b_l_number .nil passL (pa_cons (pv 0) (pa_cons (pv 1) pa_nil))) pe_int) pe_int) pa_nil))))) (pe_op op_mod (pe_call G_l_number (hr.mono (by decide)) (by rfl) m_l_number k_l_number b_l_number .nil passL (pa_cons (pv 0) (pa_cons (pv 1) pa_nil))) pe_int) (fun _ _ => rfl)))
        (Evl.pss_cut (ps_set (i := 4) sc_l_row.nd rfl (Or.inl rfl) (pe_op op_mod (pe_call G_l_number (hr.mono (by decide)) (by rfl) m_l_number k_l_number b_l_number .nil passL (pa_cons (pv 0) (pa_cons (pe_op op_add (pv 1) pe_int) pa_nil))) (pe_op op_add (pv 2) pe_int)))
        (pss_one (ps_ret (pe_tup (pa_cons (pv 3) (pa_cons (pe_lc (own := [("_law_k", 5)]) rfl sc_l_row.nd (pi_range1 (by rfl) T.n_range (pa_cons (pv 4) pa_nil)) (blkOk_by (own := [("_law_k", 5)]) (N := ["_law_script", "_law_start", "_law_most", "_law_first", "_law_many", "_law_k"]) (sc := defScope s_l_row) (by decide +kernel)) (fun _ _ _ _ _ => (pg_name (i := 5) sc_l_row.nd rfl (Or.inl rfl))) (fun _ _ _ _ _ => pts_nil) (fun _ _ _ _ _ => (pe_call G_l_rule (hr.mono (by decide)) (by rfl) m_l_rule k_l_rule b_l_rule .nil passL (pa_cons (pe_call G_l_number (hr.mono (by decide)) (by rfl) m_l_number k_l_number b_l_number .nil passL (pa_cons (pv 0) (pa_cons (pe_op op_add (pe_op op_add (pv 1) pe_int) (pv 5)) pa_nil))) pa_nil)))) pa_nil))))))), ?_⟩
    refine ⟨fun σ H' => Same H H' ∧ ∃ f : Nat, f < 999983 ∧ σ = [some (.ref a), some (.int (j : Int)), some (.int (m : Int)), some (.int (f : Int)), none, none], ?_, ?_⟩
    · obtain ⟨f0, hf0, ef0⟩ := rem_nat (z := numN ns j / 4) (m := 999983) (by decide)
      obtain ⟨i, hi, ei⟩ := rem_nat (z := numN ns j) (m := 4) (by decide)
      obtain ⟨v, hv, f, rfl, hf⟩ := pick (P := fun v => ∃ f : Nat, v = V.int (f : Int) ∧ f < 999983) (xs := [.int 0, .int 1, .int 999982, .int (numN ns j / 4 % 999983)]) (fun v hv => by
        simp only [List.mem_cons, List.not_mem_nil, or_false] at hv
        rcases hv with rfl | rfl | rfl | rfl
        · exact ⟨0, rfl, by decide⟩
        · exact ⟨1, rfl, by decide⟩
        · exact ⟨999982, rfl, by decide⟩
        · exact ⟨f0, by rw [ef0], by omega⟩) (j := i) (by show i < 4; omega)
      refine ⟨_, rfl, _, rfl, a, ns, j, rfl, hS, hl, by omega, _, _, rfl, rfl, ⟨by decide, by decide⟩, _, _, rfl, rfl, by show (0 : Int) < 999983; decide, by show 4 ≤ sizeLine; decide, fun l hl0 => ?_⟩
      refine ⟨_, rfl, _, rfl, a, ns, j, rfl, (Same.new hl0).seq hS, hl, by omega, _, _, rfl, rfl, by show (0 : Int) < 4; decide, l, _, _, .int (f : Int), rfl, rfl, SqL.of upd_same, at_of ei hv, Same.new hl0, f, hf, rfl⟩
    rintro σ H1 ⟨s1, f, hf, rfl⟩
    refine ⟨fun σ H' => H' = H1 ∧ ∃ c : Nat, c ≤ m ∧ σ = [some (.ref a), some (.int (j : Int)), some (.int (m : Int)), some (.int (f : Int)), some (.int (c : Int)), none], ?_, ?_⟩
    · obtain ⟨c, hc, ec⟩ := rem_nat (z := numN ns (j + 1)) (m := (m : Int) + 1) (by omega)
      refine ⟨_, rfl, _, rfl, _, _, rfl, rfl, a, ns, j + 1, rfl, s1.seq hS, hl, by omega, _, rfl, _, _, rfl, rfl, _, _, rfl, rfl, by show (0 : Int) < (m : Int) + 1; omega, rfl, c, by omega, ?_⟩
      rw [← ec] <;> rfl
    rintro σ H2 ⟨rfl, c, hc, rfl⟩
    refine ⟨_, rfl, _, rfl, _, rfl, by omega, by omega, fun D hD => ?_⟩
    have e0 : (c : Int).toNat = c := by omega
    refine lc_range (lo := 0) (n := (c : Int).toNat) (fun i H' => Same H2 H' ∧ ∃ rs : List (Addr × Rule), rs.length = i ∧ H' D = some (.lst (refsR rs)) ∧ RS H' rs ∧ ∀ q ∈ rs, H2 q.1 = none) ⟨Same.new hD, [], rfl, upd_same, fun q hq => (nomatch hq), fun q hq => (nomatch hq)⟩ ?_ ?_
    · rintro i H' hi ⟨sm, rs, hrs, hP, hR, hN⟩
      rw [e0] at hi
      have ei : (0 : Int) + (i : Int) = (i : Int) := Int.zero_add _
      rw [ei]
      refine ⟨rfl, ?_⟩
      refine ⟨_, rfl, _, rfl, _, _, rfl, rfl, _, rfl, _, _, rfl, rfl, a, ns, j + 2 + i, rfl, (s1.trans sm).seq hS, hl, by omega, _, rfl, num_nn _ _, fun r p H3 ok hp s3 hp3 => ?_⟩
      have nDp : D ≠ p := ne_of_none hP hp
      have sD : ∀ b o, b ≠ D → H3 b = some o → upd H3 D (.lst (refsR rs ++ [.ref p])) b = some o := fun b o hb h => by rw [upd_ne hb]; exact h
      refine ⟨_, s3 _ _ hP, sz5' (by rw [refsR_len]; omega), Same.mut (sm.trans s3) hD, rs ++ [(p, r)], by rw [List.length_append, hrs] <;> rfl, ?_, fun q hq => ?_, fun q hq => ?_⟩
      · rw [upd_same]
        unfold refsR
        rw [List.map_append] <;> rfl
      · rcases List.mem_append.mp hq with z | z
        · have e := (hR.same s3 q z).1
          refine ⟨sD _ _ (fun y => ?_) e, (hR q z).2⟩
          rw [y, s3 _ _ hP] at e
          cases e
        · rw [List.mem_singleton.mp z]
          exact ⟨sD _ _ nDp.symm hp3, ok⟩
      · rcases List.mem_append.mp hq with z | z
        · exact hN q z
        · rw [List.mem_singleton.mp z]
          exact sm.free hp
    · rintro H3 ⟨s3, rs, hrs, hP, hR, hN⟩
      refine ⟨by show 2 ≤ sizeLine; decide, fun t ht => ?_⟩
      exact k t D f rs _ (s1.free (s3.free ht)) (s1.free hD) (fun q hq => s1.free (hN q hq)) ((s1.trans s3).trans (Same.new ht)) upd_same ((Same.new ht) _ _ hP) (hR.same (Same.new ht)) hf (by omega)
-- @@ _law_class
def kinds8 (i : Nat) : List V := [.bl (decide (0 = i)), .bl (decide (1 = i)), .bl (decide (2 = i)), .bl (decide (3 = i)), .bl (decide (4 = i)), .bl (decide (5 = i)), .bl (decide (6 = i)), .bl (decide (7 = i))]
theorem kinds_count {i : Nat} (h : i < 8) : ((kinds8 i).countP fun z => eqV z (.bl true)) = 1 := eight (P := fun i => ((kinds8 i).countP fun z => eqV z (.bl true)) = 1) h rfl rfl rfl rfl rfl rfl rfl rfl
theorem kinds_at {i : Nat} (h : i < 8) : (kinds8 i)[i]? = some (.bl true) := eight (P := fun i => (kinds8 i)[i]? = some (.bl true)) h rfl rfl rfl rfl rfl rfl rfl rfl
theorem kinds_ahead {i m : Nat} (h : i < 8) (hm : m < i) : (kinds8 i)[m]? = some (.bl false) := by
  have g : ∀ i, i < 8 → ∀ m, m < i → (kinds8 i)[m]? = some (.bl false) := by decide
  exact g i h m hm
theorem words_at {i : Nat} (h : i < 8) : (words8.map V.str)[i]? = some (.str (words8.getD i "")) := eight (P := fun i => (words8.map V.str)[i]? = some (.str (words8.getD i ""))) h rfl rfl rfl rfl rfl rfl rfl rfl
theorem ok_l_class (T : Txt K mg) : ∃ (f : Addr) (fd : FuncData), mg "_law_class" = some (.ref f) ∧ PySem.W.keepIn K (.ref f) = true ∧ Binds K fd ["_law_e"] [] ∧ FnE P w K mg base 1 f fd ["_law_e"] (sp_class K T.c8) := by
  obtain ⟨f, fd, hm, F, hb⟩ := T.d_l_class
  refine ⟨f, fd, hm, F.kp, hb, fn_ofE F sc_l_class (fun a c d vs H Q h => ?_) (fun cdv A outer s H vs Q p c d hz hf hr h => ?_)⟩
  · obtain ⟨rfl, _⟩ := h
    rfl
  · obtain ⟨rfl, D, i, rfl, rfl, KD, k⟩ := h
    refine ⟨_, (pss_cons (ps_set (i := 1) sc_l_class.nd rfl (Or.inl rfl) (pe_lst (pa_cons (pe_callB (call_isP (List.mem_singleton_self _) hz hf) (by rfl) T.n_isinstance (by decide +kernel) (pa_cons (pv 0) (pa_cons (pe_glob (v := .ref T.aBadCount) (by rfl) T.x_BadCount.g rfl) pa_nil))) (pa_cons (pe_callB (call_isP (List.mem_singleton_self _) hz hf) (by rfl) T.n_isinstance (by decide +kernel) (pa_cons (pv 0) (pa_cons (pe_glob (v := .ref T.aBadRule) (by rfl) T.x_BadRule.g rfl) pa_nil))) (pa_cons (pe_callB (call_isP (List.mem_singleton_self _) hz hf) (by rfl) T.n_isinstance (by decide +kernel) (pa_cons (pv 0) (pa_cons (pe_glob (v := .ref T.aBadDeed) (by rfl) T.x_BadDeed.g rfl) pa_nil))) (pa_cons (pe_callB (call_isP (List.mem_singleton_self _) hz hf) (by rfl) T.n_isinstance (by decide +kernel) (pa_cons (pv 0) (pa_cons (pe_glob (v := .ref T.aFull) (by rfl) T.x_Full.g rfl) pa_nil))) pa_nil))))))
    (pss_cons (ps_set (i := 1) sc_l_class.nd rfl (Or.inl rfl) (pe_op op_cat (pv 1) (pe_lst (pa_cons (pe_callB (call_isP (List.mem_singleton_self _) hz hf) (by rfl) T.n_isinstance (by decide +kernel) (pa_cons (pv 0) (pa_cons (pe_glob (v := .ref T.aTwice) (by rfl) T.x_Twice.g rfl) pa_nil))) (pa_cons (pe_callB (call_isP (List.mem_singleton_self _) hz hf) (by rfl) T.n_isinstance (by decide +kernel) (pa_cons (pv 0) (pa_cons (pe_glob (v := .ref T.aNotKept) (by rfl) T.x_NotKept.g rfl) pa_nil))) (pa_cons (pe_callB (call_isP (List.mem_singleton_self _) hz hf) (by rfl) T.n_isinstance (by decide +kernel) (pa_cons (pv 0) (pa_cons (pe_glob (v := .ref T.aAtEnd) (by rfl) T.x_AtEnd.g rfl) pa_nil))) (pa_cons (pe_callB (call_isP (List.mem_singleton_self _) hz hf) (by rfl) T.n_isinstance (by decide +kernel) (pa_cons (pv 0) (pa_cons (pe_glob (v := .ref T.aNotWanted) (by rfl) T.x_NotWanted.g rfl) pa_nil))) pa_nil)))))))
    (pss_cons (ps_if (PW.pt (pw_or (pt_cmpR op_ne (pe_bm PySem.F.plainAttrs_list PySem.F.slot_list_count PySem.F.type_list_count mt_countV (pv 1) (pa_cons pe_bl pa_nil)) pe_int (nomark _)) (pw_or1 (pt_not (pt_val (pe_callB (call_isP (List.mem_singleton_self _) hz hf) (by rfl) T.n_isinstance (by decide +kernel) (pa_cons (pv 0) (pa_cons (pe_bltn (v := .ty "ValueError") (by rfl) T.n_ValueError (by decide +kernel) rfl) pa_nil))))))))
    (pss_one (ps_ret (pe_tup (pa_cons pe_str (pa_cons pe_str pa_nil)))))
    pss_nil)
    (pss_cons (ps_set (i := 2) sc_l_class.nd rfl (Or.inl rfl) (pe_lst (pa_cons pe_str (pa_cons pe_str (pa_cons pe_str (pa_cons pe_str (pa_cons pe_str (pa_cons pe_str (pa_cons pe_str (pa_cons pe_str pa_nil))))))))))
    (pss_one (ps_ret (pe_tup (pa_cons pe_str (pa_cons (pe_ix ix_list (pv 2) (pe_bm PySem.F.plainAttrs_list PySem.F.slot_list_index PySem.F.type_list_index mt_index (pv 1) (pa_cons pe_bl pa_nil)) (fun _ _ => rfl)) pa_nil))))))))), ?_⟩
    refine ⟨_, rfl, D, .ref _, .ref _, _, rfl, rfl, KD.ex, rfl, fun u r => r, KD.is 0 (by decide), _, rfl, D, .ref _, .ref _, _, rfl, rfl, KD.ex, rfl, fun u r => r, KD.is 1 (by decide), _, rfl, D, .ref _, .ref _, _, rfl, rfl, KD.ex, rfl, fun u r => r, KD.is 2 (by decide), _, rfl, D, .ref _, .ref _, _, rfl, rfl, KD.ex, rfl, fun u r => r, KD.is 3 (by decide), by show 4 ≤ sizeLine; decide, fun p1 h1 => ?_⟩
    refine ⟨_, rfl, ?_⟩
    refine ⟨_, rfl, D, .ref _, .ref _, _, rfl, rfl, KD.ex, rfl, fun u r => r, KD.is 4 (by decide), _, rfl, D, .ref _, .ref _, _, rfl, rfl, KD.ex, rfl, fun u r => r, KD.is 5 (by decide), _, rfl, D, .ref _, .ref _, _, rfl, rfl, KD.ex, rfl, fun u r => r, KD.is 6 (by decide), _, rfl, D, .ref _, .ref _, _, rfl, rfl, KD.ex, rfl, fun u r => r, KD.is 7 (by decide), by show 4 ≤ sizeLine; decide, fun p2 h2 => ?_⟩
    have n12 : p1 ≠ p2 := ne_of_none upd_same h2
    refine ⟨p1, p2, _, _, rfl, rfl, by rw [upd_ne n12]; exact upd_same, upd_same, by show 8 ≤ sizeLine; decide, fun p3 h3 => ?_⟩
    have sm := fun (o : HO) => ((Same.new h1).trans (Same.new h2)).trans (Same.new (o := o) h3)
    -- the two refusals of the shape
    refine ⟨_, rfl, .inl ⟨rfl, _, SqL.of upd_same⟩, p3, kinds8 i, .bl true, rfl, rfl, SqL.of upd_same, rfl, rfl, ?_⟩
    rw [kinds_count KD.lt]
    refine ⟨rfl, _, rfl, iteNS rfl ?_⟩
    refine ⟨_, rfl, D, .ty "ValueError", .type "ValueError", _, rfl, rfl, KD.ex, rfl, fun u r => r, KD.ve, _, rfl, iteF ?_⟩
    refine ⟨by show 8 ≤ sizeLine; decide, fun p4 h4 => ?_⟩
    have n34 : p3 ≠ p4 := ne_of_none upd_same h4
    refine ⟨_, rfl, _, rfl, .inl ⟨rfl, _, SqL.of (by rw [upd_ne n34]; exact upd_same)⟩, p3, kinds8 i, .bl true, i, .bl true, rfl, rfl, SqL.of (by rw [upd_ne n34]; exact upd_same), rfl, rfl, kinds_at KD.lt, rfl, fun m z' hm hz' => ?_, ?_⟩
    · rw [kinds_ahead KD.lt hm] at hz'
      cases hz'
      rfl
    refine ⟨p4, words8.map V.str, _, _, rfl, rfl, SqL.of upd_same, atI_nat (words_at KD.lt), by show 2 ≤ sizeLine; decide, fun t ht => ?_⟩
    exact k t _ (((sm _).trans (Same.new h4)).free ht) (((sm _).trans (Same.new h4)).trans (Same.new ht)) upd_same

-- @@ _law_made
theorem stepK_err {rs : List Rule} {R : Nat} {w : WK} {d : Deed} {i : Nat} (h : stepK rs R w d = .error i) : 3 ≤ i ∧ i ≤ 7 := by
  cases d <;> simp only [stepK] at h <;> (repeat' split at h) <;> cases h <;> decide
theorem runT_err {rs : List Rule} {R : Nat} : ∀ {ts : List (Option Deed)} {w : WK} {i : Nat}, runT rs R ts w = .error i → 2 ≤ i ∧ i ≤ 7
  | [], _, _, h => by cases h
  | none :: _, _, _, h => by
    cases h
    decide
  | some d :: ts, w, i, h => by
    have h : (match stepK rs R w d with | .ok v => runT rs R ts v | .error i => .error i) = Except.error i := h
    cases e : stepK rs R w d with
    | error j =>
      rw [e] at h
      cases h
      have := stepK_err e
      omega
    | ok v =>
      rw [e] at h
      exact runT_err h
theorem RetT.up {H H' : Hp} {xs : List V} {Q : VK} (e : Same H H') (k : RetT H xs Q) : RetT H' xs Q := fun p H2 hp s h => k p H2 (e.free hp) (e.trans s) h
def sp_l_made (K : PySem.W.Frag) : Sp := fun vs H Q _ => ∃ (x y rm : V) (m : Nat), vs = [x, y, rm, .int (m : Int)] ∧ m < 3 ∧
  ((∃ (p : Addr) (f R : Nat) (rs : List (Addr × Rule)), x = .int (f : Int) ∧ y = .ref p ∧ rm = .int (R : Int) ∧ H p = some (.lst (refsR rs)) ∧ RS H rs ∧ f < 999983 ∧ rs.length ≤ 100 ∧ 1 ≤ R ∧ R ≤ 12 ∧ ∀ H', Same H H' → Q .non H') ∨
   (∃ o b o3, Thg K H x o ∧ ListTh K H y b ∧ Thg K H rm o3 ∧ ((among o 0 999982 = false ∧ RetT H [.str "refused", .str "count"] Q) ∨ (among o 0 999982 = true ∧ b = false ∧ RetT H [.str "refused", .str "rule"] Q) ∨ (among o 0 999982 = true ∧ b = true ∧ among o3 1 12 = false ∧ RetT H [.str "refused", .str "count"] Q))))
theorem ListTh.same {K : PySem.W.Frag} {H H' : Hp} {y : V} {b : Bool} (e : Same H H') (h : ListTh K H y b) : ListTh K H' y b := by
  cases h with
  | nlist ty ni => exact .nlist (tyX_same e ty) ni
  | big h hl => exact .big (e _ _ h) hl
  | all h hl hb ht => exact .all (e _ _ h) hl hb fun i x b hx hb => (ht i x b hx hb).same e
theorem ok_l_made (T : Txt K mg) : OkF P w K mg base "_law_made" 108 ["_law_first", "_law_rules", "_law_room", "_law_way"] (sp_l_made K) := by
  obtain ⟨f_Walker_init, fd_Walker_init, M_Walker_init, b_Walker_init, G_Walker_init⟩ := ok_Walker_init (P := P) (w := w) (base := base) T
  obtain ⟨f_backwards, fd_backwards, m_backwards, k_backwards, b_backwards, G_backwards⟩ := ok_backwards (P := P) (w := w) (base := base) T
  obtain ⟨f_walked, fd_walked, m_walked, k_walked, b_walked, G_walked⟩ := ok_walked (P := P) (w := w) (base := base) T
  obtain ⟨f_l_class, fd_l_class, m_l_class, k_l_class, b_l_class, G_l_class⟩ := ok_l_class (P := P) (w := w) (base := base) T
  refine okf T.d_l_made sc_l_made (fun vs H Q E h => ?_) (fun f cdv A outer s H vs Q E hr h => ?_)
  · obtain ⟨x, y, rm, m, rfl, hm, h⟩ := h
    rfl
  · obtain ⟨x, y, rm, m, rfl, hm, h⟩ := h
    refine ⟨_, (pss_cons (ps_try_as (i := 4) rfl rfl sc_l_made.nd rfl rfl ⟨rfl, by decide, .inl T.x_MarkError.g⟩ takes0 (fun W pn xe tk po => (pss_one (ps_if (pt_cmpR op_eq (pv 3) pe_int (nomark _))
        (pss_one (ps_expr (pe_makeS M_Walker_init G_Walker_init (hr.mono (by decide)) (by rfl) T.o_Walker.mgC b_Walker_init (fun σ => passAt tk σ) (pa_cons (pv 0) (pa_cons (pv 1) (pa_cons (pv 2) pa_nil))))))
        (pss_one (ps_if (pt_cmpR op_eq (pv 3) pe_int (nomark _))
        (pss_one (ps_expr (pe_callS G_backwards (hr.mono (by decide)) (by rfl) m_backwards k_backwards b_backwards (fun σ => passAt tk σ) (pa_cons (pv 0) (pa_cons (pv 1) (pa_cons (pv 2) pa_nil))))))
        (pss_one (ps_expr (pe_callS G_walked (hr.mono (by decide)) (by rfl) m_walked k_walked b_walked (fun σ => passAt tk σ) (pa_cons (pv 0) (pa_cons (pv 1) (pa_cons (pv 2) (pa_cons (pe_lst pa_nil) pa_nil)))))))))))) (fun a oe cls d pn hz hf => (pss_one (ps_ret (pe_hotE G_l_class (hr.mono (by decide)) hz hf (by rfl) m_l_class k_l_class b_l_class (pa_cons (pv 4) pa_nil))))))
        (pss_one (ps_ret pe_non))), ?_⟩
    rcases h with ⟨p, f, R, rs, rfl, rfl, rfl, hP, hR, hf, hl, r1, r2, k⟩ | ⟨o, b, o3, t1, t2, t3, bad⟩
    · match m, hm with
      | 0, _ =>
        refine ⟨_, rfl, rfl, _, rfl, iteT ?_⟩
        refine ⟨_, rfl, _, rfl, _, rfl, fun x dx hx hdx hne => ?_⟩
        have s0 : Same H (upd (upd H dx (.own x)) x (.ins T.aWalker dx [])) := fun b o e => by
          rw [upd_ne (ne_of_none e hx), upd_ne (ne_of_none e hdx)]
          exact e
        refine .inl ⟨x, dx, p, f, R, rs, rfl, upd_same, s0 _ _ hP, hR.same s0, hf, hl, r1, r2, fun A H1 e1 e2 a1 a2 a3 kp W => ⟨rfl, ?_⟩⟩
        exact k _ fun b o e => kp b o (s0 b o e) (ne_of_none e hx)
      | 1, _ =>
        refine ⟨_, rfl, rfl, _, rfl, iteF ?_⟩
        refine ⟨_, rfl, rfl, _, rfl, iteT ?_⟩
        refine ⟨_, rfl, _, rfl, _, rfl, .inl ⟨p, f, R, rs, rfl, hP, hR, hf, hl, r1, r2, fun t m H' ht hm s _ _ => k H' s⟩⟩
      | 2, _ =>
        refine ⟨_, rfl, rfl, _, rfl, iteF ?_⟩
        refine ⟨_, rfl, rfl, _, rfl, iteF ?_⟩
        refine ⟨_, rfl, _, rfl, _, rfl, by show 0 ≤ sizeLine; decide, fun q hq => ?_⟩
        have w0 := Same.new (o := .lst []) hq
        refine .inl ⟨p, q, f, R, rs, [], [], rfl, w0 _ _ hP, hR.same w0, hf, hl, r1, r2, SqL.of upd_same, rfl, fun i x t hx _ => by simp at hx, fun v A H' _ _ _ _ s _ => k H' (w0.trans s), fun i H' s e => by cases e⟩
    have go : ∀ H1, Same H H1 → ∀ (W : Value → Option Addr → Hp → Prop), (∀ H2, Same H H2 → (RetT H2 [.str "refused", .str "count"] Q → W (.ref T.aBadCount) none H2) ∧ (RetT H2 [.str "refused", .str "rule"] Q → W (.ref T.aBadRule) none H2)) → InitBad K T.aBadCount T.aBadRule H1 x y rm (fun c d _ => ∀ H', Same H1 H' → W c d H') := by
      intro H1 s1 W hW
      refine ⟨o, b, o3, t1.same s1, t2.same s1, t3.same s1, ?_⟩
      rcases bad with ⟨a, k⟩ | ⟨a, b', k⟩ | ⟨a, b', c, k⟩
      · exact .inl ⟨a, fun H' s => (hW H' (s1.trans s)).1 (k.up (s1.trans s))⟩
      · exact .inr (.inl ⟨a, b', fun H' s => (hW H' (s1.trans s)).2 (k.up (s1.trans s))⟩)
      · exact .inr (.inr ⟨a, b', c, fun H' s => (hW H' (s1.trans s)).1 (k.up (s1.trans s))⟩)
    match m, hm with
    | 0, _ =>
      refine ⟨_, rfl, rfl, _, rfl, iteT ?_⟩
      refine ⟨_, rfl, _, rfl, _, rfl, fun x0 dx hx hdx hne => .inr ⟨x0, x, y, rm, rfl, ?_⟩⟩
      have s0 : Same H (upd (upd H dx (.own x0)) x0 (.ins T.aWalker dx [])) := fun b o e => by
        rw [upd_ne (ne_of_none e hx), upd_ne (ne_of_none e hdx)]
        exact e
      refine InitBad.up (H := upd (upd H dx (.own x0)) x0 (.ins T.aWalker dx [])) (Same.refl _) (go _ s0 _ fun H2 s2 => ⟨fun k => ?_, fun k => ?_⟩)
      · refine ⟨true, T.e_BadCount, fun _ a ha => ?_, fun q => Bool.noConfusion q⟩
        exact ⟨_, rfl, rfl, T.aBadCount, 0, rfl, rfl, T.q_BadCount, k⟩
      · refine ⟨true, T.e_BadRule, fun _ a ha => ?_, fun q => Bool.noConfusion q⟩
        exact ⟨_, rfl, rfl, T.aBadRule, 1, rfl, rfl, T.q_BadRule, k⟩
    | 1, _ =>
      refine ⟨_, rfl, rfl, _, rfl, iteF ?_⟩
      refine ⟨_, rfl, rfl, _, rfl, iteT ?_⟩
      refine ⟨_, rfl, _, rfl, _, rfl, .inr ⟨x, y, rm, rfl, ?_⟩⟩
      refine go H (Same.refl _) _ fun H2 s2 => ⟨fun k => ?_, fun k => ?_⟩
      · refine ⟨true, T.e_BadCount, fun _ a ha => ?_, fun q => Bool.noConfusion q⟩
        exact ⟨_, rfl, rfl, T.aBadCount, 0, rfl, rfl, T.q_BadCount, k⟩
      · refine ⟨true, T.e_BadRule, fun _ a ha => ?_, fun q => Bool.noConfusion q⟩
        exact ⟨_, rfl, rfl, T.aBadRule, 1, rfl, rfl, T.q_BadRule, k⟩
    | 2, _ =>
      refine ⟨_, rfl, rfl, _, rfl, iteF ?_⟩
      refine ⟨_, rfl, rfl, _, rfl, iteF ?_⟩
      refine ⟨_, rfl, _, rfl, _, rfl, by show 0 ≤ sizeLine; decide, fun q hq => ?_⟩
      have w0 := Same.new (o := .lst []) hq
      refine .inr ⟨x, y, rm, _, rfl, ?_⟩
      refine go _ w0 _ fun H2 s2 => ⟨fun k => ?_, fun k => ?_⟩
      · refine ⟨true, T.e_BadCount, fun _ a ha => ?_, fun q => Bool.noConfusion q⟩
        exact ⟨_, rfl, rfl, T.aBadCount, 0, rfl, rfl, T.q_BadCount, k⟩
      · refine ⟨true, T.e_BadRule, fun _ a ha => ?_, fun q => Bool.noConfusion q⟩
        exact ⟨_, rfl, rfl, T.aBadRule, 1, rfl, rfl, T.q_BadRule, k⟩
-- @@ _law_deeds
def sp_l_deeds (K : PySem.W.Frag) : Sp := fun vs H Q _ => ∃ (p q : Addr) (f R : Nat) (rs : List (Addr × Rule)) (xs : List V) (ts : List (Option Deed)), vs = [.int (f : Int), .ref p, .int (R : Int), .ref q] ∧ H p = some (.lst (refsR rs)) ∧ RS H rs ∧ f < 999983 ∧ rs.length ≤ 100 ∧ 1 ≤ R ∧ R ≤ 12 ∧
  SqL K H q xs ∧ ts.length = xs.length ∧ (∀ (i : Nat) (x : V) (t : Option Deed), xs[i]? = some x → ts[i]? = some t → ThingD K H x t) ∧
  (∀ v, runT (rs.map (·.2)) R ts (wk0 f rs.length) = .ok v → v.mks = [] ∧ v.sn = [] ∧ ∀ (t m n : Addr) (H' : Hp), H t = none → Same H H' → H' t = some (.tup [.int (v.pl : Int), .int (v.dn : Int), .ref m, .ref n]) → H' m = some (.lst []) → H' n = some (.lst []) → Q (.ref t) H') ∧
  (∀ i, runT (rs.map (·.2)) R ts (wk0 f rs.length) = .error i → RetT H [.str "refused", .str (words8.getD i "")] Q)
theorem ok_l_deeds (T : Txt K mg) : OkF P w K mg base "_law_deeds" 8 ["_law_first", "_law_rules", "_law_room", "_law_deeds_here"] (sp_l_deeds K) := by
  obtain ⟨f_walked, fd_walked, m_walked, k_walked, b_walked, G_walked⟩ := ok_walked (P := P) (w := w) (base := base) T
  obtain ⟨f_l_class, fd_l_class, m_l_class, k_l_class, b_l_class, G_l_class⟩ := ok_l_class (P := P) (w := w) (base := base) T
  obtain ⟨f_Walker_kept, fd_Walker_kept, M_Walker_kept, b_Walker_kept, G_Walker_kept⟩ := ok_Walker_kept (P := P) (w := w) (base := base) T
  obtain ⟨f_Walker_met, fd_Walker_met, M_Walker_met, b_Walker_met, G_Walker_met⟩ := ok_Walker_met (P := P) (w := w) (base := base) T
  refine okf T.d_l_deeds sc_l_deeds (fun vs H Q E h => ?_) (fun f cdv A outer s H vs Q E hr h => ?_)
  · obtain ⟨p, q, f, R, rs, xs, ts, rfl, hP, hR, hf, hl, r1, r2, hS, hlen, hT, kg, kb⟩ := h
    rfl
  · obtain ⟨p, q, f, R, rs, xs, ts, rfl, hP, hR, hf, hl, r1, r2, hS, hlen, hT, kg, kb⟩ := h
    refine ⟨_, (pss_cons (ps_try_as (i := 5) rfl rfl sc_l_deeds.nd rfl rfl ⟨rfl, by decide, .inl T.x_MarkError.g⟩ takes0 (fun W pn xe tk po => (pss_one (ps_set (i := 4) sc_l_deeds.nd rfl (Or.inl rfl) (pe_callS G_walked (hr.mono (by decide)) (by rfl) m_walked k_walked b_walked (fun σ => passAt tk σ) (pa_cons (pv 0) (pa_cons (pv 1) (pa_cons (pv 2) (pa_cons (pv 3) pa_nil)))))))) (fun a oe cls d pn hz hf => (pss_one (ps_ret (pe_hotE G_l_class (hr.mono (by decide)) hz hf (by rfl) m_l_class k_l_class b_l_class (pa_cons (pv 5) pa_nil))))))
        (pss_one (ps_ret (pe_tup (pa_cons (pe_fld (pv 4) rfl) (pa_cons (pe_fld (pv 4) rfl) (pa_cons (pe_meth0 (pv 4) T.o_Walker.cl M_Walker_kept G_Walker_kept (hr.mono (by decide)) b_Walker_kept .nil passL) (pa_cons (pe_meth0 (pv 4) T.o_Walker.cl M_Walker_met G_Walker_met (hr.mono (by decide)) b_Walker_met .nil passL) pa_nil)))))))), ?_⟩
    have cl := T.o_Walker.cl
    have O := T.o_Walker
    refine ⟨_, rfl, _, rfl, _, rfl, _, rfl, .inl ⟨p, q, f, R, rs, xs, ts, rfl, hP, hR, hf, hl, r1, r2, hS, hlen, hT, fun v A H1 hrun fx fm fs s1 W => ?_, fun i H1 s1 hrun => ?_⟩⟩
    · obtain ⟨hm, hs, k⟩ := kg v hrun
      refine ⟨_, rfl, A.x, T.aWalker, A.dx, _, _, rfl, W.ob, cl, O.npl, wF_place .., _, rfl, A.x, T.aWalker, A.dx, _, _, rfl, W.ob, cl, O.ndn, wF_done .., ?_⟩
      refine ⟨_, rfl, A.x, A.dx, _, rfl, W.ob, wF_kept .., A, rs, R, v, rfl, W, by rw [hm]; decide, fun p5 H5 tl hp5 s5 hP5 hT5 hperm hsort => ?_⟩
      have W5 := W.same s5
      refine ⟨_, rfl, A.x, A.dx, _, rfl, W5.ob, wF_met .., A, rs, R, v, rfl, W5, fun p6 H6 hp6 s6 hP6 => ⟨by show 4 ≤ sizeLine; decide, fun t ht => ?_⟩⟩
      have e0 : tl = [] := by
        have e := hperm.length_eq
        rw [hm, List.length_map] at e
        exact List.length_eq_zero_iff.mp e
      rw [e0] at hP5
      rw [hs] at hP6
      have s16 := s1.trans (s5.trans s6)
      exact k t p5 p6 _ (s16.free ht) (s16.trans (Same.new ht)) upd_same ((Same.new ht) _ _ (s6 _ _ hP5)) ((Same.new ht) _ _ hP6)
    · have k := (kb i hrun).up s1
      obtain ⟨i2, i7⟩ := runT_err hrun
      match i, i2, i7, k with
      | 2, _, _, k => exact ⟨true, T.e_BadDeed, fun _ a ha => ⟨_, rfl, rfl, T.aBadDeed, 2, rfl, rfl, T.q_BadDeed, k⟩, fun q => Bool.noConfusion q⟩
      | 3, _, _, k => exact ⟨true, T.e_Full, fun _ a ha => ⟨_, rfl, rfl, T.aFull, 3, rfl, rfl, T.q_Full, k⟩, fun q => Bool.noConfusion q⟩
      | 4, _, _, k => exact ⟨true, T.e_Twice, fun _ a ha => ⟨_, rfl, rfl, T.aTwice, 4, rfl, rfl, T.q_Twice, k⟩, fun q => Bool.noConfusion q⟩
      | 5, _, _, k => exact ⟨true, T.e_NotKept, fun _ a ha => ⟨_, rfl, rfl, T.aNotKept, 5, rfl, rfl, T.q_NotKept, k⟩, fun q => Bool.noConfusion q⟩
      | 6, _, _, k => exact ⟨true, T.e_AtEnd, fun _ a ha => ⟨_, rfl, rfl, T.aAtEnd, 6, rfl, rfl, T.q_AtEnd, k⟩, fun q => Bool.noConfusion q⟩
      | 7, _, _, k => exact ⟨true, T.e_NotWanted, fun _ a ha => ⟨_, rfl, rfl, T.aNotWanted, 7, rfl, rfl, T.q_NotWanted, k⟩, fun q => Bool.noConfusion q⟩
-- @@ _law_wrong_deeds
def goodD : List Deed := [.keep, .take 0, .drop 0, .keep, .take 0]
/-- what is refused, and by which word -/
def OddT (n : Nat) (t : Option Deed) (w : Str) : Prop := (t = some (.drop 1) ∧ w = "notkept") ∨ (t = some (.go (n + 1)) ∧ w = "atend") ∨ (t = some (.take 3) ∧ w = "notkept") ∨ (t = none ∧ w = "deed") ∨ (t = some .meet ∧ w = "notwanted" ∧ n ≠ 0)
theorem good_pre (rs : List Rule) (f n : Nat) : ∀ j, j < 6 → ∃ w, runT rs 1 ((goodD.map some).take j) (wk0 f n) = .ok w ∧ w.pl = 0 ∧ w.wa = some n ∧ stOf w.mks 1 = none ∧ stOf w.mks 3 = none
  | 0, _ => ⟨_, rfl, rfl, rfl, rfl, rfl⟩
  | 1, _ => ⟨_, rfl, rfl, rfl, rfl, rfl⟩
  | 2, _ => ⟨_, rfl, rfl, rfl, rfl, rfl⟩
  | 3, _ => ⟨_, rfl, rfl, rfl, rfl, rfl⟩
  | 4, _ => ⟨_, rfl, rfl, rfl, rfl, rfl⟩
  | 5, _ => ⟨_, rfl, rfl, rfl, rfl, rfl⟩
theorem runT_cons_err {rs : List Rule} {R : Nat} {d : Deed} {ts : List (Option Deed)} {w : WK} {i : Nat} (h : stepK rs R w d = .error i) : runT rs R (some d :: ts) w = .error i := by
  show (match stepK rs R w d with | .ok v => runT rs R ts v | .error i => .error i) = _
  rw [h]
theorem odd_refused {rs : List Rule} {f n j : Nat} {t : Option Deed} {w : Str} (hn : rs.length = n) (hj : j < 6) (h : OddT n t w) : ∃ i, runT rs 1 ((goodD.map some).take j ++ [t] ++ (goodD.map some).drop j) (wk0 f n) = .error i ∧ words8.getD i "" = w ∧ (PyData.str w).canLay0 = true := by
  obtain ⟨v, hv, hp, hw, h1, h3⟩ := good_pre rs f n j hj
  rw [List.append_assoc, runT_append, hv]
  rcases h with ⟨rfl, rfl⟩ | ⟨rfl, rfl⟩ | ⟨rfl, rfl⟩ | ⟨rfl, rfl⟩ | ⟨rfl, rfl, hn0⟩
  · exact ⟨5, runT_cons_err (by simp only [stepK, h1]), rfl, by decide +kernel⟩
  · exact ⟨6, runT_cons_err (by show (if v.pl + (n + 1) > rs.length then _ else _) = _; rw [if_pos (by omega)]), rfl, by decide +kernel⟩
  · exact ⟨5, runT_cons_err (by simp only [stepK, h3]), rfl, by decide +kernel⟩
  · exact ⟨2, rfl, rfl, by decide +kernel⟩
  · refine ⟨7, runT_cons_err ?_, rfl, by decide +kernel⟩
    show (if some v.pl = v.wa then _ else _) = _
    rw [if_neg (fun z => by rw [hp, hw] at z; have := Option.some.inj z; omega)]
theorem at2_append {α β : Type} {P : α → β → Prop} {xs ys : List α} {ts us : List β} (hl : xs.length = ts.length) (h1 : ∀ (i : Nat) (x : α) (t : β), xs[i]? = some x → ts[i]? = some t → P x t) (h2 : ∀ (i : Nat) (x : α) (t : β), ys[i]? = some x → us[i]? = some t → P x t) :
    ∀ (i : Nat) (x : α) (t : β), (xs ++ ys)[i]? = some x → (ts ++ us)[i]? = some t → P x t := by
  intro i x t hx ht
  by_cases c : i < xs.length
  · rw [List.getElem?_append_left c] at hx
    rw [List.getElem?_append_left (by omega)] at ht
    exact h1 i x t hx ht
  · rw [List.getElem?_append_right (by omega)] at hx ht
    rw [← hl] at ht
    exact h2 _ x t hx ht
theorem at2_take {α β : Type} {P : α → β → Prop} {xs : List α} {ts : List β} (j : Nat) (h1 : ∀ (i : Nat) (x : α) (t : β), xs[i]? = some x → ts[i]? = some t → P x t) : ∀ (i : Nat) (x : α) (t : β), (xs.take j)[i]? = some x → (ts.take j)[i]? = some t → P x t := by
  intro i x t hx ht
  have hl := (List.getElem?_eq_some_iff.mp hx).1
  rw [List.length_take] at hl
  rw [List.getElem?_take_of_lt (by omega)] at hx ht
  exact h1 i x t hx ht
theorem at2_drop {α β : Type} {P : α → β → Prop} {xs : List α} {ts : List β} (j : Nat) (h1 : ∀ (i : Nat) (x : α) (t : β), xs[i]? = some x → ts[i]? = some t → P x t) : ∀ (i : Nat) (x : α) (t : β), (xs.drop j)[i]? = some x → (ts.drop j)[i]? = some t → P x t := by
  intro i x t hx ht
  rw [List.getElem?_drop] at hx ht
  exact h1 _ x t hx ht
theorem at2_one {α β : Type} {P : α → β → Prop} {a : α} {b : β} (h : P a b) : ∀ (i : Nat) (x : α) (t : β), [a][i]? = some x → [b][i]? = some t → P x t
  | 0, x, t, hx, ht => by
    have e1 : a = x := Option.some.inj hx
    have e2 : b = t := Option.some.inj ht
    rw [← e1, ← e2]
    exact h
  | i + 1, x, t, hx, _ => by simp at hx
theorem cut_lo (xs : List V) (k : Nat) : cutV xs none (some (k : Int)) = xs.take k := by
  unfold cutV
  rw [HT.sIx_none, HT.sIx_nat, List.drop_zero, Nat.sub_zero]
  by_cases c : k ≤ xs.length
  · rw [Nat.min_eq_left c]
  · rw [Nat.min_eq_right (by omega), List.take_of_length_le (Nat.le_refl _), List.take_of_length_le (by omega)]
theorem cut_hi (xs : List V) (k : Nat) (h : k ≤ xs.length) : cutV xs (some (k : Int)) none = xs.drop k := by
  unfold cutV
  rw [HT.sIx_none, HT.sIx_nat, Nat.min_eq_left h, List.take_of_length_le (by rw [List.length_drop]; omega)]
theorem goods_at {K : PySem.W.Frag} {H : Hp} {gs : List (Addr × Deed)} {ds : List Deed} (hg : gs.map (·.2) = ds) (hD : DS H gs) (ok : ∀ d ∈ ds, d.ok) : ∀ (i : Nat) (x : V) (t : Option Deed), (refs gs)[i]? = some x → (ds.map some)[i]? = some t → ThingD K H x t := by
  intro i x t hx ht
  obtain ⟨q, hq, rfl⟩ := get_map hx
  obtain ⟨d, hd, rfl⟩ := get_map ht
  rw [← hg, List.getElem?_map, hq] at hd
  have e : q.2 = d := Option.some.inj hd
  have m := List.mem_of_getElem? hq
  refine ⟨q.1, rfl, ?_, ?_⟩
  · rw [← e]
    exact hD q m
  · rw [← e]
    exact ok _ (by rw [← hg]; exact List.mem_map.mpr ⟨q, m, rfl⟩)
def sp_l_wrong (K : PySem.W.Frag) : Sp := fun vs H Q _ => ∃ (p : Addr) (f : Nat) (c : Int) (rs : List (Addr × Rule)), vs = [.int (f : Int), .ref p, .int c] ∧ H p = some (.lst (refsR rs)) ∧ RS H rs ∧ f < 999983 ∧ rs.length ≤ 6 ∧ ∀ H', Same H H' → Q (.bl true) H'
abbrev sp_l_wrong_deeds := sp_l_wrong
def refD (w : Str) : PyData := .tuple [.str "refused", .str w]
theorem refD_sh {w : Str} (hw : (PyData.str w).canLay0 = true) : Sh 1 (refD w) := .tup fun d hd => by
  simp only [List.mem_cons, List.not_mem_nil, or_false] at hd
  rcases hd with rfl | rfl
  · exact .str (by decide +kernel)
  · exact .str hw
theorem refD_dp {K : PySem.W.Frag} {H : Hp} {t : Addr} {w : Str} (h : H t = some (.tup [.str "refused", .str w])) : Dp K H (.ref t) (refD w) := .tup (SqT.of h) (.cons (.str _) (.cons (.str _) .nil))
def zeroD : PyData := .tuple [.int 0, .int 0, .list [], .list []]
theorem zeroD_sh : Sh 2 zeroD := .tup fun d hd => by
  simp only [List.mem_cons, List.not_mem_nil, or_false] at hd
  rcases hd with rfl | rfl | rfl | rfl
  · exact .int _
  · exact .int _
  · exact .lst fun d hd => (nomatch hd)
  · exact .lst fun d hd => (nomatch hd)
theorem zeroD_dp {K : PySem.W.Frag} {H : Hp} {t m n : Addr} (h : H t = some (.tup [.int 0, .int 0, .ref m, .ref n])) (hm : H m = some (.lst [])) (hn : H n = some (.lst [])) : Dp K H (.ref t) zeroD :=
  .tup (SqT.of h) (.cons (.int _) (.cons (.int _) (.cons (.lst (SqL.of hm) .nil) (.cons (.lst (SqL.of hn) .nil) .nil))))
def OddV (K : PySem.W.Frag) (H : Hp) (n : Nat) (v : V) (w : Str) : Prop := ∃ t, ThingD K H v t ∧ (OddT n t w ∨ (t = some .meet ∧ w = "notwanted"))
theorem ok_l_wrong_deeds (T : Txt K mg) : OkF P w K mg base "_law_wrong_deeds" 9 ["_law_first", "_law_rules", "_law_cell"] (sp_l_wrong_deeds K) := by
  obtain ⟨f_l_deeds, fd_l_deeds, m_l_deeds, k_l_deeds, b_l_deeds, G_l_deeds⟩ := ok_l_deeds (P := P) (w := w) (base := base) T
  refine okf T.d_l_wrong_deeds sc_l_wrong_deeds (fun vs H Q E h => ?_) (fun f cdv A outer s H vs Q E hr h => ?_)
  · obtain ⟨p, f, c, rs, rfl, hP, hR, hf, hl, k⟩ := h
    rfl
  · obtain ⟨p, f, c, rs, rfl, hP, hR, hf, hl, k⟩ := h
    refine ⟨_, (Evl.pss_cut (ps_set (i := 3) sc_l_wrong_deeds.nd rfl (Or.inl rfl) (pe_lst (pa_cons (pe_tup (pa_cons pe_str pa_nil)) (pa_cons (pe_tup (pa_cons pe_str (pa_cons pe_int pa_nil))) (pa_cons (pe_tup (pa_cons pe_str (pa_cons pe_int pa_nil))) (pa_cons (pe_tup (pa_cons pe_str pa_nil)) (pa_cons (pe_tup (pa_cons pe_str (pa_cons pe_int pa_nil))) pa_nil)))))))
        (pss_cons (ps_set (i := 4) sc_l_wrong_deeds.nd rfl (Or.inl rfl) (pe_lst (pa_cons (pe_tup (pa_cons (pe_tup (pa_cons pe_str (pa_cons pe_int pa_nil))) (pa_cons pe_str pa_nil))) (pa_cons (pe_tup (pa_cons (pe_tup (pa_cons pe_str (pa_cons (pe_op op_add (pe_callB call_len_seq (by rfl) T.n_len PySem.boot_len (pa_cons (pv 1) pa_nil)) pe_int) pa_nil))) (pa_cons pe_str pa_nil))) (pa_cons (pe_tup (pa_cons (pe_tup (pa_cons pe_str (pa_cons pe_int pa_nil))) (pa_cons pe_str pa_nil))) (pa_cons (pe_tup (pa_cons (pe_tup (pa_cons pe_str (pa_cons pe_int pa_nil))) (pa_cons pe_str pa_nil))) pa_nil))))))
        (Evl.pss_cut (ps_set (i := 4) sc_l_wrong_deeds.nd rfl (Or.inl rfl) (pe_op op_cat (pv 4) (pe_lst (pa_cons (pe_tup (pa_cons pe_non (pa_cons pe_str pa_nil))) (pa_cons (pe_tup (pa_cons (pe_tup (pa_cons pe_str pa_nil)) (pa_cons pe_str pa_nil))) pa_nil)))))
        (Evl.pss_cut (ps_asg (pe_ix ix_list (pv 4) (pe_op op_mod (pv 2) pe_int) (fun _ _ => rfl)) (pg_tup rfl (pgs_cons (pg_name (i := 5) sc_l_wrong_deeds.nd rfl (Or.inl rfl)) (pgs_cons (pg_name (i := 6) sc_l_wrong_deeds.nd rfl (Or.inl rfl)) pgs_nil))))
        (Evl.pss_cut (ps_if (PW.pt (pw_and (pt_cmpR op_eq (pv 6) pe_str (nomark _)) (pw_and1 (pt_cmpR (op_eqD hr.units) (pv 1) (pe_lst pa_nil) (nomark _)))))
        (pss_one (ps_asg (pe_tup (pa_cons (pe_tup (pa_cons pe_str (pa_cons pe_int pa_nil))) (pa_cons pe_str pa_nil))) (pg_tup rfl (pgs_cons (pg_name (i := 5) sc_l_wrong_deeds.nd rfl (Or.inl rfl)) (pgs_cons (pg_name (i := 6) sc_l_wrong_deeds.nd rfl (Or.inl rfl)) pgs_nil)))))
        pss_nil)
        (Evl.pss_cut (ps_set (i := 7) sc_l_wrong_deeds.nd rfl (Or.inl rfl) (pe_op op_mod (pe_op op_fdiv (pv 2) pe_int) pe_int))
        (Evl.pss_cut (ps_set (i := 8) sc_l_wrong_deeds.nd rfl (Or.inl rfl) (pe_op op_cat (pe_op op_cat (pe_slice sl_list (pv 3) po_none (po_some (pv 7))) (pe_lst (pa_cons (pv 5) pa_nil))) (pe_slice sl_list (pv 3) (po_some (pv 7)) po_none)))
        (Evl.pss_cut (ps_if (pt_cmpR (op_neD hr.units) (pe_call G_l_deeds (hr.mono (by decide)) (by rfl) m_l_deeds k_l_deeds b_l_deeds .nil passL (pa_cons (pv 0) (pa_cons (pe_callTy (T := "list") (r := rListOf K) call_list_of (by rfl) T.n_list (by decide +kernel) (pa_cons (pv 1) pa_nil)) (pa_cons pe_int (pa_cons (pv 8) pa_nil))))) (pe_tup (pa_cons pe_str (pa_cons (pv 6) pa_nil))) (nomark _))
        (pss_one (ps_ret pe_bl))
        pss_nil)
        (pss_one (ps_ret (pe_cmpR (op_eqD hr.units) (pe_call G_l_deeds (hr.mono (by decide)) (by rfl) m_l_deeds k_l_deeds b_l_deeds .nil passL (pa_cons (pv 0) (pa_cons (pe_callTy (T := "list") (r := rListOf K) call_list_of (by rfl) T.n_list (by decide +kernel) (pa_cons (pv 1) pa_nil)) (pa_cons pe_int (pa_cons (pe_op op_cat (pv 3) (pe_lst (pa_cons (pe_tup (pa_cons pe_str (pa_cons pe_int pa_nil))) pa_nil))) pa_nil))))) (pe_tup (pa_cons pe_int (pa_cons pe_int (pa_cons (pe_lst pa_nil) (pa_cons (pe_lst pa_nil) pa_nil))))) (nomark _)))))))))))), ?_⟩
    refine ⟨fun σ H' => ∃ (g : Addr) (gs : List (Addr × Deed)), σ = [some (.int (f : Int)), some (.ref p), some (.int c), some (.ref g), none, none, none, none, none] ∧ Same H H' ∧ gs.map (·.2) = goodD ∧ H' g = some (.lst (refs gs)) ∧ DS H' gs, ?_, ?_⟩
    · refine ⟨by show 1 ≤ sizeLine; decide, fun t1 h1 => ?_⟩
      refine ⟨by show 2 ≤ sizeLine; decide, fun t2 h2 => ?_⟩
      refine ⟨by show 2 ≤ sizeLine; decide, fun t3 h3 => ?_⟩
      refine ⟨by show 1 ≤ sizeLine; decide, fun t4 h4 => ?_⟩
      refine ⟨by show 2 ≤ sizeLine; decide, fun t5 h5 => ?_⟩
      refine ⟨by show 5 ≤ sizeLine; decide, fun g hg => ?_⟩
      have w1 := Same.new (o := .tup [.str "keep"]) h1
      have w2 := Same.new (o := .tup [.str "take", .int 0]) h2
      have w3 := Same.new (o := .tup [.str "drop", .int 0]) h3
      have w4 := Same.new (o := .tup [.str "keep"]) h4
      have w5 := Same.new (o := .tup [.str "take", .int 0]) h5
      have w6 := Same.new (o := .lst [.ref t1, .ref t2, .ref t3, .ref t4, .ref t5]) hg
      have s5 := w5.trans w6
      have s4 := w4.trans s5
      have s3 := w3.trans s4
      have s2 := w2.trans s3
      refine ⟨g, [(t1, .keep), (t2, .take 0), (t3, .drop 0), (t4, .keep), (t5, .take 0)], rfl, w1.trans s2, rfl, upd_same, fun q hq => ?_⟩
      simp only [List.mem_cons, List.not_mem_nil, or_false] at hq
      rcases hq with rfl | rfl | rfl | rfl | rfl
      · exact s2 _ _ upd_same
      · exact s3 _ _ upd_same
      · exact s4 _ _ upd_same
      · exact s5 _ _ upd_same
      · exact w6 _ _ upd_same
    rintro σ H1 ⟨g, gs, rfl, s1, hgs, hG, hGD⟩
    have hP1 := s1 _ _ hP
    have hR1 := hR.same s1
    refine ⟨by show 2 ≤ sizeLine; decide, fun t1 h1 => ?_⟩
    refine ⟨by show 2 ≤ sizeLine; decide, fun u1 k1 => ?_⟩
    have w1 := (Same.new (o := .tup [.str "drop", .int 1]) h1).trans (Same.new (o := .tup [.ref t1, .str "notkept"]) k1)
    refine ⟨_, rfl, p, _, rfl, .inl (SqL.of (w1 _ _ hP1)), _, _, rfl, rfl, by show 2 ≤ sizeLine; decide, fun t2 h2 => ?_⟩
    refine ⟨by show 2 ≤ sizeLine; decide, fun u2 k2 => ?_⟩
    refine ⟨by show 2 ≤ sizeLine; decide, fun t3 h3 => ?_⟩
    refine ⟨by show 2 ≤ sizeLine; decide, fun u3 k3 => ?_⟩
    refine ⟨by show 2 ≤ sizeLine; decide, fun t4 h4 => ?_⟩
    refine ⟨by show 2 ≤ sizeLine; decide, fun u4 k4 => ?_⟩
    refine ⟨by show 4 ≤ sizeLine; decide, fun o1 ho1 => ?_⟩
    refine ⟨fun σ H' => ∃ (o : Addr) (xs : List V), σ = [some (.int (f : Int)), some (.ref p), some (.int c), some (.ref g), some (.ref o), none, none, none, none] ∧ Same H1 H' ∧ H' o = some (.lst xs) ∧ xs.length = 6 ∧ ∀ x ∈ xs, ∃ a v w, x = .ref a ∧ H' a = some (.tup [v, .str w]) ∧ OddV K H' rs.length v w, ?_, ?_⟩
    · refine ⟨_, rfl, by show 2 ≤ sizeLine; decide, fun u5 k5 => ?_⟩
      refine ⟨by show 1 ≤ sizeLine; decide, fun t6 h6 => ?_⟩
      refine ⟨by show 2 ≤ sizeLine; decide, fun u6 k6 => ?_⟩
      refine ⟨by show 2 ≤ sizeLine; decide, fun o2 ho2 => ?_⟩
      have e2 : ((refsR rs).length : Int) + 1 = ((rs.length + 1 : Nat) : Int) := by rw [refsR_len]; omega
      have a2 := Same.new (o := .tup [.str "go", .int (((refsR rs).length : Int) + 1)]) h2
      have b2 := Same.new (o := .tup [.ref t2, .str "atend"]) k2
      have a3 := Same.new (o := .tup [.str "take", .int 3]) h3
      have b3 := Same.new (o := .tup [.ref t3, .str "notkept"]) k3
      have a4 := Same.new (o := .tup [.str "go", .int 0]) h4
      have b4 := Same.new (o := .tup [.ref t4, .str "deed"]) k4
      have x1 := Same.new (o := .lst [.ref u1, .ref u2, .ref u3, .ref u4]) ho1
      have b5 := Same.new (o := .tup [.non, .str "deed"]) k5
      have a6 := Same.new (o := .tup [.str "meet"]) h6
      have b6 := Same.new (o := .tup [.ref t6, .str "notwanted"]) k6
      have x2 := Same.new (o := .lst [.ref u5, .ref u6]) ho2
      have s12 := b6.trans x2
      have s11 := a6.trans s12
      have s10 := b5.trans s11
      refine ⟨o1, o2, _, _, rfl, rfl, s10 _ _ upd_same, upd_same, by show 4 + 2 ≤ sizeLine; decide, fun o3 ho3 => ?_⟩
      have x3 := Same.new (o := .lst ([.ref u1, .ref u2, .ref u3, .ref u4] ++ [.ref u5, .ref u6])) ho3
      have f12 := x2.trans x3
      have f11 := b6.trans f12
      have f10 := a6.trans f11
      have f9 := b5.trans f10
      have f8 := x1.trans f9
      have f7 := b4.trans f8
      have f6 := a4.trans f7
      have f5 := b3.trans f6
      have f4 := a3.trans f5
      have f3 := b2.trans f4
      have f2 := a2.trans f3
      have f1 := (Same.new (o := .tup [.ref t1, .str "notkept"]) k1).trans f2
      refine ⟨o3, _, rfl, w1.trans f2, upd_same, rfl, fun x hx => ?_⟩
      simp only [List.cons_append, List.nil_append, List.mem_cons, List.not_mem_nil, or_false] at hx
      rcases hx with rfl | rfl | rfl | rfl | rfl | rfl
      · exact ⟨u1, _, _, rfl, f2 _ _ upd_same, some (.drop 1), ⟨t1, rfl, f1 _ _ upd_same, by show 1 ≤ 100; decide⟩, .inl (.inl ⟨rfl, rfl⟩)⟩
      · refine ⟨u2, _, _, rfl, f4 _ _ upd_same, some (.go (rs.length + 1)), ⟨t2, rfl, ?_, by show 1 ≤ rs.length + 1 ∧ rs.length + 1 ≤ 100; omega⟩, .inl (.inr (.inl ⟨rfl, rfl⟩))⟩
        have z := f3 _ _ (upd_same (a := t2) (o := HO.tup [.str "go", .int (((refsR rs).length : Int) + 1)]))
        rw [e2] at z
        exact z
      · exact ⟨u3, _, _, rfl, f6 _ _ upd_same, some (.take 3), ⟨t3, rfl, f5 _ _ upd_same, by show 3 ≤ 100; decide⟩, .inl (.inr (.inr (.inl ⟨rfl, rfl⟩)))⟩
      · exact ⟨u4, _, _, rfl, f8 _ _ upd_same, none, DeedTh.num (f7 _ _ upd_same) (by decide +kernel) (by decide +kernel) (.int 0) (by decide +kernel), .inl (.inr (.inr (.inr (.inl ⟨rfl, rfl⟩))))⟩
      · exact ⟨u5, _, _, rfl, f10 _ _ upd_same, none, DeedTh.ntup (.base .non) (kit_ty (by decide +kernel)), .inl (.inr (.inr (.inr (.inl ⟨rfl, rfl⟩))))⟩
      · exact ⟨u6, _, _, rfl, f12 _ _ upd_same, some .meet, ⟨t6, rfl, f11 _ _ upd_same, trivial⟩, .inr ⟨rfl, rfl⟩⟩
    rintro σ H2 ⟨o, xs, rfl, s2, hO, hx6, hX⟩
    refine ⟨fun σ H' => H' = H2 ∧ ∃ v w, σ = [some (.int (f : Int)), some (.ref p), some (.int c), some (.ref g), some (.ref o), some v, some (.str w), none, none] ∧ OddV K H2 rs.length v w, ?_, ?_⟩
    · obtain ⟨j6, hj6, ej6⟩ := rem_nat (z := c) (m := 6) (by decide)
      obtain ⟨x, hx, a, v, w, rfl, ha, od⟩ := pick hX (j := j6) (by omega)
      exact ⟨_, rfl, _, rfl, _, _, rfl, rfl, by show (0 : Int) < 6; decide, o, _, _, .ref a, rfl, rfl, SqL.of hO, at_of ej6 hx, a, _, rfl, SqT.of ha, rfl, _, _, rfl, _, _, rfl, rfl, rfl, v, w, rfl, od⟩
    rintro σ H3 ⟨rfl, v, w, rfl, t, th, od⟩
    have hP2 := s2 _ _ hP1
    have hR2 := hR1.same s2
    refine ⟨fun σ H' => ∃ v w, σ = [some (.int (f : Int)), some (.ref p), some (.int c), some (.ref g), some (.ref o), some v, some (.str w), none, none] ∧ Same H3 H' ∧ ∃ t, ThingD K H' v t ∧ OddT rs.length t w, ?_, ?_⟩
    · refine ⟨_, rfl, rfl, _, rfl, ?_⟩
      rw [show decide (V.str w = V.str "notwanted") = decide (w = "notwanted") from decide_eq_decide.mpr ⟨V.str.inj, fun e => by rw [e]⟩]
      rcases od with od | ⟨et, rfl⟩
      · by_cases cw : w = "notwanted"
        · rw [decide_eq_true cw]
          refine iteT ?_
          refine ⟨_, rfl, by show 0 ≤ sizeLine; decide, fun e0 he0 => ?_⟩
          have w0 := Same.new (o := .lst []) he0
          refine ⟨.list (rs.map fun q => q.2.pd), .list [], .lst (SqL.of (w0 _ _ hP2)) (rules_dp (hR2.same w0)), .lst (SqL.of upd_same) .nil, (rules_sh rs).shaped (by decide), by decide, _, rfl, ?_⟩
          cases rs with
          | nil =>
            rcases od with ⟨_, e⟩ | ⟨_, e⟩ | ⟨_, e⟩ | ⟨_, e⟩ | ⟨_, _, e⟩
            · rw [cw] at e; exact absurd e (by decide +kernel)
            · rw [cw] at e; exact absurd e (by decide +kernel)
            · rw [cw] at e; exact absurd e (by decide +kernel)
            · rw [cw] at e; exact absurd e (by decide +kernel)
            · exact absurd rfl e
          | cons r0 rs0 => exact iteF ⟨v, w, rfl, w0, t, th.same w0, od⟩
        · rw [decide_eq_false cw]
          exact iteF ⟨v, w, rfl, Same.refl _, t, th, od⟩
      · refine iteT ?_
        refine ⟨_, rfl, by show 0 ≤ sizeLine; decide, fun e0 he0 => ?_⟩
        have w0 := Same.new (o := .lst []) he0
        refine ⟨.list (rs.map fun q => q.2.pd), .list [], .lst (SqL.of (w0 _ _ hP2)) (rules_dp (hR2.same w0)), .lst (SqL.of upd_same) .nil, (rules_sh rs).shaped (by decide), by decide, _, rfl, ?_⟩
        cases rs with
        | nil =>
          refine iteT ?_
          refine ⟨by show 2 ≤ sizeLine; decide, fun t1 h1 => ?_⟩
          refine ⟨by show 2 ≤ sizeLine; decide, fun u1 k1 => ?_⟩
          have a1 := Same.new (o := .tup [.str "go", .int 1]) h1
          have b1 := Same.new (o := .tup [.ref t1, .str "atend"]) k1
          exact ⟨u1, _, rfl, SqT.of upd_same, rfl, _, _, rfl, _, _, rfl, rfl, _, _, rfl, w0.trans (a1.trans b1), some (.go 1), ⟨t1, rfl, b1 _ _ upd_same, by show 1 ≤ 1 ∧ 1 ≤ 100; decide⟩, .inr (.inl ⟨rfl, rfl⟩)⟩
        | cons r0 rs0 => exact iteF ⟨v, _, rfl, w0, t, th.same w0, .inr (.inr (.inr (.inr ⟨et, rfl, by show rs0.length + 1 ≠ 0; omega⟩)))⟩
    clear th od t
    rintro σ H4 ⟨v, w, rfl, s4, t, th, od⟩
    have s34 := s2.trans s4
    have hP4 := s34 _ _ hP1
    have hR4 := hR1.same s34
    have hG4 := s34 _ _ hG
    have hGD4 := hGD.same s34
    have s04 := s1.trans s34
    refine ⟨fun σ H' => H' = H4 ∧ ∃ j : Nat, j < 6 ∧ σ = [some (.int (f : Int)), some (.ref p), some (.int c), some (.ref g), some (.ref o), some v, some (.str w), some (.int (j : Int)), none], ?_, ?_⟩
    · obtain ⟨j, hj, ej⟩ := rem_nat (z := c / 6) (m := 6) (by decide)
      refine ⟨_, rfl, _, _, rfl, rfl, ⟨by decide, by decide⟩, _, _, rfl, rfl, by show (0 : Int) < 6; decide, rfl, j, by omega, ?_⟩
      rw [← ej] <;> rfl
    rintro σ H5 ⟨rfl, j, hj, rfl⟩
    have lg : (refs gs).length = 5 := by rw [refs_len, len_of hgs] <;> rfl
    refine ⟨fun σ H' => ∃ d, σ = [some (.int (f : Int)), some (.ref p), some (.int c), some (.ref g), some (.ref o), some v, some (.str w), some (.int (j : Int)), some (.ref d)] ∧ Same H5 H' ∧ H' d = some (.lst ((refs gs).take j ++ [v] ++ (refs gs).drop j)), ?_, ?_⟩
    · refine ⟨_, rfl, _, rfl, _, rfl, g, _, rfl, SqL.of hG4, fun q1 hq1 => ?_⟩
      rw [cut_lo]
      refine ⟨_, rfl, by show 1 ≤ sizeLine; decide, fun q2 hq2 => ?_⟩
      have v1 := Same.new (o := .lst ((refs gs).take j)) hq1
      have v2 := Same.new (o := .lst [v]) hq2
      refine ⟨q1, q2, _, _, rfl, rfl, v2 _ _ upd_same, upd_same, sz5 (by rw [List.length_take]; show min j _ + 1 ≤ 100000; omega), fun q3 hq3 => ?_⟩
      have v3 := Same.new (o := .lst ((refs gs).take j ++ [v])) hq3
      have v13 := v1.trans (v2.trans v3)
      refine ⟨_, rfl, _, rfl, _, rfl, g, _, rfl, SqL.of (v13 _ _ hG4), fun q4 hq4 => ?_⟩
      rw [cut_hi _ _ (by omega)]
      have v4 := Same.new (o := .lst ((refs gs).drop j)) hq4
      refine ⟨q3, q4, _, _, rfl, rfl, v4 _ _ upd_same, upd_same, sz5 (by rw [List.length_append, List.length_take, List.length_drop]; show min j _ + 1 + _ ≤ 100000; omega), fun q5 hq5 => ?_⟩
      exact ⟨q5, rfl, v13.trans (v4.trans (Same.new hq5)), upd_same⟩
    rintro σ H6 ⟨d, rfl, s6, hDd⟩
    have hP6 := s6 _ _ hP4
    have hR6 := hR4.same s6
    obtain ⟨i, hi, hw8, hcl⟩ := odd_refused (rs := rs.map (·.2)) (f := f) (n := rs.length) (j := j) (List.length_map ..) hj od
    have okD : ∀ x ∈ goodD, x.ok := by
      intro x hx
      simp only [goodD, List.mem_cons, List.not_mem_nil, or_false] at hx
      rcases hx with rfl | rfl | rfl | rfl | rfl
      · trivial
      · exact Nat.zero_le _
      · exact Nat.zero_le _
      · trivial
      · exact Nat.zero_le _
    refine ⟨fun σ H' => σ = [some (.int (f : Int)), some (.ref p), some (.int c), some (.ref g), some (.ref o), some v, some (.str w), some (.int (j : Int)), some (.ref d)] ∧ Same H6 H', ?_, ?_⟩
    · refine ⟨_, rfl, _, rfl, p, _, rfl, .inl (SqL.of hP6), fun l hl0 => ?_⟩
      have v1 := Same.new (o := .lst (refsR rs)) hl0
      have s61 := s6.trans v1
      refine ⟨_, rfl, l, d, f, 1, rs, _, (goodD.map some).take j ++ [t] ++ (goodD.map some).drop j, rfl, upd_same, hR6.same v1, hf, by omega, by omega, by omega, SqL.of (v1 _ _ hDd), ?_, ?_, fun x hx => ?_, fun i' hi' => ?_⟩
      · simp only [List.length_append, List.length_take, List.length_drop, List.length_map, List.length_cons, List.length_nil, lg]
        show min j 5 + 1 + (5 - j) = _
        omega
      · have base := goods_at (K := K) hgs hGD4 okD
        have base2 : ∀ (i : Nat) (x : V) (t : Option Deed), (refs gs)[i]? = some x → (goodD.map some)[i]? = some t → ThingD K (upd H6 l (.lst (refsR rs))) x t := fun i x t h1 h2 => (base i x t h1 h2).same s61
        exact at2_append (by simp only [List.length_append, List.length_take, List.length_map, List.length_cons, List.length_nil, lg]; rfl) (at2_append (by simp only [List.length_take, List.length_map, lg]; rfl) (at2_take j base2) (at2_one (th.same s61))) (at2_drop j base2)
      · rw [hi] at hx
        cases hx
      · rw [hi] at hi'
        have ei : i = i' := Except.error.inj hi'
        rw [← ei, hw8]
        refine fun t7 H7 ht7 s7 hT7 => ⟨_, rfl, by show 2 ≤ sizeLine; decide, fun t8 ht8 => ?_⟩
        have v8 := Same.new (o := .tup [.str "refused", .str w]) ht8
        refine ⟨_, _, refD_dp (v8 _ _ hT7), refD_dp upd_same, (refD_sh hcl).shaped (by decide), (refD_sh hcl).shaped (by decide), _, rfl, ?_⟩
        rw [(refD_sh hcl).refl]
        exact iteF ⟨rfl, v1.trans (s7.trans v8)⟩
    rintro σ H7 ⟨rfl, s7⟩
    have s47 := s6.trans s7
    have hP7 := s7 _ _ hP6
    have hR7 := hR6.same s7
    have hG7 := s47 _ _ hG4
    have hGD7 := hGD4.same s47
    refine ⟨_, rfl, _, rfl, p, _, rfl, .inl (SqL.of hP7), fun l hl0 => ?_⟩
    have v1 := Same.new (o := .lst (refsR rs)) hl0
    refine ⟨_, rfl, by show 2 ≤ sizeLine; decide, fun t1 h1 => ?_⟩
    have v2 := Same.new (o := .tup [.str "drop", .int 0]) h1
    refine ⟨by show 1 ≤ sizeLine; decide, fun l2 hl2 => ?_⟩
    have v3 := Same.new (o := .lst [.ref t1]) hl2
    have v13 := v1.trans (v2.trans v3)
    refine ⟨g, l2, _, _, rfl, rfl, v13 _ _ hG7, upd_same, sz5 (by rw [lg]; show 5 + 1 ≤ 100000; decide), fun l4 hl4 => ?_⟩
    have v4 := Same.new (o := .lst (refs gs ++ [.ref t1])) hl4
    have v14 := v13.trans v4
    refine ⟨l, l4, f, 1, rs, refs (gs ++ [(t1, Deed.drop 0)]), (goodD ++ [Deed.drop 0]).map some, rfl, (v2.trans (v3.trans v4)) _ _ upd_same, hR7.same v14, hf, by omega, by omega, by omega, SqL.of (by rw [refs_append]; exact upd_same), ?_, ?_, fun x hx => ?_, fun i' hi' => ?_⟩
    · rw [List.length_map, refs_len, List.length_append, List.length_append, len_of hgs] <;> rfl
    · refine goods_at (ds := goodD ++ [Deed.drop 0]) (by rw [List.map_append, hgs] <;> rfl) ((hGD7.same v14).append fun q hq => ?_) fun x hx => ?_
      · rw [List.mem_singleton.mp hq]
        exact (v3.trans v4) _ _ upd_same
      · rcases List.mem_append.mp hx with z | z
        · exact okD x z
        · rw [List.mem_singleton.mp z]
          exact Nat.zero_le _
    · have e : runT (rs.map (·.2)) 1 ((goodD ++ [Deed.drop 0]).map some) (wk0 f rs.length) = .ok (wk0 f rs.length) := rfl
      rw [e] at hx
      cases hx
      refine ⟨rfl, rfl, fun t8 m n H8 ht8 s8 hT8 hm hn => ⟨by show 0 ≤ sizeLine; decide, fun a1 ha1 => ⟨by show 0 ≤ sizeLine; decide, fun a2 ha2 => ⟨by show 4 ≤ sizeLine; decide, fun a3 ha3 => ?_⟩⟩⟩⟩
      have y1 := Same.new (o := .lst []) ha1
      have y2 := Same.new (o := .lst []) ha2
      have y3 := Same.new (o := .tup [.int 0, .int 0, .ref a1, .ref a2]) ha3
      have y23 := y2.trans y3
      have y13 := y1.trans y23
      refine ⟨_, _, zeroD_dp (y13 _ _ hT8) (y13 _ _ hm) (y13 _ _ hn), zeroD_dp upd_same (y23 _ _ upd_same) (y3 _ _ upd_same), zeroD_sh.shaped (by decide), zeroD_sh.shaped (by decide), ?_⟩
      rw [zeroD_sh.refl]
      exact k _ ((s04.trans s47).trans (v14.trans (s8.trans y13)))
    · have e : runT (rs.map (·.2)) 1 ((goodD ++ [Deed.drop 0]).map some) (wk0 f rs.length) = .ok (wk0 f rs.length) := rfl
      rw [e] at hi'
      cases hi'
-- @@ law
def DueT (H : Hp) (d : V) (w : Str) : Prop := ∃ t, d = .ref t ∧ H t = some (.tup [.str "refused", .str w])
theorem DueT.same {H H' : Hp} {d : V} {w : Str} (e : Same H H') (h : DueT H d w) : DueT H' d w := by
  obtain ⟨t, h1, h2⟩ := h
  exact ⟨t, h1, e _ _ h2⟩
def RoomF (K : PySem.W.Frag) (H : Hp) (rm d : V) : Prop := (∃ R : Nat, 1 ≤ R ∧ R ≤ 12 ∧ rm = .int (R : Int) ∧ d = .non) ∨ (∃ o, Thg K H rm o ∧ among o 1 12 = false ∧ DueT H d "count")
theorem RoomF.same {K : PySem.W.Frag} {H H' : Hp} {rm d : V} (e : Same H H') (h : RoomF K H rm d) : RoomF K H' rm d := by
  rcases h with h | ⟨o, a, b, c⟩
  · exact .inl h
  · exact .inr ⟨o, a.same e, b, c.same e⟩
theorem RoomF.thg {K : PySem.W.Frag} {H : Hp} {rm d : V} (h : RoomF K H rm d) : ∃ o, Thg K H rm o := by
  rcases h with ⟨R, _, _, rfl, _⟩ | ⟨o, a, _⟩
  · exact ⟨_, .int _⟩
  · exact ⟨o, a⟩
/-- what is handed in, and what is due -/
def Fate6 (K : PySem.W.Frag) (H : Hp) (f : Nat) (p : Addr) (x y rm d : V) : Prop :=
  (x = .int (f : Int) ∧ y = .ref p ∧ d = .non ∧ ∃ R : Nat, 1 ≤ R ∧ R ≤ 12 ∧ rm = .int (R : Int)) ∨
  (∃ w o b o3, (w = "count" ∨ w = "rule") ∧ DueT H d w ∧ Thg K H x o ∧ YTh K H y b ∧ Thg K H rm o3 ∧ ((among o 0 999982 = false ∧ w = "count") ∨ (among o 0 999982 = true ∧ b = false ∧ w = "rule") ∨ (among o 0 999982 = true ∧ b = true ∧ among o3 1 12 = false ∧ w = "count")))
theorem odd_room {K : PySem.W.Frag} {H : Hp} {l : Addr} (h : H l = some (.lst [.int 1])) : ∀ v ∈ [V.int 0, .int 13, .bl true, .str "1", .non, .ref l], ∃ o, Thg K H v o ∧ among o 1 12 = false := by
  intro v hv
  simp only [List.mem_cons, List.not_mem_nil, or_false] at hv
  rcases hv with rfl | rfl | rfl | rfl | rfl | rfl
  · exact ⟨_, .int _, rfl⟩
  · exact ⟨_, .int _, rfl⟩
  · exact ⟨_, .bl _, rfl⟩
  · exact ⟨_, .str _, rfl⟩
  · exact ⟨_, .non, rfl⟩
  · exact ⟨_, .lst h, rfl⟩
theorem odd_one {K : PySem.W.Frag} {H : Hp} : ∀ v ∈ [V.int (-1), .int 999983, .non, .bl true, .str "0"], ∃ o, Thg K H v o ∧ among o 0 999982 = false := by
  intro v hv
  simp only [List.mem_cons, List.not_mem_nil, or_false] at hv
  rcases hv with rfl | rfl | rfl | rfl | rfl
  · exact ⟨_, .int _, rfl⟩
  · exact ⟨_, .int _, rfl⟩
  · exact ⟨_, .non, rfl⟩
  · exact ⟨_, .bl _, rfl⟩
  · exact ⟨_, .str _, rfl⟩
def WrongR (K : PySem.W.Frag) (H : Hp) (v : V) : Prop := RuleTh K H v false ∧ Sure v
theorem WrongR.same {K : PySem.W.Frag} {H H' : Hp} {v : V} (e : Same H H') (h : WrongR K H v) : WrongR K H' v := ⟨h.1.same e, h.2⟩
theorem ok_law_at (T : Txt K mg) {f : Addr} {fd : FuncData} (F : Fun K "law" "law" s_law f fd) : FnOk P w K mg base (L2.CX P w) 109 f fd ["_law_script"] (sp_law K) := by
  obtain ⟨f_l_row, fd_l_row, m_l_row, k_l_row, b_l_row, G_l_row⟩ := ok_l_row (P := P) (w := w) (base := base) T
  obtain ⟨f_l_cell_at, fd_l_cell_at, m_l_cell_at, k_l_cell_at, b_l_cell_at, G_l_cell_at⟩ := ok_l_cell_at (P := P) (w := w) (base := base) T
  obtain ⟨f_l_wrong_deeds, fd_l_wrong_deeds, m_l_wrong_deeds, k_l_wrong_deeds, b_l_wrong_deeds, G_l_wrong_deeds⟩ := ok_l_wrong_deeds (P := P) (w := w) (base := base) T
  obtain ⟨f_l_number, fd_l_number, m_l_number, k_l_number, b_l_number, G_l_number⟩ := ok_l_number (P := P) (w := w) (base := base) T
  obtain ⟨f_l_made, fd_l_made, m_l_made, k_l_made, b_l_made, G_l_made⟩ := ok_l_made (P := P) (w := w) (base := base) T
  obtain ⟨f_Walker_init, fd_Walker_init, M_Walker_init, b_Walker_init, G_Walker_init⟩ := ok_Walker_init (P := P) (w := w) (base := base) T
  obtain ⟨f_Walker_met, fd_Walker_met, M_Walker_met, b_Walker_met, G_Walker_met⟩ := ok_Walker_met (P := P) (w := w) (base := base) T
  obtain ⟨f_Walker_kept, fd_Walker_kept, M_Walker_kept, b_Walker_kept, G_Walker_kept⟩ := ok_Walker_kept (P := P) (w := w) (base := base) T
  refine F.okX sc_law (fun vs H Q E h => ?_) (fun cdv A outer s H vs Q E hr h => ?_)
  · obtain ⟨a, ns, rfl, hS, hl, k⟩ := h
    rfl
  · obtain ⟨a, ns, rfl, hS, hl, k⟩ := h
    refine ⟨_, (pss_cons (ps_asg (pe_call G_l_row (hr.mono (by decide)) (by rfl) m_l_row k_l_row b_l_row .nil passL (pa_cons (pv 0) (pa_cons pe_int (pa_cons pe_int pa_nil)))) (pg_tup rfl (pgs_cons (pg_name (i := 1) sc_law.nd rfl (Or.inl rfl)) (pgs_cons (pg_name (i := 2) sc_law.nd rfl (Or.inl rfl)) pgs_nil))))
        (Evl.pss_cut (ps_set (i := 3) sc_law.nd rfl (Or.inl rfl) (pe_op op_add pe_int (pe_op op_mod (pe_call G_l_cell_at (hr.mono (by decide)) (by rfl) m_l_cell_at k_l_cell_at b_l_cell_at .nil passL (pa_cons (pv 0) (pa_cons pe_int pa_nil))) pe_int)))
        (pss_cons (ps_if (pt_not (pt_val (pe_call G_l_wrong_deeds (hr.mono (by decide)) (by rfl) m_l_wrong_deeds k_l_wrong_deeds b_l_wrong_deeds .nil passL (pa_cons (pv 1) (pa_cons (pv 2) (pa_cons (pe_call G_l_number (hr.mono (by decide)) (by rfl) m_l_number k_l_number b_l_number .nil passL (pa_cons (pv 0) (pa_cons pe_int pa_nil))) pa_nil))))))
        (pss_one (ps_ret pe_bl))
        pss_nil)
        (Evl.pss_cut (ps_set (i := 4) sc_law.nd rfl (Or.inl rfl) (pe_call G_l_number (hr.mono (by decide)) (by rfl) m_l_number k_l_number b_l_number .nil passL (pa_cons (pv 0) (pa_cons pe_int pa_nil))))
        (pss_cons (ps_set (i := 5) sc_law.nd rfl (Or.inl rfl) pe_non)
        (Evl.pss_cut (ps_if (pt_cmpR op_eq (pe_op op_mod (pv 4) pe_int) pe_int (nomark _))
        (pss_cons (ps_set (i := 3) sc_law.nd rfl (Or.inl rfl) (pe_ix ix_list (pe_lst (pa_cons pe_int (pa_cons pe_int (pa_cons pe_bl (pa_cons pe_str (pa_cons pe_non (pa_cons (pe_lst (pa_cons pe_int pa_nil)) pa_nil))))))) (pe_op op_mod (pe_op op_fdiv (pv 4) pe_int) pe_int) (fun _ _ => rfl)))
        (pss_one (ps_set (i := 5) sc_law.nd rfl (Or.inl rfl) (pe_tup (pa_cons pe_str (pa_cons pe_str pa_nil))))))
        pss_nil)
        (Evl.pss_cut (ps_if (pt_cmpR op_eq (pe_op op_mod (pe_op op_fdiv (pv 4) pe_int) pe_int) pe_int (nomark _))
        (Evl.pss_cut (ps_set (i := 6) sc_law.nd rfl (Or.inl rfl) (pe_op op_mod (pe_op op_fdiv (pv 4) pe_int) (pe_op op_add (pe_callB call_len_seq (by rfl) T.n_len PySem.boot_len (pa_cons (pv 2) pa_nil)) pe_int)))
        (Evl.pss_cut (ps_set (i := 2) sc_law.nd rfl (Or.inl rfl) (pe_op op_cat (pe_op op_cat (pe_slice sl_list (pv 2) po_none (po_some (pv 6))) (pe_lst (pa_cons (pe_ix ix_list (pe_lst (pa_cons (pe_tup (pa_cons pe_str pa_nil)) (pa_cons pe_non (pa_cons (pe_tup (pa_cons pe_str (pa_cons pe_int pa_nil))) (pa_cons (pe_lst (pa_cons pe_str pa_nil)) (pa_cons (pe_tup (pa_cons pe_str (pa_cons (pe_un un_neg pe_int) pa_nil))) pa_nil)))))) (pe_op op_mod (pe_op op_fdiv (pv 4) pe_int) pe_int) (fun _ _ => rfl)) pa_nil))) (pe_slice sl_list (pv 2) (po_some (pv 6)) po_none)))
        (Evl.pss_cut (ps_set (i := 2) sc_law.nd rfl (Or.inl rfl) (pe_ix ix_list (pe_lst (pa_cons (pv 2) (pa_cons (pv 2) (pa_cons (pe_callTy (T := "tuple") call_tuple_of (by rfl) T.n_tuple (by decide +kernel) (pa_cons (pv 2) pa_nil)) (pa_cons (pe_op op_rep (pe_lst (pa_cons (pe_tup (pa_cons pe_str pa_nil)) pa_nil)) pe_int) pa_nil))))) (pe_op op_mod (pe_op op_fdiv (pv 4) pe_int) pe_int) (fun _ _ => rfl)))
        (pss_one (ps_set (i := 5) sc_law.nd rfl (Or.inl rfl) (pe_tup (pa_cons pe_str (pa_cons pe_str pa_nil))))))))
        pss_nil)
        (Evl.pss_cut (ps_if (pt_cmpR op_eq (pe_op op_mod (pe_op op_fdiv (pv 4) pe_int) pe_int) pe_int (nomark _))
        (pss_cons (ps_set (i := 1) sc_law.nd rfl (Or.inl rfl) (pe_ix ix_list (pe_lst (pa_cons (pe_un un_neg pe_int) (pa_cons pe_int (pa_cons pe_non (pa_cons pe_bl (pa_cons pe_str pa_nil)))))) (pe_op op_mod (pe_op op_fdiv (pv 4) pe_int) pe_int) (fun _ _ => rfl)))
        (pss_one (ps_set (i := 5) sc_law.nd rfl (Or.inl rfl) (pe_tup (pa_cons pe_str (pa_cons pe_str pa_nil))))))
        pss_nil)
        (pss_cons (ps_set (i := 7) sc_law.nd rfl (Or.inl rfl) (pv 2))
        (Evl.pss_cut (ps_if (pt_val (pe_callB call_isi (by rfl) T.n_isinstance (by decide +kernel) (pa_cons (pv 2) (pa_cons (pe_bltn (v := .ty "list") (by rfl) T.n_list (by decide +kernel) rfl) pa_nil))))
        (pss_one (ps_set (i := 7) sc_law.nd rfl (Or.inl rfl) (pe_callTy (T := "list") (r := rListOf K) call_list_of (by rfl) T.n_list (by decide +kernel) (pa_cons (pv 2) pa_nil))))
        pss_nil)
        (pss_cons (ps_for (passes_of rfl) rfl (pi_range1 (by rfl) T.n_range (pa_cons pe_int pa_nil)) (pg_name (i := 8) sc_law.nd rfl (Or.inl rfl))
        (pss_one (ps_if (PW.pt (pw_or (pt_cmpR (op_neD hr.units) (pe_call G_l_made (hr.mono (by decide)) (by rfl) m_l_made k_l_made b_l_made .nil passL (pa_cons (pv 1) (pa_cons (pv 7) (pa_cons (pv 3) (pa_cons (pv 8) pa_nil))))) (pv 5) (nomark _)) (pw_or1 (pt_cmpR (op_neS hr.units) (pv 7) (pv 2) (nomark _)))))
        (pss_one (ps_ret pe_bl))
        pss_nil)))
        (pss_cons (ps_if (pt_cmpR op_notN (pv 5) pe_non (nomark _))
        (pss_one (ps_ret pe_bl))
        pss_nil)
        (pss_cons (ps_set (i := 9) sc_law.nd rfl (Or.inl rfl) (pe_make M_Walker_init G_Walker_init (hr.mono (by decide)) (by rfl) T.o_Walker.mgC b_Walker_init .nil passL (pa_cons (pv 1) (pa_cons (pv 7) (pa_cons (pv 3) pa_nil)))))
        (pss_cons (ps_if (PW.pt (pw_or (pt_cmpR (op_neD hr.units) (pe_fld (pv 9) rfl) (pe_callB call_len_seq (by rfl) T.n_len PySem.boot_len (pa_cons (pv 2) pa_nil)) (nomark _)) (pw_or (pt_cmpR op_ne (pe_fld (pv 9) rfl) pe_int (nomark _)) (pw_or (pt_cmpR op_ne (pe_fld (pv 9) rfl) (pv 1) (nomark _)) (pw_or1 (pt_cmpR op_ne (pe_fld (pv 9) rfl) pe_int (nomark _)))))))
        (pss_one (ps_ret pe_bl))
        pss_nil)
        (pss_one (ps_ret (pe_and (pe_cmpR (op_eqD hr.units) (pe_meth0 (pv 9) T.o_Walker.cl M_Walker_kept G_Walker_kept (hr.mono (by decide)) b_Walker_kept .nil passL) (pe_lst pa_nil) (nomark _)) (pe_one (pe_cmpR (op_eqD hr.units) (pe_meth0 (pv 9) T.o_Walker.cl M_Walker_met G_Walker_met (hr.mono (by decide)) b_Walker_met .nil passL) (pe_lst pa_nil) (nomark _)))))))))))))))))))), ?_⟩
    refine ⟨_, rfl, a, ns, 3, 6, rfl, hS, hl, by omega, by omega, fun t0 p f rs H1 ht0 hp0 hN s1 hT0 hP hR hf hlr => ⟨t0, _, rfl, SqT.of hT0, rfl, _, _, rfl, _, _, rfl, rfl, ?_⟩⟩
    have hS1 := s1.seq hS
    refine ⟨fun σ H' => H' = H1 ∧ ∃ R : Nat, 1 ≤ R ∧ R ≤ 12 ∧ σ = [some (.ref a), some (.int (f : Int)), some (.ref p), some (.int (R : Int)), none, none, none, none, none, none], ?_, ?_⟩
    · obtain ⟨r0, hr0, er0⟩ := rem_nat (z := cellAt ns 0) (m := 12) (by decide)
      refine ⟨_, rfl, a, ns, 0, rfl, hS1, _, _, rfl, rfl, by show (0 : Int) < 12; decide, _, _, rfl, rfl, rfl, 1 + r0, by omega, by omega, ?_⟩
      rw [Int.natCast_add, ← er0] <;> rfl
    rintro σ H2 ⟨rfl, R, h1, h2, rfl⟩
    refine ⟨_, rfl, _, rfl, _, rfl, a, ns, 2, rfl, hS1, hl, by omega, p, f, _, rs, rfl, hP, hR, hf, by omega, fun H3 s3 => ⟨true, rfl, iteF ?_⟩⟩
    have hS3 := s3.seq hS1
    have hP3 := s3 _ _ hP
    have hR3 := hR.same s3
    refine ⟨fun σ H' => H' = H3 ∧ ∃ c : Int, σ = [some (.ref a), some (.int (f : Int)), some (.ref p), some (.int (R : Int)), some (.int c), none, none, none, none, none], ?_, ?_⟩
    · exact ⟨_, rfl, a, ns, 1, rfl, hS3, hl, by omega, rfl, _, rfl⟩
    rintro σ H4 ⟨rfl, c, rfl⟩
    clear hT0 hN ht0 hp0
    refine ⟨fun σ H' => ∃ rm d, σ = [some (.ref a), some (.int (f : Int)), some (.ref p), some rm, some (.int c), some d, none, none, none, none] ∧ Same H4 H' ∧ RoomF K H' rm d, ?_, ?_⟩
    · refine ⟨_, rfl, _, _, rfl, rfl, by show (0 : Int) < 2; decide, rfl, _, rfl, ?_⟩
      refine ite2 (fun _ => ?_) (fun _ => ⟨_, _, rfl, Same.refl _, .inl ⟨R, h1, h2, rfl, rfl⟩⟩)
      obtain ⟨j6, hj6, ej6⟩ := rem_nat (z := c / 8) (m := 6) (by decide)
      refine ⟨by show 1 ≤ sizeLine; decide, fun l1 hl1 => ?_⟩
      refine ⟨by show 6 ≤ sizeLine; decide, fun l6 hl6 => ?_⟩
      have v1 := Same.new (o := .lst [.int 1]) hl1
      have v2 := Same.new (o := .lst [.int 0, .int 13, .bl true, .str "1", .non, .ref l1]) hl6
      obtain ⟨v, hv, o, to, ho⟩ := pick (odd_room (K := K) (v2 _ _ upd_same)) (j := j6) (by show j6 < 6; omega)
      refine ⟨_, rfl, _, _, rfl, rfl, ⟨by decide, by decide⟩, _, _, rfl, rfl, by show (0 : Int) < 6; decide, l6, _, _, v, rfl, rfl, SqL.of upd_same, at_of ej6 hv, by show 2 ≤ sizeLine; decide, fun t ht => ?_⟩
      have v3 := Same.new (o := .tup [.str "refused", .str "count"]) ht
      exact ⟨v, _, rfl, v1.trans (v2.trans v3), .inr ⟨o, to.same v3, ho, t, rfl, upd_same⟩⟩
    rintro σ H5 ⟨rm, d, rfl, s5, rf⟩
    have hP5 := s5 _ _ hP3
    have hR5 := hR3.same s5
    refine ⟨fun σ H' => ∃ y d u6, σ = [some (.ref a), some (.int (f : Int)), some y, some rm, some (.int c), some d, u6, none, none, none] ∧ Same H5 H' ∧ ((y = .ref p ∧ RoomF K H' rm d) ∨ (YTh K H' y false ∧ DueT H' d "rule")), ?_, ?_⟩
    · refine ⟨_, rfl, _, _, rfl, rfl, ⟨by decide, by decide⟩, _, _, rfl, rfl, by show (0 : Int) < 2; decide, rfl, _, rfl, ?_⟩
      refine ite2 (fun _ => ?_) (fun _ => ⟨_, _, _, rfl, Same.refl _, .inl ⟨rfl, rf⟩⟩)
      obtain ⟨j, hj, ej⟩ := rem_nat (z := c / 48) (m := ((refsR rs).length : Int) + 1) (by omega)
      obtain ⟨j5, hj5, ej5⟩ := rem_nat (z := c / 7) (m := 5) (by decide)
      obtain ⟨j4, hj4, ej4⟩ := rem_nat (z := c / 35) (m := 4) (by decide)
      refine ⟨fun σ H' => H' = H5 ∧ σ = [some (.ref a), some (.int (f : Int)), some (.ref p), some rm, some (.int c), some d, some (.int (j : Int)), none, none, none], ?_, ?_⟩
      · refine ⟨_, rfl, _, _, rfl, rfl, ⟨by decide, by decide⟩, _, rfl, p, _, rfl, .inl (SqL.of hP5), _, _, rfl, rfl, _, _, rfl, rfl, by show (0 : Int) < ((refsR rs).length : Int) + 1; omega, rfl, ?_⟩
        rw [← ej] <;> rfl
      rintro σ H5' ⟨rfl, rfl⟩
      have lr : (refsR rs).length = rs.length := refsR_len rs
      refine ⟨fun σ H' => ∃ q5, σ = [some (.ref a), some (.int (f : Int)), some (.ref q5), some rm, some (.int c), some d, some (.int (j : Int)), none, none, none] ∧ Same H5' H' ∧ YTh K H' (.ref q5) false ∧ ∃ xs, H' q5 = some (.lst xs) ∧ ∀ x ∈ xs, Sure x, ?_, ?_⟩
      case refine_1 =>
       refine ⟨_, rfl, _, rfl, _, rfl, p, _, rfl, SqL.of hP5, fun q1 hq1 => ?_⟩
       rw [cut_lo]
       have v1 := Same.new (o := .lst ((refsR rs).take j)) hq1
       refine ⟨by show 1 ≤ sizeLine; decide, fun t1 g1 => ?_⟩
       refine ⟨by show 2 ≤ sizeLine; decide, fun t2 g2 => ?_⟩
       refine ⟨by show 1 ≤ sizeLine; decide, fun t3 g3 => ?_⟩
       refine ⟨_, rfl, by show 2 ≤ sizeLine; decide, fun t4 g4 => ?_⟩
       refine ⟨by show 5 ≤ sizeLine; decide, fun t5 g5 => ?_⟩
       have w1 := Same.new (o := .tup [.str "add"]) g1
       have w2 := Same.new (o := .tup [.str "half", .int 1]) g2
       have w3 := Same.new (o := .lst [.str "square"]) g3
       have w4 := Same.new (o := .tup [.str "times", .int (-1)]) g4
       have w5 := Same.new (o := .lst [.ref t1, .non, .ref t2, .ref t3, .ref t4]) g5
       have z4 := w4.trans w5
       have z3 := w3.trans z4
       have z2 := w2.trans z3
       obtain ⟨v, hv, q⟩ := pick (P := WrongR K (upd (upd (upd (upd (upd (upd H5' q1 (.lst ((refsR rs).take j))) t1 (.tup [.str "add"])) t2 (.tup [.str "half", .int 1])) t3 (.lst [.str "square"])) t4 (.tup [.str "times", .int (-1)])) t5 (.lst [.ref t1, .non, .ref t2, .ref t3, .ref t4]))) (xs := [.ref t1, .non, .ref t2, .ref t3, .ref t4]) (fun v hv => by
         simp only [List.mem_cons, List.not_mem_nil, or_false] at hv
         rcases hv with rfl | rfl | rfl | rfl | rfl
         · exact ⟨.two (z2 _ _ upd_same) (.inl rfl) (by decide), .ref _⟩
         · exact ⟨.ntup (.base .non) (kit_ty (by decide +kernel)), .non⟩
         · exact ⟨.one (z3 _ _ upd_same) (by decide +kernel) (by decide +kernel) (by decide +kernel), .ref _⟩
         · exact ⟨.ntup (.base (.lst (z4 _ _ upd_same))) (kit_ty (by decide +kernel)), .ref _⟩
         · exact ⟨RuleTh.num (o := some (-1)) (w5 _ _ upd_same) (.inr rfl) (.int _), .ref _⟩) (j := j5) (by show j5 < 5; omega)
       refine ⟨_, rfl, _, _, rfl, rfl, ⟨by decide, by decide⟩, _, _, rfl, rfl, by show (0 : Int) < 5; decide, t5, _, _, v, rfl, rfl, SqL.of upd_same, at_of ej5 hv, by show 1 ≤ sizeLine; decide, fun q2 hq2 => ?_⟩
       have sW := v1.trans (w1.trans z2)
       have hQ1 := (w1.trans z2) _ _ (upd_same (H := H5') (a := q1) (o := HO.lst ((refsR rs).take j)))
       revert hQ1 sW q hq2
       generalize (upd (upd (upd (upd (upd (upd H5' q1 (.lst ((refsR rs).take j))) t1 (.tup [.str "add"])) t2 (.tup [.str "half", .int 1])) t3 (.lst [.str "square"])) t4 (.tup [.str "times", .int (-1)])) t5 (.lst [.ref t1, .non, .ref t2, .ref t3, .ref t4])) = H6
       intro q hq2 sW hQ1
       have v2 := Same.new (o := .lst [v]) hq2
       refine ⟨q1, q2, _, _, rfl, rfl, v2 _ _ hQ1, upd_same, sz5 (by rw [List.length_take]; show min j _ + 1 ≤ 100000; omega), fun q3 hq3 => ?_⟩
       have v3 := Same.new (o := .lst ((refsR rs).take j ++ [v])) hq3
       have s23 := v2.trans v3
       refine ⟨_, rfl, _, rfl, _, rfl, p, _, rfl, SqL.of ((sW.trans s23) _ _ hP5), fun q4 hq4 => ?_⟩
       rw [cut_hi _ _ (by omega)]
       have v4 := Same.new (o := .lst ((refsR rs).drop j)) hq4
       refine ⟨q3, q4, _, _, rfl, rfl, v4 _ _ upd_same, upd_same, sz5 (by rw [List.length_append, List.length_take, List.length_drop]; show min j _ + 1 + _ ≤ 100000; omega), fun q5 hq5 => ?_⟩
       have v5 := Same.new (o := .lst ((refsR rs).take j ++ [v] ++ (refsR rs).drop j)) hq5
       have s25 := s23.trans (v4.trans v5)
       have sX := sW.trans s25
       have hY : YTh K _ (.ref q5) false := YTh.spoilt (rs := rs) (ys := (refsR rs).take j) (zs := (refsR rs).drop j) (x := v) upd_same (hR5.same sX) (fun y hy => List.mem_of_mem_take hy) (fun y hy => List.mem_of_mem_drop hy) (q.same s25).1 q.2 (by rw [List.length_append, List.length_append, List.length_take, List.length_drop]; show min j _ + 1 + _ ≤ 1000; omega)
       refine ⟨q5, rfl, sX, hY, _, upd_same, fun x hx => ?_⟩
       rcases List.mem_append.mp hx with hx | hx
       · rcases List.mem_append.mp hx with hx | hx
         · exact sure_rules rs x (List.mem_of_mem_take hx)
         · rw [List.mem_singleton.mp hx]
           exact q.2
       · exact sure_rules rs x (List.mem_of_mem_drop hx)
      rintro σ H7 ⟨q5, rfl, s7, hY, xs, hXs, sXs⟩
      refine ⟨fun σ H' => ∃ y, σ = [some (.ref a), some (.int (f : Int)), some y, some rm, some (.int c), some d, some (.int (j : Int)), none, none, none] ∧ Same H7 H' ∧ YTh K H' y false, ?_, ?_⟩
      · refine ⟨_, rfl, _, rfl, _, rfl, q5, _, rfl, .inl ⟨SqL.of hXs, fun t1 g1 => ?_⟩⟩
        have v1 := Same.new (o := .tup xs) g1
        refine ⟨by show 1 ≤ sizeLine; decide, fun t2 g2 => ?_⟩
        refine ⟨by show 1 ≤ sizeLine; decide, fun l2 g3 => ?_⟩
        have v2 := Same.new (o := .tup [.str "half"]) g2
        have v3 := Same.new (o := .lst [.ref t2]) g3
        refine ⟨l2, 101, _, rfl, rfl, upd_same, by decide, by decide, by show 1 * 101 ≤ sizeLine; decide, fun l3 g4 => ?_⟩
        have lf : (List.replicate (101 : Int).toNat [V.ref t2]).flatten.length = 101 := rfl
        have v4 := Same.new (o := .lst (List.replicate (101 : Int).toNat [.ref t2]).flatten) g4
        refine ⟨by show 4 ≤ sizeLine; decide, fun l4 g5 => ?_⟩
        have v5 := Same.new (o := .lst [.ref q5, .ref q5, .ref t1, .ref l3]) g5
        have u25 := v2.trans (v3.trans (v4.trans v5))
        have u15 := v1.trans u25
        obtain ⟨v, hv, q⟩ := pick (P := fun v => YTh K (upd (upd (upd (upd (upd H7 t1 (.tup xs)) t2 (.tup [.str "half"])) l2 (.lst [.ref t2])) l3 (.lst (List.replicate (101 : Int).toNat [.ref t2]).flatten)) l4 (.lst [.ref q5, .ref q5, .ref t1, .ref l3])) v false) (xs := [.ref q5, .ref q5, .ref t1, .ref l3]) (fun v hv => by
          simp only [List.mem_cons, List.not_mem_nil, or_false] at hv
          rcases hv with rfl | rfl | rfl | rfl
          · exact hY.same u15
          · exact hY.same u15
          · exact .tup (u25 _ _ upd_same) sXs
          · refine .lst (v5 _ _ upd_same) (fun x hx => ?_) (by rw [lf]; decide) (fun H' p' e hp' => .big hp' (by rw [lf]; decide))
            obtain ⟨zs, hzs, hxz⟩ := List.mem_flatten.mp hx
            rw [(List.mem_replicate.mp hzs).2] at hxz
            rw [List.mem_singleton.mp hxz]
            exact .ref _) (j := j4) (by show j4 < 4; omega)
        exact ⟨_, rfl, _, _, rfl, rfl, ⟨by decide, by decide⟩, _, _, rfl, rfl, by show (0 : Int) < 4; decide, l4, _, _, v, rfl, rfl, SqL.of upd_same, at_of ej4 hv, v, rfl, u15, q⟩
      rintro σ H8 ⟨y, rfl, s8, hY8⟩
      refine ⟨by show 2 ≤ sizeLine; decide, fun t ht => ?_⟩
      have v9 := Same.new (o := .tup [.str "refused", .str "rule"]) ht
      exact ⟨y, _, _, rfl, s7.trans (s8.trans v9), .inr ⟨hY8.same v9, t, rfl, upd_same⟩⟩
    rintro σ H9 ⟨y, d, u6, rfl, s9, fy⟩
    have hP9 := s9 _ _ hP5
    have hR9 := hR5.same s9
    have hYr := YTh.rules (K := K) hP9 hR9 (by omega)
    rw [decide_eq_true (show rs.length ≤ 100 by omega)] at hYr
    have amf : among (some (f : Int)) 0 999982 = true := among_of (by omega) (by omega)
    refine ⟨fun σ H' => ∃ x d, σ = [some (.ref a), some x, some y, some rm, some (.int c), some d, u6, none, none, none] ∧ Same H9 H' ∧ Fate6 K H' f p x y rm d, ?_, ?_⟩
    · refine ⟨_, rfl, _, _, rfl, rfl, ⟨by decide, by decide⟩, _, _, rfl, rfl, by show (0 : Int) < 2; decide, rfl, _, rfl, ?_⟩
      refine ite2 (fun _ => ?_) (fun _ => ⟨_, _, rfl, Same.refl _, ?_⟩)
      · refine ⟨_, rfl, by show 5 ≤ sizeLine; decide, fun l1 hl1 => ?_⟩
        have v1 := Same.new (o := .lst [.int (-1), .int 999983, .non, .bl true, .str "0"]) hl1
        obtain ⟨j5, hj5, ej5⟩ := rem_nat (z := c / 9) (m := 5) (by decide)
        obtain ⟨v, hv, o, to, ho⟩ := pick (odd_one (K := K) (H := upd H9 l1 (.lst [.int (-1), .int 999983, .non, .bl true, .str "0"]))) (j := j5) (by show j5 < 5; omega)
        refine ⟨_, rfl, _, _, rfl, rfl, ⟨by decide, by decide⟩, _, _, rfl, rfl, by show (0 : Int) < 5; decide, l1, _, _, v, rfl, rfl, SqL.of upd_same, at_of ej5 hv, by show 2 ≤ sizeLine; decide, fun t ht => ?_⟩
        have v3 := Same.new (o := .tup [.str "refused", .str "count"]) ht
        have v13 := v1.trans v3
        have hd : DueT (upd (upd H9 l1 (.lst [.int (-1), .int 999983, .non, .bl true, .str "0"])) t (.tup [.str "refused", .str "count"])) (.ref t) "count" := ⟨t, rfl, upd_same⟩
        refine ⟨v, _, rfl, v13, .inr ?_⟩
        rcases fy with ⟨rfl, rf⟩ | ⟨hy, _⟩
        · obtain ⟨o3, t3⟩ := rf.thg
          exact ⟨"count", o, true, o3, .inl rfl, hd, to.same v3, hYr.same v13, t3.same v13, .inl ⟨ho, rfl⟩⟩
        · obtain ⟨o3, t3⟩ := rf.thg
          exact ⟨"count", o, false, o3, .inl rfl, hd, to.same v3, hy.same v13, (t3.same s9).same v13, .inl ⟨ho, rfl⟩⟩
      · rcases fy with ⟨rfl, rf⟩ | ⟨hy, hd⟩
        · rcases rf with ⟨R, h1, h2, rfl, rfl⟩ | ⟨o3, t3, h3, hd⟩
          · exact .inl ⟨rfl, rfl, rfl, R, h1, h2, rfl⟩
          · exact .inr ⟨"count", _, true, o3, .inl rfl, hd, .int _, hYr, t3, .inr (.inr ⟨amf, rfl, h3, rfl⟩)⟩
        · obtain ⟨o3, t3⟩ := rf.thg
          exact .inr ⟨"rule", _, false, o3, .inr rfl, hd, .int _, hy, t3.same s9, .inr (.inl ⟨amf, rfl, rfl⟩)⟩
    clear fy hYr
    rintro σ HA ⟨x, d, rfl, sA, ft⟩
    have hPA := sA _ _ hP9
    have hRA := hR9.same sA
    refine ⟨_, rfl, ?_⟩
    refine ⟨fun σ H' => ∃ h, σ = [some (.ref a), some x, some y, some rm, some (.int c), some d, u6, some h, none, none] ∧ Same HA H' ∧
      ((x = .int (f : Int) ∧ y = .ref p ∧ d = .non ∧ (∃ R : Nat, 1 ≤ R ∧ R ≤ 12 ∧ rm = .int (R : Int)) ∧ ∃ q, h = .ref q ∧ H' q = some (.lst (refsR rs))) ∨
       (∃ w o b o3, (w = "count" ∨ w = "rule") ∧ DueT H' d w ∧ Thg K H' x o ∧ ListTh K H' h b ∧ Thg K H' rm o3 ∧ (∀ H3, Same H' H3 → Alike K H3 h y) ∧ ((among o 0 999982 = false ∧ w = "count") ∨ (among o 0 999982 = true ∧ b = false ∧ w = "rule") ∨ (among o 0 999982 = true ∧ b = true ∧ among o3 1 12 = false ∧ w = "count")))), ?_, ?_⟩
    · rcases ft with ⟨rfl, rfl, rfl, hR'⟩ | ⟨w, o, b, o3, hw, hd, tx, hy, t3, cond⟩
      · refine ⟨_, rfl, .ref p, _, _, _, true, rfl, .ty "list", .base (.lst hPA), kit_ty (by decide +kernel), true, rfl, iteT ?_⟩
        exact ⟨_, rfl, p, _, rfl, .inl (SqL.of hPA), fun q hq => ⟨_, rfl, Same.new hq, .inl ⟨rfl, rfl, rfl, hR', q, rfl, upd_same⟩⟩⟩
      · cases hy with
        | @lst q xs b h hs hl' ok =>
          refine ⟨_, rfl, .ref q, _, _, _, true, rfl, .ty "list", .base (.lst h), kit_ty (by decide +kernel), true, rfl, iteT ?_⟩
          refine ⟨_, rfl, q, _, rfl, .inl (SqL.of h), fun c hc => ?_⟩
          have v := Same.new (o := .lst xs) hc
          exact ⟨_, rfl, v, .inr ⟨w, o, b, o3, hw, hd.same v, tx.same v, ok _ _ v upd_same, t3.same v, fun H3 e => .lst (SqL.of (e _ _ upd_same)) (SqL.of (e _ _ (v _ _ h))) hs, cond⟩⟩
        | @tup q xs h hs =>
          refine ⟨_, rfl, .ref q, _, _, _, false, rfl, .ty "list", .base (.tup h), kit_ty (by decide +kernel), false, rfl, iteF ?_⟩
          exact ⟨_, rfl, Same.refl _, .inr ⟨w, o, false, o3, hw, hd, tx, .nlist (.base (.tup h)) (kit_ty (by decide +kernel)), t3, fun H3 e => .tup (SqT.of (e _ _ h)) (SqT.of (e _ _ h)) hs, cond⟩⟩
        | str z =>
          refine ⟨_, rfl, .str z, _, _, _, false, rfl, .ty "list", .base (.str _), kit_ty (by decide +kernel), false, rfl, iteF ?_⟩
          exact ⟨_, rfl, Same.refl _, .inr ⟨w, o, false, o3, hw, hd, tx, .nlist (.base (.str _)) (kit_ty (by decide +kernel)), t3, fun H3 e => .str _, cond⟩⟩
        | non =>
          refine ⟨_, rfl, .non, _, _, _, false, rfl, .ty "list", .base .non, kit_ty (by decide +kernel), false, rfl, iteF ?_⟩
          exact ⟨_, rfl, Same.refl _, .inr ⟨w, o, false, o3, hw, hd, tx, .nlist (.base .non) (kit_ty (by decide +kernel)), t3, fun H3 e => .non, cond⟩⟩
    clear ft
    rintro σ HB ⟨h, rfl, sB, fate⟩
    have hPB := sB _ _ hPA
    have hRB := hRA.same sB
    refine ⟨_, rfl, by decide, by decide, ?_⟩
    refine for_range (lo := 0) (n := 3) (fun i σ H' => Same HB H' ∧ ∃ u8, σ = [some (.ref a), some x, some y, some rm, some (.int c), some d, u6, some h, u8, none]) ⟨Same.refl _, _, rfl⟩ ?_ ?_
    · rintro i σ HC hi ⟨sC, u8, rfl⟩
      rw [show (0 : Int) + (i : Int) = (i : Int) from Int.zero_add _]
      refine ⟨_, rfl, _, rfl, _, rfl, _, rfl, x, h, rm, i, rfl, hi, ?_⟩
      rcases fate with ⟨rfl, rfl, rfl, ⟨R, h1, h2, rfl⟩, q, rfl, hq⟩ | ⟨w, o, b, o3, hw, hd, tx, lt, t3, al, cond⟩
      · refine .inl ⟨q, f, R, rs, rfl, rfl, rfl, sC _ _ hq, hRB.same sC, hf, by omega, h1, h2, fun HD sD => ?_⟩
        refine ⟨_, rfl, .none, .none, .non, .non, by decide, by decide, _, rfl, iteF ?_⟩
        have sCD := sC.trans sD
        exact ⟨_, rfl, _, rfl, .lst (SqL.of (sCD _ _ hq)) (SqL.of (sCD _ _ hPB)) (sure_rules rs), _, rfl, iteF ⟨sCD, _, rfl⟩⟩
      · obtain ⟨td, rfl, hTd⟩ := hd
        have main : ∀ (fd : Addr) (H4 : Hp), Same HB H4 → H4 fd = some (.tup [.str "refused", .str w]) → PyData.eqv (refD w) (refD w) = true ∧ Dp K H4 (.ref fd) (refD w) ∧ Dp K H4 (.ref td) (refD w) ∧ SeqAt.shaped (refD w) = true := fun fd H4 s4 hF => by
          have sh : Sh 1 (refD w) := refD_sh (by rcases hw with rfl | rfl <;> decide +kernel)
          exact ⟨sh.refl, refD_dp hF, refD_dp (s4 _ _ hTd), sh.shaped (by decide)⟩
        refine .inr ⟨o, b, o3, tx.same sC, lt.same sC, t3.same sC, ?_⟩
        rcases cond with ⟨c1, rfl⟩ | ⟨c1, c2, rfl⟩ | ⟨c1, c2, c3, rfl⟩
        · refine .inl ⟨c1, fun fd H4 hfd s4 hF => ?_⟩
          obtain ⟨e1, e2, e3, e4⟩ := main fd H4 (sC.trans s4) hF
          refine ⟨_, rfl, _, _, e2, e3, e4, e4, _, rfl, ?_⟩
          rw [e1]
          exact iteF ⟨_, rfl, _, rfl, al _ (sC.trans s4), _, rfl, iteF ⟨sC.trans s4, _, rfl⟩⟩
        · refine .inr (.inl ⟨c1, c2, fun fd H4 hfd s4 hF => ?_⟩)
          obtain ⟨e1, e2, e3, e4⟩ := main fd H4 (sC.trans s4) hF
          refine ⟨_, rfl, _, _, e2, e3, e4, e4, _, rfl, ?_⟩
          rw [e1]
          exact iteF ⟨_, rfl, _, rfl, al _ (sC.trans s4), _, rfl, iteF ⟨sC.trans s4, _, rfl⟩⟩
        · refine .inr (.inr ⟨c1, c2, c3, fun fd H4 hfd s4 hF => ?_⟩)
          obtain ⟨e1, e2, e3, e4⟩ := main fd H4 (sC.trans s4) hF
          refine ⟨_, rfl, _, _, e2, e3, e4, e4, _, rfl, ?_⟩
          rw [e1]
          exact iteF ⟨_, rfl, _, rfl, al _ (sC.trans s4), _, rfl, iteF ⟨sC.trans s4, _, rfl⟩⟩
    rintro σ HC ⟨sC, u8, rfl⟩
    rcases fate with ⟨rfl, rfl, rfl, ⟨R, h1, h2, rfl⟩, q, rfl, hq⟩ | ⟨w, o, b, o3, hw, ⟨td, rfl, hTd⟩, _⟩
    case inr =>
      exact ⟨_, rfl, rfl, _, rfl, iteT (k _)⟩
    refine ⟨_, rfl, rfl, _, rfl, iteF ?_⟩
    have hQC := sC _ _ hq
    have hRC := hRB.same sC
    refine ⟨_, rfl, _, rfl, _, rfl, fun z dx hx hdx hne => ?_⟩
    have s0 : Same HC (upd (upd HC dx (.own z)) z (.ins T.aWalker dx [])) := fun b o e => by
      rw [upd_ne (ne_of_none e hx), upd_ne (ne_of_none e hdx)]
      exact e
    refine .inl ⟨z, dx, q, f, R, rs, rfl, upd_same, s0 _ _ hQC, hRC.same s0, hf, by omega, h1, h2, fun A HD e1 e2 a1 a2 a3 kp W => ⟨rfl, ?_⟩⟩
    subst e1
    have cl := T.o_Walker.cl
    have O := T.o_Walker
    have s1' : Same HC HD := fun b o e => kp b o (s0 b o e) (ne_of_none e hx)
    have hPD := s1' _ _ (sC _ _ hPB)
    refine ⟨_, rfl, A.x, T.aWalker, A.dx, _, _, rfl, W.ob, cl, O.nwa, wF_wanted .., _, rfl, p, _, rfl, .inl (SqL.of hPD), .int (rs.length : Int), .int (rs.length : Int), .int _, ?_, by rfl, by rfl, _, rfl, ?_⟩
    · rw [refsR_len]
      exact .int _
    rw [show PyData.eqv (.int (rs.length : Int)) (.int (rs.length : Int)) = true from (Sh.int (n := 0) _).refl]
    refine iteF ?_
    refine ⟨_, rfl, A.x, T.aWalker, A.dx, _, _, rfl, W.ob, cl, O.npl, wF_place .., rfl, _, rfl, iteNS rfl ?_⟩
    refine ⟨_, rfl, A.x, T.aWalker, A.dx, _, _, rfl, W.ob, cl, O.nst, wF_state .., _, rfl, rfl, _, rfl, iteNS rfl ?_⟩
    refine ⟨_, rfl, A.x, T.aWalker, A.dx, _, _, rfl, W.ob, cl, O.ndn, wF_done .., rfl, _, rfl, iteNS rfl ?_⟩
    refine ⟨_, rfl, A.x, A.dx, _, rfl, W.ob, wF_kept .., A, rs, R, _, rfl, W, by show 0 < 64; decide, fun p5 H5 tl hp5 s5 hP5 hT5 hperm hsort => ⟨by show 0 ≤ sizeLine; decide, fun n1 hn1 => ?_⟩⟩
    have e0 : tl = [] := by
      have e := hperm.length_eq
      rw [List.length_map] at e
      exact List.length_eq_zero_iff.mp e
    rw [e0] at hP5
    have v1 := Same.new (o := .lst []) hn1
    refine ⟨.list [], .list [], .lst (SqL.of (v1 _ _ hP5)) .nil, .lst (SqL.of upd_same) .nil, by decide, by decide, true, rfl, ?_⟩
    have W5 := W.same (s5.trans v1)
    refine ⟨_, rfl, A.x, A.dx, _, rfl, W5.ob, wF_met .., A, rs, R, _, rfl, W5, fun p6 H6 hp6 s6 hP6 => ⟨by show 0 ≤ sizeLine; decide, fun n2 hn2 => ?_⟩⟩
    have v2 := Same.new (o := .lst []) hn2
    exact ⟨.list [], .list [], .lst (SqL.of (v2 _ _ hP6)) .nil, .lst (SqL.of upd_same) .nil, by decide, by decide, k _⟩

-- @@ end
end
theorem all_mk {l : PySem.W.OpenLaw} {w : World} {K : PySem.W.Frag} {h : Heap} {mg : Str → Option Value} {fa : Addr} (X : K.In h) (G : h.Ns mainGlobals mg) (hfa : mg "law" = some (.ref fa))
    {oc_is_among kV_is_among dc_is_among pm_is_among cd_is_among ct_is_among : Value} {od_is_among an_is_among : Option Addr} {sl_is_among : Array (Option Value)} {f_is_among : Addr}
    {oc_is_state kV_is_state dc_is_state pm_is_state cd_is_state ct_is_state : Value} {od_is_state an_is_state : Option Addr} {sl_is_state : Array (Option Value)} {f_is_state : Addr}
    {oc_is_rule kV_is_rule dc_is_rule pm_is_rule cd_is_rule ct_is_rule : Value} {od_is_rule an_is_rule : Option Addr} {sl_is_rule : Array (Option Value)} {f_is_rule : Addr}
    {oc_need_row kV_need_row dc_need_row pm_need_row cd_need_row ct_need_row : Value} {od_need_row an_need_row : Option Addr} {sl_need_row : Array (Option Value)} {f_need_row : Addr}
    {oc_forth kV_forth dc_forth pm_forth cd_forth ct_forth : Value} {od_forth an_forth : Option Addr} {sl_forth : Array (Option Value)} {f_forth : Addr}
    {oc_is_deed kV_is_deed dc_is_deed pm_is_deed cd_is_deed ct_is_deed : Value} {od_is_deed an_is_deed : Option Addr} {sl_is_deed : Array (Option Value)} {f_is_deed : Addr}
    {oc_need_counts kV_need_counts dc_need_counts pm_need_counts cd_need_counts ct_need_counts : Value} {od_need_counts an_need_counts : Option Addr} {sl_need_counts : Array (Option Value)} {f_need_counts : Addr}
    {oc_choices kV_choices dc_choices pm_choices cd_choices ct_choices : Value} {od_choices an_choices : Option Addr} {sl_choices : Array (Option Value)} {f_choices : Addr}
    {oc_ways kV_ways dc_ways pm_ways cd_ways ct_ways : Value} {od_ways an_ways : Option Addr} {sl_ways : Array (Option Value)} {f_ways : Addr}
    {oc_often kV_often dc_often pm_often cd_often ct_often : Value} {od_often an_often : Option Addr} {sl_often : Array (Option Value)} {f_often : Addr}
    {oc_first_mark kV_first_mark dc_first_mark pm_first_mark cd_first_mark ct_first_mark : Value} {od_first_mark an_first_mark : Option Addr} {sl_first_mark : Array (Option Value)} {f_first_mark : Addr}
    {oc_again_and_again kV_again_and_again dc_again_and_again pm_again_and_again cd_again_and_again ct_again_and_again : Value} {od_again_and_again an_again_and_again : Option Addr} {sl_again_and_again : Array (Option Value)} {f_again_and_again : Addr}
    {oc_from_mark kV_from_mark dc_from_mark pm_from_mark cd_from_mark ct_from_mark : Value} {od_from_mark an_from_mark : Option Addr} {sl_from_mark : Array (Option Value)} {f_from_mark : Addr}
    {oc_plan kV_plan dc_plan pm_plan cd_plan ct_plan : Value} {od_plan an_plan : Option Addr} {sl_plan : Array (Option Value)} {f_plan : Addr}
    {oc_walked kV_walked dc_walked pm_walked cd_walked ct_walked : Value} {od_walked an_walked : Option Addr} {sl_walked : Array (Option Value)} {f_walked : Addr}
    {oc_backwards kV_backwards dc_backwards pm_backwards cd_backwards ct_backwards : Value} {od_backwards an_backwards : Option Addr} {sl_backwards : Array (Option Value)} {f_backwards : Addr}
    {oc_l_cell_at kV_l_cell_at dc_l_cell_at pm_l_cell_at cd_l_cell_at ct_l_cell_at : Value} {od_l_cell_at an_l_cell_at : Option Addr} {sl_l_cell_at : Array (Option Value)} {f_l_cell_at : Addr}
    {oc_l_number kV_l_number dc_l_number pm_l_number cd_l_number ct_l_number : Value} {od_l_number an_l_number : Option Addr} {sl_l_number : Array (Option Value)} {f_l_number : Addr}
    {oc_l_rule kV_l_rule dc_l_rule pm_l_rule cd_l_rule ct_l_rule : Value} {od_l_rule an_l_rule : Option Addr} {sl_l_rule : Array (Option Value)} {f_l_rule : Addr}
    {oc_l_row kV_l_row dc_l_row pm_l_row cd_l_row ct_l_row : Value} {od_l_row an_l_row : Option Addr} {sl_l_row : Array (Option Value)} {f_l_row : Addr}
    {oc_l_class kV_l_class dc_l_class pm_l_class cd_l_class ct_l_class : Value} {od_l_class an_l_class : Option Addr} {sl_l_class : Array (Option Value)} {f_l_class : Addr}
    {oc_l_made kV_l_made dc_l_made pm_l_made cd_l_made ct_l_made : Value} {od_l_made an_l_made : Option Addr} {sl_l_made : Array (Option Value)} {f_l_made : Addr}
    {oc_l_deeds kV_l_deeds dc_l_deeds pm_l_deeds cd_l_deeds ct_l_deeds : Value} {od_l_deeds an_l_deeds : Option Addr} {sl_l_deeds : Array (Option Value)} {f_l_deeds : Addr}
    {oc_l_wrong_deeds kV_l_wrong_deeds dc_l_wrong_deeds pm_l_wrong_deeds cd_l_wrong_deeds ct_l_wrong_deeds : Value} {od_l_wrong_deeds an_l_wrong_deeds : Option Addr} {sl_l_wrong_deeds : Array (Option Value)} {f_l_wrong_deeds : Addr}
    {oc_law kV_law dc_law pm_law cd_law ct_law : Value} {od_law an_law : Option Addr} {sl_law : Array (Option Value)} {f_law : Addr}
    {oc_Walker_init kV_Walker_init dc_Walker_init pm_Walker_init cd_Walker_init ct_Walker_init : Value} {od_Walker_init an_Walker_init : Option Addr} {sl_Walker_init : Array (Option Value)} {f_Walker_init : Addr}
    {oc_Walker_keep kV_Walker_keep dc_Walker_keep pm_Walker_keep cd_Walker_keep ct_Walker_keep : Value} {od_Walker_keep an_Walker_keep : Option Addr} {sl_Walker_keep : Array (Option Value)} {f_Walker_keep : Addr}
    {oc_Walker_meet kV_Walker_meet dc_Walker_meet pm_Walker_meet cd_Walker_meet ct_Walker_meet : Value} {od_Walker_meet an_Walker_meet : Option Addr} {sl_Walker_meet : Array (Option Value)} {f_Walker_meet : Addr}
    {oc_Walker_go kV_Walker_go dc_Walker_go pm_Walker_go cd_Walker_go ct_Walker_go : Value} {od_Walker_go an_Walker_go : Option Addr} {sl_Walker_go : Array (Option Value)} {f_Walker_go : Addr}
    {oc_Walker_do kV_Walker_do dc_Walker_do pm_Walker_do cd_Walker_do ct_Walker_do : Value} {od_Walker_do an_Walker_do : Option Addr} {sl_Walker_do : Array (Option Value)} {f_Walker_do : Addr}
    {oc_Walker_kept kV_Walker_kept dc_Walker_kept pm_Walker_kept cd_Walker_kept ct_Walker_kept : Value} {od_Walker_kept an_Walker_kept : Option Addr} {sl_Walker_kept : Array (Option Value)} {f_Walker_kept : Addr}
    {oc_Walker_met kV_Walker_met dc_Walker_met pm_Walker_met cd_Walker_met ct_Walker_met : Value} {od_Walker_met an_Walker_met : Option Addr} {sl_Walker_met : Array (Option Value)} {f_Walker_met : Addr}
    {t_MODULUS : Tok}
    {t_MOST_STEPS : Tok}
    {t_MOST_ROOM : Tok}
    {C_BadCount : Addr}
    {C_BadRule : Addr}
    {C_BadDeed : Addr}
    {C_NotKept : Addr}
    {C_Twice : Addr}
    {C_Full : Addr}
    {C_AtEnd : Addr}
    {C_NotWanted : Addr}
    {C_MarkError : Addr}
    {C_Walker : Addr}
    (a_is_among : PySem.W.nsIn K mainGlobals "is_among" = some (some (.ref f_is_among)))
    (l_is_among : K.lookup f_is_among = some ⟨oc_is_among, od_is_among, .func (PySem.W.fnOf "is_among" "is_among" (defArgs s_is_among) (defBody s_is_among) (defScope s_is_among) .none kV_is_among dc_is_among pm_is_among an_is_among cd_is_among ct_is_among), sl_is_among⟩)
    (c_is_among : PySem.W.codeIn K cd_is_among "is_among" = true)
    (k_is_among : PySem.W.keepIn K (.ref f_is_among) = true)
    (a_is_state : PySem.W.nsIn K mainGlobals "is_state" = some (some (.ref f_is_state)))
    (l_is_state : K.lookup f_is_state = some ⟨oc_is_state, od_is_state, .func (PySem.W.fnOf "is_state" "is_state" (defArgs s_is_state) (defBody s_is_state) (defScope s_is_state) .none kV_is_state dc_is_state pm_is_state an_is_state cd_is_state ct_is_state), sl_is_state⟩)
    (c_is_state : PySem.W.codeIn K cd_is_state "is_state" = true)
    (k_is_state : PySem.W.keepIn K (.ref f_is_state) = true)
    (a_is_rule : PySem.W.nsIn K mainGlobals "is_rule" = some (some (.ref f_is_rule)))
    (l_is_rule : K.lookup f_is_rule = some ⟨oc_is_rule, od_is_rule, .func (PySem.W.fnOf "is_rule" "is_rule" (defArgs s_is_rule) (defBody s_is_rule) (defScope s_is_rule) .none kV_is_rule dc_is_rule pm_is_rule an_is_rule cd_is_rule ct_is_rule), sl_is_rule⟩)
    (c_is_rule : PySem.W.codeIn K cd_is_rule "is_rule" = true)
    (k_is_rule : PySem.W.keepIn K (.ref f_is_rule) = true)
    (a_need_row : PySem.W.nsIn K mainGlobals "need_row" = some (some (.ref f_need_row)))
    (l_need_row : K.lookup f_need_row = some ⟨oc_need_row, od_need_row, .func (PySem.W.fnOf "need_row" "need_row" (defArgs s_need_row) (defBody s_need_row) (defScope s_need_row) .none kV_need_row dc_need_row pm_need_row an_need_row cd_need_row ct_need_row), sl_need_row⟩)
    (c_need_row : PySem.W.codeIn K cd_need_row "need_row" = true)
    (k_need_row : PySem.W.keepIn K (.ref f_need_row) = true)
    (a_forth : PySem.W.nsIn K mainGlobals "forth" = some (some (.ref f_forth)))
    (l_forth : K.lookup f_forth = some ⟨oc_forth, od_forth, .func (PySem.W.fnOf "forth" "forth" (defArgs s_forth) (defBody s_forth) (defScope s_forth) .none kV_forth dc_forth pm_forth an_forth cd_forth ct_forth), sl_forth⟩)
    (c_forth : PySem.W.codeIn K cd_forth "forth" = true)
    (k_forth : PySem.W.keepIn K (.ref f_forth) = true)
    (a_is_deed : PySem.W.nsIn K mainGlobals "is_deed" = some (some (.ref f_is_deed)))
    (l_is_deed : K.lookup f_is_deed = some ⟨oc_is_deed, od_is_deed, .func (PySem.W.fnOf "is_deed" "is_deed" (defArgs s_is_deed) (defBody s_is_deed) (defScope s_is_deed) .none kV_is_deed dc_is_deed pm_is_deed an_is_deed cd_is_deed ct_is_deed), sl_is_deed⟩)
    (c_is_deed : PySem.W.codeIn K cd_is_deed "is_deed" = true)
    (k_is_deed : PySem.W.keepIn K (.ref f_is_deed) = true)
    (a_need_counts : PySem.W.nsIn K mainGlobals "need_counts" = some (some (.ref f_need_counts)))
    (l_need_counts : K.lookup f_need_counts = some ⟨oc_need_counts, od_need_counts, .func (PySem.W.fnOf "need_counts" "need_counts" (defArgs s_need_counts) (defBody s_need_counts) (defScope s_need_counts) .none kV_need_counts dc_need_counts pm_need_counts an_need_counts cd_need_counts ct_need_counts), sl_need_counts⟩)
    (c_need_counts : PySem.W.codeIn K cd_need_counts "need_counts" = true)
    (k_need_counts : PySem.W.keepIn K (.ref f_need_counts) = true)
    (a_choices : PySem.W.nsIn K mainGlobals "choices" = some (some (.ref f_choices)))
    (l_choices : K.lookup f_choices = some ⟨oc_choices, od_choices, .func (PySem.W.fnOf "choices" "choices" (defArgs s_choices) (defBody s_choices) (defScope s_choices) .none kV_choices dc_choices pm_choices an_choices cd_choices ct_choices), sl_choices⟩)
    (c_choices : PySem.W.codeIn K cd_choices "choices" = true)
    (k_choices : PySem.W.keepIn K (.ref f_choices) = true)
    (a_ways : PySem.W.nsIn K mainGlobals "ways" = some (some (.ref f_ways)))
    (l_ways : K.lookup f_ways = some ⟨oc_ways, od_ways, .func (PySem.W.fnOf "ways" "ways" (defArgs s_ways) (defBody s_ways) (defScope s_ways) .none kV_ways dc_ways pm_ways an_ways cd_ways ct_ways), sl_ways⟩)
    (c_ways : PySem.W.codeIn K cd_ways "ways" = true)
    (k_ways : PySem.W.keepIn K (.ref f_ways) = true)
    (a_often : PySem.W.nsIn K mainGlobals "often" = some (some (.ref f_often)))
    (l_often : K.lookup f_often = some ⟨oc_often, od_often, .func (PySem.W.fnOf "often" "often" (defArgs s_often) (defBody s_often) (defScope s_often) .none kV_often dc_often pm_often an_often cd_often ct_often), sl_often⟩)
    (c_often : PySem.W.codeIn K cd_often "often" = true)
    (k_often : PySem.W.keepIn K (.ref f_often) = true)
    (a_first_mark : PySem.W.nsIn K mainGlobals "first_mark" = some (some (.ref f_first_mark)))
    (l_first_mark : K.lookup f_first_mark = some ⟨oc_first_mark, od_first_mark, .func (PySem.W.fnOf "first_mark" "first_mark" (defArgs s_first_mark) (defBody s_first_mark) (defScope s_first_mark) .none kV_first_mark dc_first_mark pm_first_mark an_first_mark cd_first_mark ct_first_mark), sl_first_mark⟩)
    (c_first_mark : PySem.W.codeIn K cd_first_mark "first_mark" = true)
    (k_first_mark : PySem.W.keepIn K (.ref f_first_mark) = true)
    (a_again_and_again : PySem.W.nsIn K mainGlobals "again_and_again" = some (some (.ref f_again_and_again)))
    (l_again_and_again : K.lookup f_again_and_again = some ⟨oc_again_and_again, od_again_and_again, .func (PySem.W.fnOf "again_and_again" "again_and_again" (defArgs s_again_and_again) (defBody s_again_and_again) (defScope s_again_and_again) .none kV_again_and_again dc_again_and_again pm_again_and_again an_again_and_again cd_again_and_again ct_again_and_again), sl_again_and_again⟩)
    (c_again_and_again : PySem.W.codeIn K cd_again_and_again "again_and_again" = true)
    (k_again_and_again : PySem.W.keepIn K (.ref f_again_and_again) = true)
    (a_from_mark : PySem.W.nsIn K mainGlobals "from_mark" = some (some (.ref f_from_mark)))
    (l_from_mark : K.lookup f_from_mark = some ⟨oc_from_mark, od_from_mark, .func (PySem.W.fnOf "from_mark" "from_mark" (defArgs s_from_mark) (defBody s_from_mark) (defScope s_from_mark) .none kV_from_mark dc_from_mark pm_from_mark an_from_mark cd_from_mark ct_from_mark), sl_from_mark⟩)
    (c_from_mark : PySem.W.codeIn K cd_from_mark "from_mark" = true)
    (k_from_mark : PySem.W.keepIn K (.ref f_from_mark) = true)
    (a_plan : PySem.W.nsIn K mainGlobals "plan" = some (some (.ref f_plan)))
    (l_plan : K.lookup f_plan = some ⟨oc_plan, od_plan, .func (PySem.W.fnOf "plan" "plan" (defArgs s_plan) (defBody s_plan) (defScope s_plan) .none kV_plan dc_plan pm_plan an_plan cd_plan ct_plan), sl_plan⟩)
    (c_plan : PySem.W.codeIn K cd_plan "plan" = true)
    (k_plan : PySem.W.keepIn K (.ref f_plan) = true)
    (a_walked : PySem.W.nsIn K mainGlobals "walked" = some (some (.ref f_walked)))
    (l_walked : K.lookup f_walked = some ⟨oc_walked, od_walked, .func (PySem.W.fnOf "walked" "walked" (defArgs s_walked) (defBody s_walked) (defScope s_walked) .none kV_walked dc_walked pm_walked an_walked cd_walked ct_walked), sl_walked⟩)
    (c_walked : PySem.W.codeIn K cd_walked "walked" = true)
    (k_walked : PySem.W.keepIn K (.ref f_walked) = true)
    (a_backwards : PySem.W.nsIn K mainGlobals "backwards" = some (some (.ref f_backwards)))
    (l_backwards : K.lookup f_backwards = some ⟨oc_backwards, od_backwards, .func (PySem.W.fnOf "backwards" "backwards" (defArgs s_backwards) (defBody s_backwards) (defScope s_backwards) .none kV_backwards dc_backwards pm_backwards an_backwards cd_backwards ct_backwards), sl_backwards⟩)
    (c_backwards : PySem.W.codeIn K cd_backwards "backwards" = true)
    (k_backwards : PySem.W.keepIn K (.ref f_backwards) = true)
    (a_l_cell_at : PySem.W.nsIn K mainGlobals "_law_cell_at" = some (some (.ref f_l_cell_at)))
    (l_l_cell_at : K.lookup f_l_cell_at = some ⟨oc_l_cell_at, od_l_cell_at, .func (PySem.W.fnOf "_law_cell_at" "_law_cell_at" (defArgs s_l_cell_at) (defBody s_l_cell_at) (defScope s_l_cell_at) .none kV_l_cell_at dc_l_cell_at pm_l_cell_at an_l_cell_at cd_l_cell_at ct_l_cell_at), sl_l_cell_at⟩)
    (c_l_cell_at : PySem.W.codeIn K cd_l_cell_at "_law_cell_at" = true)
    (k_l_cell_at : PySem.W.keepIn K (.ref f_l_cell_at) = true)
    (a_l_number : PySem.W.nsIn K mainGlobals "_law_number" = some (some (.ref f_l_number)))
    (l_l_number : K.lookup f_l_number = some ⟨oc_l_number, od_l_number, .func (PySem.W.fnOf "_law_number" "_law_number" (defArgs s_l_number) (defBody s_l_number) (defScope s_l_number) .none kV_l_number dc_l_number pm_l_number an_l_number cd_l_number ct_l_number), sl_l_number⟩)
    (c_l_number : PySem.W.codeIn K cd_l_number "_law_number" = true)
    (k_l_number : PySem.W.keepIn K (.ref f_l_number) = true)
    (a_l_rule : PySem.W.nsIn K mainGlobals "_law_rule" = some (some (.ref f_l_rule)))
    (l_l_rule : K.lookup f_l_rule = some ⟨oc_l_rule, od_l_rule, .func (PySem.W.fnOf "_law_rule" "_law_rule" (defArgs s_l_rule) (defBody s_l_rule) (defScope s_l_rule) .none kV_l_rule dc_l_rule pm_l_rule an_l_rule cd_l_rule ct_l_rule), sl_l_rule⟩)
    (c_l_rule : PySem.W.codeIn K cd_l_rule "_law_rule" = true)
    (k_l_rule : PySem.W.keepIn K (.ref f_l_rule) = true)
    (a_l_row : PySem.W.nsIn K mainGlobals "_law_row" = some (some (.ref f_l_row)))
    (l_l_row : K.lookup f_l_row = some ⟨oc_l_row, od_l_row, .func (PySem.W.fnOf "_law_row" "_law_row" (defArgs s_l_row) (defBody s_l_row) (defScope s_l_row) .none kV_l_row dc_l_row pm_l_row an_l_row cd_l_row ct_l_row), sl_l_row⟩)
    (c_l_row : PySem.W.codeIn K cd_l_row "_law_row" = true)
    (k_l_row : PySem.W.keepIn K (.ref f_l_row) = true)
    (a_l_class : PySem.W.nsIn K mainGlobals "_law_class" = some (some (.ref f_l_class)))
    (l_l_class : K.lookup f_l_class = some ⟨oc_l_class, od_l_class, .func (PySem.W.fnOf "_law_class" "_law_class" (defArgs s_l_class) (defBody s_l_class) (defScope s_l_class) .none kV_l_class dc_l_class pm_l_class an_l_class cd_l_class ct_l_class), sl_l_class⟩)
    (c_l_class : PySem.W.codeIn K cd_l_class "_law_class" = true)
    (k_l_class : PySem.W.keepIn K (.ref f_l_class) = true)
    (a_l_made : PySem.W.nsIn K mainGlobals "_law_made" = some (some (.ref f_l_made)))
    (l_l_made : K.lookup f_l_made = some ⟨oc_l_made, od_l_made, .func (PySem.W.fnOf "_law_made" "_law_made" (defArgs s_l_made) (defBody s_l_made) (defScope s_l_made) .none kV_l_made dc_l_made pm_l_made an_l_made cd_l_made ct_l_made), sl_l_made⟩)
    (c_l_made : PySem.W.codeIn K cd_l_made "_law_made" = true)
    (k_l_made : PySem.W.keepIn K (.ref f_l_made) = true)
    (a_l_deeds : PySem.W.nsIn K mainGlobals "_law_deeds" = some (some (.ref f_l_deeds)))
    (l_l_deeds : K.lookup f_l_deeds = some ⟨oc_l_deeds, od_l_deeds, .func (PySem.W.fnOf "_law_deeds" "_law_deeds" (defArgs s_l_deeds) (defBody s_l_deeds) (defScope s_l_deeds) .none kV_l_deeds dc_l_deeds pm_l_deeds an_l_deeds cd_l_deeds ct_l_deeds), sl_l_deeds⟩)
    (c_l_deeds : PySem.W.codeIn K cd_l_deeds "_law_deeds" = true)
    (k_l_deeds : PySem.W.keepIn K (.ref f_l_deeds) = true)
    (a_l_wrong_deeds : PySem.W.nsIn K mainGlobals "_law_wrong_deeds" = some (some (.ref f_l_wrong_deeds)))
    (l_l_wrong_deeds : K.lookup f_l_wrong_deeds = some ⟨oc_l_wrong_deeds, od_l_wrong_deeds, .func (PySem.W.fnOf "_law_wrong_deeds" "_law_wrong_deeds" (defArgs s_l_wrong_deeds) (defBody s_l_wrong_deeds) (defScope s_l_wrong_deeds) .none kV_l_wrong_deeds dc_l_wrong_deeds pm_l_wrong_deeds an_l_wrong_deeds cd_l_wrong_deeds ct_l_wrong_deeds), sl_l_wrong_deeds⟩)
    (c_l_wrong_deeds : PySem.W.codeIn K cd_l_wrong_deeds "_law_wrong_deeds" = true)
    (k_l_wrong_deeds : PySem.W.keepIn K (.ref f_l_wrong_deeds) = true)
    (a_law : PySem.W.nsIn K mainGlobals "law" = some (some (.ref f_law)))
    (l_law : K.lookup f_law = some ⟨oc_law, od_law, .func (PySem.W.fnOf "law" "law" (defArgs s_law) (defBody s_law) (defScope s_law) .none kV_law dc_law pm_law an_law cd_law ct_law), sl_law⟩)
    (c_law : PySem.W.codeIn K cd_law "law" = true)
    (k_law : PySem.W.keepIn K (.ref f_law) = true)
    (aCWalker : PySem.W.nsIn K mainGlobals "Walker" = some (some (.ref C_Walker)))
    (pgWalker : PySem.W.plainGet K C_Walker Str.empty = true) (hdWalker : PySem.W.hasDictIn K C_Walker = true) (poWalker : PySem.W.plainOver K C_Walker = true) (saWalker : PySem.W.findIn K (.ref C_Walker) "__setattr__" = some (some (.builtin "object.__setattr__"))) (mkWalker : PySem.W.makesIn K C_Walker = true) (kcWalker : PySem.W.keepIn K (.ref C_Walker) = true)
    (nfrules : PySem.W.findIn K (.ref C_Walker) "rules" = some none)
    (nfroom : PySem.W.findIn K (.ref C_Walker) "room" = some none)
    (nfplace : PySem.W.findIn K (.ref C_Walker) "place" = some none)
    (nfstate : PySem.W.findIn K (.ref C_Walker) "state" = some none)
    (nfdone : PySem.W.findIn K (.ref C_Walker) "done" = some none)
    (nfwanted : PySem.W.findIn K (.ref C_Walker) "wanted" = some none)
    (nfmarks : PySem.W.findIn K (.ref C_Walker) "marks" = some none)
    (nfseen : PySem.W.findIn K (.ref C_Walker) "seen" = some none)
    (a_Walker_init : PySem.W.findIn K (.ref C_Walker) "__init__" = some (some (.ref f_Walker_init)))
    (i_Walker_init : PySem.W.isFn K (.ref f_Walker_init) = true)
    (l_Walker_init : K.lookup f_Walker_init = some ⟨oc_Walker_init, od_Walker_init, .func (PySem.W.fnOf "__init__" "Walker.__init__" (defArgs s_Walker_init) (defBody s_Walker_init) (defScope s_Walker_init) .none kV_Walker_init dc_Walker_init pm_Walker_init an_Walker_init cd_Walker_init ct_Walker_init), sl_Walker_init⟩)
    (c_Walker_init : PySem.W.codeIn K cd_Walker_init "Walker.__init__" = true)
    (k_Walker_init : PySem.W.keepIn K (.ref f_Walker_init) = true)
    (a_Walker_keep : PySem.W.findIn K (.ref C_Walker) "keep" = some (some (.ref f_Walker_keep)))
    (i_Walker_keep : PySem.W.isFn K (.ref f_Walker_keep) = true)
    (l_Walker_keep : K.lookup f_Walker_keep = some ⟨oc_Walker_keep, od_Walker_keep, .func (PySem.W.fnOf "keep" "Walker.keep" (defArgs s_Walker_keep) (defBody s_Walker_keep) (defScope s_Walker_keep) .none kV_Walker_keep dc_Walker_keep pm_Walker_keep an_Walker_keep cd_Walker_keep ct_Walker_keep), sl_Walker_keep⟩)
    (c_Walker_keep : PySem.W.codeIn K cd_Walker_keep "Walker.keep" = true)
    (k_Walker_keep : PySem.W.keepIn K (.ref f_Walker_keep) = true)
    (a_Walker_meet : PySem.W.findIn K (.ref C_Walker) "meet" = some (some (.ref f_Walker_meet)))
    (i_Walker_meet : PySem.W.isFn K (.ref f_Walker_meet) = true)
    (l_Walker_meet : K.lookup f_Walker_meet = some ⟨oc_Walker_meet, od_Walker_meet, .func (PySem.W.fnOf "meet" "Walker.meet" (defArgs s_Walker_meet) (defBody s_Walker_meet) (defScope s_Walker_meet) .none kV_Walker_meet dc_Walker_meet pm_Walker_meet an_Walker_meet cd_Walker_meet ct_Walker_meet), sl_Walker_meet⟩)
    (c_Walker_meet : PySem.W.codeIn K cd_Walker_meet "Walker.meet" = true)
    (k_Walker_meet : PySem.W.keepIn K (.ref f_Walker_meet) = true)
    (a_Walker_go : PySem.W.findIn K (.ref C_Walker) "go" = some (some (.ref f_Walker_go)))
    (i_Walker_go : PySem.W.isFn K (.ref f_Walker_go) = true)
    (l_Walker_go : K.lookup f_Walker_go = some ⟨oc_Walker_go, od_Walker_go, .func (PySem.W.fnOf "go" "Walker.go" (defArgs s_Walker_go) (defBody s_Walker_go) (defScope s_Walker_go) .none kV_Walker_go dc_Walker_go pm_Walker_go an_Walker_go cd_Walker_go ct_Walker_go), sl_Walker_go⟩)
    (c_Walker_go : PySem.W.codeIn K cd_Walker_go "Walker.go" = true)
    (k_Walker_go : PySem.W.keepIn K (.ref f_Walker_go) = true)
    (a_Walker_do : PySem.W.findIn K (.ref C_Walker) "do" = some (some (.ref f_Walker_do)))
    (i_Walker_do : PySem.W.isFn K (.ref f_Walker_do) = true)
    (l_Walker_do : K.lookup f_Walker_do = some ⟨oc_Walker_do, od_Walker_do, .func (PySem.W.fnOf "do" "Walker.do" (defArgs s_Walker_do) (defBody s_Walker_do) (defScope s_Walker_do) .none kV_Walker_do dc_Walker_do pm_Walker_do an_Walker_do cd_Walker_do ct_Walker_do), sl_Walker_do⟩)
    (c_Walker_do : PySem.W.codeIn K cd_Walker_do "Walker.do" = true)
    (k_Walker_do : PySem.W.keepIn K (.ref f_Walker_do) = true)
    (a_Walker_kept : PySem.W.findIn K (.ref C_Walker) "kept" = some (some (.ref f_Walker_kept)))
    (i_Walker_kept : PySem.W.isFn K (.ref f_Walker_kept) = true)
    (l_Walker_kept : K.lookup f_Walker_kept = some ⟨oc_Walker_kept, od_Walker_kept, .func (PySem.W.fnOf "kept" "Walker.kept" (defArgs s_Walker_kept) (defBody s_Walker_kept) (defScope s_Walker_kept) .none kV_Walker_kept dc_Walker_kept pm_Walker_kept an_Walker_kept cd_Walker_kept ct_Walker_kept), sl_Walker_kept⟩)
    (c_Walker_kept : PySem.W.codeIn K cd_Walker_kept "Walker.kept" = true)
    (k_Walker_kept : PySem.W.keepIn K (.ref f_Walker_kept) = true)
    (a_Walker_met : PySem.W.findIn K (.ref C_Walker) "met" = some (some (.ref f_Walker_met)))
    (i_Walker_met : PySem.W.isFn K (.ref f_Walker_met) = true)
    (l_Walker_met : K.lookup f_Walker_met = some ⟨oc_Walker_met, od_Walker_met, .func (PySem.W.fnOf "met" "Walker.met" (defArgs s_Walker_met) (defBody s_Walker_met) (defScope s_Walker_met) .none kV_Walker_met dc_Walker_met pm_Walker_met an_Walker_met cd_Walker_met ct_Walker_met), sl_Walker_met⟩)
    (c_Walker_met : PySem.W.codeIn K cd_Walker_met "Walker.met" = true)
    (k_Walker_met : PySem.W.keepIn K (.ref f_Walker_met) = true)
    (v_MODULUS : PySem.W.nsIn K mainGlobals "MODULUS" = some (some (.int 999983 t_MODULUS)))
    (v_MOST_STEPS : PySem.W.nsIn K mainGlobals "MOST_STEPS" = some (some (.int 100 t_MOST_STEPS)))
    (v_MOST_ROOM : PySem.W.nsIn K mainGlobals "MOST_ROOM" = some (some (.int 12 t_MOST_ROOM)))
    (z_isinstance : PySem.W.nsIn K mainGlobals "isinstance" = some none)
    (z_bool : PySem.W.nsIn K mainGlobals "bool" = some none)
    (z_int : PySem.W.nsIn K mainGlobals "int" = some none)
    (z_str : PySem.W.nsIn K mainGlobals "str" = some none)
    (z_len : PySem.W.nsIn K mainGlobals "len" = some none)
    (z_tuple : PySem.W.nsIn K mainGlobals "tuple" = some none)
    (z_list : PySem.W.nsIn K mainGlobals "list" = some none)
    (z_range : PySem.W.nsIn K mainGlobals "range" = some none)
    (z_sorted : PySem.W.nsIn K mainGlobals "sorted" = some none)
    (z_min : PySem.W.nsIn K mainGlobals "min" = some none)
    (z_ValueError : PySem.W.nsIn K mainGlobals "ValueError" = some none)
    (gBadCount : PySem.W.nsIn K mainGlobals "BadCount" = some (some (.ref C_BadCount)))
    (xBadCount : PySem.W.excIn K C_BadCount [.type "ValueError", .type "Exception", .type "BaseException", .type "object"] "ValueError.__new__" = true)
    (kBadCount : PySem.W.keepIn K (.ref C_BadCount) = true) (bBadCount : PySem.W.subIn K (.ref C_BadCount) (.type "BaseException") = some true) (tBadCount : PySem.W.typeIn K (.ref C_BadCount) = some (.type "type"))
    (gBadRule : PySem.W.nsIn K mainGlobals "BadRule" = some (some (.ref C_BadRule)))
    (xBadRule : PySem.W.excIn K C_BadRule [.type "ValueError", .type "Exception", .type "BaseException", .type "object"] "ValueError.__new__" = true)
    (kBadRule : PySem.W.keepIn K (.ref C_BadRule) = true) (bBadRule : PySem.W.subIn K (.ref C_BadRule) (.type "BaseException") = some true) (tBadRule : PySem.W.typeIn K (.ref C_BadRule) = some (.type "type"))
    (gBadDeed : PySem.W.nsIn K mainGlobals "BadDeed" = some (some (.ref C_BadDeed)))
    (xBadDeed : PySem.W.excIn K C_BadDeed [.type "ValueError", .type "Exception", .type "BaseException", .type "object"] "ValueError.__new__" = true)
    (kBadDeed : PySem.W.keepIn K (.ref C_BadDeed) = true) (bBadDeed : PySem.W.subIn K (.ref C_BadDeed) (.type "BaseException") = some true) (tBadDeed : PySem.W.typeIn K (.ref C_BadDeed) = some (.type "type"))
    (gNotKept : PySem.W.nsIn K mainGlobals "NotKept" = some (some (.ref C_NotKept)))
    (xNotKept : PySem.W.excIn K C_NotKept [.type "ValueError", .type "Exception", .type "BaseException", .type "object"] "ValueError.__new__" = true)
    (kNotKept : PySem.W.keepIn K (.ref C_NotKept) = true) (bNotKept : PySem.W.subIn K (.ref C_NotKept) (.type "BaseException") = some true) (tNotKept : PySem.W.typeIn K (.ref C_NotKept) = some (.type "type"))
    (gTwice : PySem.W.nsIn K mainGlobals "Twice" = some (some (.ref C_Twice)))
    (xTwice : PySem.W.excIn K C_Twice [.type "ValueError", .type "Exception", .type "BaseException", .type "object"] "ValueError.__new__" = true)
    (kTwice : PySem.W.keepIn K (.ref C_Twice) = true) (bTwice : PySem.W.subIn K (.ref C_Twice) (.type "BaseException") = some true) (tTwice : PySem.W.typeIn K (.ref C_Twice) = some (.type "type"))
    (gFull : PySem.W.nsIn K mainGlobals "Full" = some (some (.ref C_Full)))
    (xFull : PySem.W.excIn K C_Full [.type "ValueError", .type "Exception", .type "BaseException", .type "object"] "ValueError.__new__" = true)
    (kFull : PySem.W.keepIn K (.ref C_Full) = true) (bFull : PySem.W.subIn K (.ref C_Full) (.type "BaseException") = some true) (tFull : PySem.W.typeIn K (.ref C_Full) = some (.type "type"))
    (gAtEnd : PySem.W.nsIn K mainGlobals "AtEnd" = some (some (.ref C_AtEnd)))
    (xAtEnd : PySem.W.excIn K C_AtEnd [.type "ValueError", .type "Exception", .type "BaseException", .type "object"] "ValueError.__new__" = true)
    (kAtEnd : PySem.W.keepIn K (.ref C_AtEnd) = true) (bAtEnd : PySem.W.subIn K (.ref C_AtEnd) (.type "BaseException") = some true) (tAtEnd : PySem.W.typeIn K (.ref C_AtEnd) = some (.type "type"))
    (gNotWanted : PySem.W.nsIn K mainGlobals "NotWanted" = some (some (.ref C_NotWanted)))
    (xNotWanted : PySem.W.excIn K C_NotWanted [.type "ValueError", .type "Exception", .type "BaseException", .type "object"] "ValueError.__new__" = true)
    (kNotWanted : PySem.W.keepIn K (.ref C_NotWanted) = true) (bNotWanted : PySem.W.subIn K (.ref C_NotWanted) (.type "BaseException") = some true) (tNotWanted : PySem.W.typeIn K (.ref C_NotWanted) = some (.type "type"))
    (gMarkError : PySem.W.nsIn K mainGlobals "MarkError" = some (some (.ref C_MarkError)))
    (xMarkError : PySem.W.excIn K C_MarkError [.type "ValueError", .type "Exception", .type "BaseException", .type "object"] "ValueError.__new__" = true)
    (kMarkError : PySem.W.keepIn K (.ref C_MarkError) = true) (bMarkError : PySem.W.subIn K (.ref C_MarkError) (.type "BaseException") = some true) (tMarkError : PySem.W.typeIn K (.ref C_MarkError) = some (.type "type"))
    (hdM : PySem.W.hasDictIn K C_MarkError = true)
    (tkX : PySem.W.takesIn K (.builtin "object.__class__") = some true)
    (spX : PySem.W.specialIn K (.builtin "object.__class__") "__get__" = some (some (.builtin "getset_descriptor.__get__")))
    (sMBadCount : PySem.W.subIn K (.ref C_BadCount) (.ref C_MarkError) = some true)
    (qBadCountBadCount : PySem.W.kitOne K (.ref C_BadCount) (.ref C_BadCount) = some true)
    (qBadCountBadRule : PySem.W.kitOne K (.ref C_BadCount) (.ref C_BadRule) = some false)
    (qBadCountBadDeed : PySem.W.kitOne K (.ref C_BadCount) (.ref C_BadDeed) = some false)
    (qBadCountFull : PySem.W.kitOne K (.ref C_BadCount) (.ref C_Full) = some false)
    (qBadCountTwice : PySem.W.kitOne K (.ref C_BadCount) (.ref C_Twice) = some false)
    (qBadCountNotKept : PySem.W.kitOne K (.ref C_BadCount) (.ref C_NotKept) = some false)
    (qBadCountAtEnd : PySem.W.kitOne K (.ref C_BadCount) (.ref C_AtEnd) = some false)
    (qBadCountNotWanted : PySem.W.kitOne K (.ref C_BadCount) (.ref C_NotWanted) = some false)
    (qvBadCount : PySem.W.kitOne K (.ref C_BadCount) (.type "ValueError") = some true)
    (hgBadCount : PySem.W.findIn K (.ref C_BadCount) "__getattribute__" = some (some (.builtin "BaseException.__getattribute__")))
    (hkBadCount : PySem.W.findIn K (.ref C_BadCount) "__getattr__" = some none)
    (hdBadCount : PySem.W.hasDictIn K C_BadCount = true)
    (haBadCount : PySem.W.findIn K (.ref C_BadCount) "__class__" = some (some (.builtin "object.__class__")))
    (hmBadCount : PySem.W.mroIn K C_BadCount (.type "object") = some true)
    (sMBadRule : PySem.W.subIn K (.ref C_BadRule) (.ref C_MarkError) = some true)
    (qBadRuleBadCount : PySem.W.kitOne K (.ref C_BadRule) (.ref C_BadCount) = some false)
    (qBadRuleBadRule : PySem.W.kitOne K (.ref C_BadRule) (.ref C_BadRule) = some true)
    (qBadRuleBadDeed : PySem.W.kitOne K (.ref C_BadRule) (.ref C_BadDeed) = some false)
    (qBadRuleFull : PySem.W.kitOne K (.ref C_BadRule) (.ref C_Full) = some false)
    (qBadRuleTwice : PySem.W.kitOne K (.ref C_BadRule) (.ref C_Twice) = some false)
    (qBadRuleNotKept : PySem.W.kitOne K (.ref C_BadRule) (.ref C_NotKept) = some false)
    (qBadRuleAtEnd : PySem.W.kitOne K (.ref C_BadRule) (.ref C_AtEnd) = some false)
    (qBadRuleNotWanted : PySem.W.kitOne K (.ref C_BadRule) (.ref C_NotWanted) = some false)
    (qvBadRule : PySem.W.kitOne K (.ref C_BadRule) (.type "ValueError") = some true)
    (hgBadRule : PySem.W.findIn K (.ref C_BadRule) "__getattribute__" = some (some (.builtin "BaseException.__getattribute__")))
    (hkBadRule : PySem.W.findIn K (.ref C_BadRule) "__getattr__" = some none)
    (hdBadRule : PySem.W.hasDictIn K C_BadRule = true)
    (haBadRule : PySem.W.findIn K (.ref C_BadRule) "__class__" = some (some (.builtin "object.__class__")))
    (hmBadRule : PySem.W.mroIn K C_BadRule (.type "object") = some true)
    (sMBadDeed : PySem.W.subIn K (.ref C_BadDeed) (.ref C_MarkError) = some true)
    (qBadDeedBadCount : PySem.W.kitOne K (.ref C_BadDeed) (.ref C_BadCount) = some false)
    (qBadDeedBadRule : PySem.W.kitOne K (.ref C_BadDeed) (.ref C_BadRule) = some false)
    (qBadDeedBadDeed : PySem.W.kitOne K (.ref C_BadDeed) (.ref C_BadDeed) = some true)
    (qBadDeedFull : PySem.W.kitOne K (.ref C_BadDeed) (.ref C_Full) = some false)
    (qBadDeedTwice : PySem.W.kitOne K (.ref C_BadDeed) (.ref C_Twice) = some false)
    (qBadDeedNotKept : PySem.W.kitOne K (.ref C_BadDeed) (.ref C_NotKept) = some false)
    (qBadDeedAtEnd : PySem.W.kitOne K (.ref C_BadDeed) (.ref C_AtEnd) = some false)
    (qBadDeedNotWanted : PySem.W.kitOne K (.ref C_BadDeed) (.ref C_NotWanted) = some false)
    (qvBadDeed : PySem.W.kitOne K (.ref C_BadDeed) (.type "ValueError") = some true)
    (hgBadDeed : PySem.W.findIn K (.ref C_BadDeed) "__getattribute__" = some (some (.builtin "BaseException.__getattribute__")))
    (hkBadDeed : PySem.W.findIn K (.ref C_BadDeed) "__getattr__" = some none)
    (hdBadDeed : PySem.W.hasDictIn K C_BadDeed = true)
    (haBadDeed : PySem.W.findIn K (.ref C_BadDeed) "__class__" = some (some (.builtin "object.__class__")))
    (hmBadDeed : PySem.W.mroIn K C_BadDeed (.type "object") = some true)
    (sMFull : PySem.W.subIn K (.ref C_Full) (.ref C_MarkError) = some true)
    (qFullBadCount : PySem.W.kitOne K (.ref C_Full) (.ref C_BadCount) = some false)
    (qFullBadRule : PySem.W.kitOne K (.ref C_Full) (.ref C_BadRule) = some false)
    (qFullBadDeed : PySem.W.kitOne K (.ref C_Full) (.ref C_BadDeed) = some false)
    (qFullFull : PySem.W.kitOne K (.ref C_Full) (.ref C_Full) = some true)
    (qFullTwice : PySem.W.kitOne K (.ref C_Full) (.ref C_Twice) = some false)
    (qFullNotKept : PySem.W.kitOne K (.ref C_Full) (.ref C_NotKept) = some false)
    (qFullAtEnd : PySem.W.kitOne K (.ref C_Full) (.ref C_AtEnd) = some false)
    (qFullNotWanted : PySem.W.kitOne K (.ref C_Full) (.ref C_NotWanted) = some false)
    (qvFull : PySem.W.kitOne K (.ref C_Full) (.type "ValueError") = some true)
    (hgFull : PySem.W.findIn K (.ref C_Full) "__getattribute__" = some (some (.builtin "BaseException.__getattribute__")))
    (hkFull : PySem.W.findIn K (.ref C_Full) "__getattr__" = some none)
    (hdFull : PySem.W.hasDictIn K C_Full = true)
    (haFull : PySem.W.findIn K (.ref C_Full) "__class__" = some (some (.builtin "object.__class__")))
    (hmFull : PySem.W.mroIn K C_Full (.type "object") = some true)
    (sMTwice : PySem.W.subIn K (.ref C_Twice) (.ref C_MarkError) = some true)
    (qTwiceBadCount : PySem.W.kitOne K (.ref C_Twice) (.ref C_BadCount) = some false)
    (qTwiceBadRule : PySem.W.kitOne K (.ref C_Twice) (.ref C_BadRule) = some false)
    (qTwiceBadDeed : PySem.W.kitOne K (.ref C_Twice) (.ref C_BadDeed) = some false)
    (qTwiceFull : PySem.W.kitOne K (.ref C_Twice) (.ref C_Full) = some false)
    (qTwiceTwice : PySem.W.kitOne K (.ref C_Twice) (.ref C_Twice) = some true)
    (qTwiceNotKept : PySem.W.kitOne K (.ref C_Twice) (.ref C_NotKept) = some false)
    (qTwiceAtEnd : PySem.W.kitOne K (.ref C_Twice) (.ref C_AtEnd) = some false)
    (qTwiceNotWanted : PySem.W.kitOne K (.ref C_Twice) (.ref C_NotWanted) = some false)
    (qvTwice : PySem.W.kitOne K (.ref C_Twice) (.type "ValueError") = some true)
    (hgTwice : PySem.W.findIn K (.ref C_Twice) "__getattribute__" = some (some (.builtin "BaseException.__getattribute__")))
    (hkTwice : PySem.W.findIn K (.ref C_Twice) "__getattr__" = some none)
    (hdTwice : PySem.W.hasDictIn K C_Twice = true)
    (haTwice : PySem.W.findIn K (.ref C_Twice) "__class__" = some (some (.builtin "object.__class__")))
    (hmTwice : PySem.W.mroIn K C_Twice (.type "object") = some true)
    (sMNotKept : PySem.W.subIn K (.ref C_NotKept) (.ref C_MarkError) = some true)
    (qNotKeptBadCount : PySem.W.kitOne K (.ref C_NotKept) (.ref C_BadCount) = some false)
    (qNotKeptBadRule : PySem.W.kitOne K (.ref C_NotKept) (.ref C_BadRule) = some false)
    (qNotKeptBadDeed : PySem.W.kitOne K (.ref C_NotKept) (.ref C_BadDeed) = some false)
    (qNotKeptFull : PySem.W.kitOne K (.ref C_NotKept) (.ref C_Full) = some false)
    (qNotKeptTwice : PySem.W.kitOne K (.ref C_NotKept) (.ref C_Twice) = some false)
    (qNotKeptNotKept : PySem.W.kitOne K (.ref C_NotKept) (.ref C_NotKept) = some true)
    (qNotKeptAtEnd : PySem.W.kitOne K (.ref C_NotKept) (.ref C_AtEnd) = some false)
    (qNotKeptNotWanted : PySem.W.kitOne K (.ref C_NotKept) (.ref C_NotWanted) = some false)
    (qvNotKept : PySem.W.kitOne K (.ref C_NotKept) (.type "ValueError") = some true)
    (hgNotKept : PySem.W.findIn K (.ref C_NotKept) "__getattribute__" = some (some (.builtin "BaseException.__getattribute__")))
    (hkNotKept : PySem.W.findIn K (.ref C_NotKept) "__getattr__" = some none)
    (hdNotKept : PySem.W.hasDictIn K C_NotKept = true)
    (haNotKept : PySem.W.findIn K (.ref C_NotKept) "__class__" = some (some (.builtin "object.__class__")))
    (hmNotKept : PySem.W.mroIn K C_NotKept (.type "object") = some true)
    (sMAtEnd : PySem.W.subIn K (.ref C_AtEnd) (.ref C_MarkError) = some true)
    (qAtEndBadCount : PySem.W.kitOne K (.ref C_AtEnd) (.ref C_BadCount) = some false)
    (qAtEndBadRule : PySem.W.kitOne K (.ref C_AtEnd) (.ref C_BadRule) = some false)
    (qAtEndBadDeed : PySem.W.kitOne K (.ref C_AtEnd) (.ref C_BadDeed) = some false)
    (qAtEndFull : PySem.W.kitOne K (.ref C_AtEnd) (.ref C_Full) = some false)
    (qAtEndTwice : PySem.W.kitOne K (.ref C_AtEnd) (.ref C_Twice) = some false)
    (qAtEndNotKept : PySem.W.kitOne K (.ref C_AtEnd) (.ref C_NotKept) = some false)
    (qAtEndAtEnd : PySem.W.kitOne K (.ref C_AtEnd) (.ref C_AtEnd) = some true)
    (qAtEndNotWanted : PySem.W.kitOne K (.ref C_AtEnd) (.ref C_NotWanted) = some false)
    (qvAtEnd : PySem.W.kitOne K (.ref C_AtEnd) (.type "ValueError") = some true)
    (hgAtEnd : PySem.W.findIn K (.ref C_AtEnd) "__getattribute__" = some (some (.builtin "BaseException.__getattribute__")))
    (hkAtEnd : PySem.W.findIn K (.ref C_AtEnd) "__getattr__" = some none)
    (hdAtEnd : PySem.W.hasDictIn K C_AtEnd = true)
    (haAtEnd : PySem.W.findIn K (.ref C_AtEnd) "__class__" = some (some (.builtin "object.__class__")))
    (hmAtEnd : PySem.W.mroIn K C_AtEnd (.type "object") = some true)
    (sMNotWanted : PySem.W.subIn K (.ref C_NotWanted) (.ref C_MarkError) = some true)
    (qNotWantedBadCount : PySem.W.kitOne K (.ref C_NotWanted) (.ref C_BadCount) = some false)
    (qNotWantedBadRule : PySem.W.kitOne K (.ref C_NotWanted) (.ref C_BadRule) = some false)
    (qNotWantedBadDeed : PySem.W.kitOne K (.ref C_NotWanted) (.ref C_BadDeed) = some false)
    (qNotWantedFull : PySem.W.kitOne K (.ref C_NotWanted) (.ref C_Full) = some false)
    (qNotWantedTwice : PySem.W.kitOne K (.ref C_NotWanted) (.ref C_Twice) = some false)
    (qNotWantedNotKept : PySem.W.kitOne K (.ref C_NotWanted) (.ref C_NotKept) = some false)
    (qNotWantedAtEnd : PySem.W.kitOne K (.ref C_NotWanted) (.ref C_AtEnd) = some false)
    (qNotWantedNotWanted : PySem.W.kitOne K (.ref C_NotWanted) (.ref C_NotWanted) = some true)
    (qvNotWanted : PySem.W.kitOne K (.ref C_NotWanted) (.type "ValueError") = some true)
    (hgNotWanted : PySem.W.findIn K (.ref C_NotWanted) "__getattribute__" = some (some (.builtin "BaseException.__getattribute__")))
    (hkNotWanted : PySem.W.findIn K (.ref C_NotWanted) "__getattr__" = some none)
    (hdNotWanted : PySem.W.hasDictIn K C_NotWanted = true)
    (haNotWanted : PySem.W.findIn K (.ref C_NotWanted) "__class__" = some (some (.builtin "object.__class__")))
    (hmNotWanted : PySem.W.mroIn K C_NotWanted (.type "object") = some true) :
    ∃ fd : FuncData, (∀ (s : Shared) (v : Value), BindsTo s fd ⟨[v], []⟩ [("_law_script", v)]) ∧ ∀ base : Heap, K.In base → base.Ns mainGlobals mg → FnOk l.prog w K mg base (L2.CX l.prog w) 109 fa fd ["_law_script"] (sp_law K) := by
  have e := hfa.symm.trans (PySem.W.mg_of X G a_law)
  cases e
  have T : Txt K mg := {
    d_is_among := ⟨_, _, PySem.W.mg_of X G a_is_among, fun_mk (st := s_is_among) l_is_among c_is_among k_is_among, (fun_mk (st := s_is_among) l_is_among c_is_among k_is_among).binds (ps := ["thing", "low", "high"]) fun _ _ _ _ _ _ us hl => match us, hl with | [_, _, _], _ => rfl⟩,
    d_is_state := ⟨_, _, PySem.W.mg_of X G a_is_state, fun_mk (st := s_is_state) l_is_state c_is_state k_is_state, (fun_mk (st := s_is_state) l_is_state c_is_state k_is_state).binds (ps := ["thing"]) fun _ _ _ _ _ _ us hl => match us, hl with | [_], _ => rfl⟩,
    d_is_rule := ⟨_, _, PySem.W.mg_of X G a_is_rule, fun_mk (st := s_is_rule) l_is_rule c_is_rule k_is_rule, (fun_mk (st := s_is_rule) l_is_rule c_is_rule k_is_rule).binds (ps := ["thing"]) fun _ _ _ _ _ _ us hl => match us, hl with | [_], _ => rfl⟩,
    d_need_row := ⟨_, _, PySem.W.mg_of X G a_need_row, fun_mk (st := s_need_row) l_need_row c_need_row k_need_row, (fun_mk (st := s_need_row) l_need_row c_need_row k_need_row).binds (ps := ["first", "rules"]) fun _ _ _ _ _ _ us hl => match us, hl with | [_, _], _ => rfl⟩,
    d_forth := ⟨_, _, PySem.W.mg_of X G a_forth, fun_mk (st := s_forth) l_forth c_forth k_forth, (fun_mk (st := s_forth) l_forth c_forth k_forth).binds (ps := ["rule", "state"]) fun _ _ _ _ _ _ us hl => match us, hl with | [_, _], _ => rfl⟩,
    d_is_deed := ⟨_, _, PySem.W.mg_of X G a_is_deed, fun_mk (st := s_is_deed) l_is_deed c_is_deed k_is_deed, (fun_mk (st := s_is_deed) l_is_deed c_is_deed k_is_deed).binds (ps := ["thing"]) fun _ _ _ _ _ _ us hl => match us, hl with | [_], _ => rfl⟩,
    d_need_counts := ⟨_, _, PySem.W.mg_of X G a_need_counts, fun_mk (st := s_need_counts) l_need_counts c_need_counts k_need_counts, (fun_mk (st := s_need_counts) l_need_counts c_need_counts k_need_counts).binds (ps := ["steps", "room"]) fun _ _ _ _ _ _ us hl => match us, hl with | [_, _], _ => rfl⟩,
    d_choices := ⟨_, _, PySem.W.mg_of X G a_choices, fun_mk (st := s_choices) l_choices c_choices k_choices, (fun_mk (st := s_choices) l_choices c_choices k_choices).binds (ps := ["many", "chosen"]) fun _ _ _ _ _ _ us hl => match us, hl with | [_, _], _ => rfl⟩,
    d_ways := ⟨_, _, PySem.W.mg_of X G a_ways, fun_mk (st := s_ways) l_ways c_ways k_ways, (fun_mk (st := s_ways) l_ways c_ways k_ways).binds (ps := ["room", "times"]) fun _ _ _ _ _ _ us hl => match us, hl with | [_, _], _ => rfl⟩,
    d_often := ⟨_, _, PySem.W.mg_of X G a_often, fun_mk (st := s_often) l_often c_often k_often, (fun_mk (st := s_often) l_often c_often k_often).binds (ps := ["steps", "room"]) fun _ _ _ _ _ _ us hl => match us, hl with | [_, _], _ => rfl⟩,
    d_first_mark := ⟨_, _, PySem.W.mg_of X G a_first_mark, fun_mk (st := s_first_mark) l_first_mark c_first_mark k_first_mark, (fun_mk (st := s_first_mark) l_first_mark c_first_mark k_first_mark).binds (ps := ["steps", "room"]) fun _ _ _ _ _ _ us hl => match us, hl with | [_, _], _ => rfl⟩,
    d_again_and_again := ⟨_, _, PySem.W.mg_of X G a_again_and_again, fun_mk (st := s_again_and_again) l_again_and_again c_again_and_again k_again_and_again, (fun_mk (st := s_again_and_again) l_again_and_again c_again_and_again k_again_and_again).binds (ps := ["start", "steps"]) fun _ _ _ _ _ _ us hl => match us, hl with | [_, _], _ => rfl⟩,
    d_from_mark := ⟨_, _, PySem.W.mg_of X G a_from_mark, fun_mk (st := s_from_mark) l_from_mark c_from_mark k_from_mark, (fun_mk (st := s_from_mark) l_from_mark c_from_mark k_from_mark).binds (ps := ["start", "steps", "room"]) fun _ _ _ _ _ _ us hl => match us, hl with | [_, _, _], _ => rfl⟩,
    d_plan := ⟨_, _, PySem.W.mg_of X G a_plan, fun_mk (st := s_plan) l_plan c_plan k_plan, (fun_mk (st := s_plan) l_plan c_plan k_plan).binds (ps := ["steps", "room"]) fun _ _ _ _ _ _ us hl => match us, hl with | [_, _], _ => rfl⟩,
    d_walked := ⟨_, _, PySem.W.mg_of X G a_walked, fun_mk (st := s_walked) l_walked c_walked k_walked, (fun_mk (st := s_walked) l_walked c_walked k_walked).binds (ps := ["first", "rules", "room", "deeds"]) fun _ _ _ _ _ _ us hl => match us, hl with | [_, _, _, _], _ => rfl⟩,
    d_backwards := ⟨_, _, PySem.W.mg_of X G a_backwards, fun_mk (st := s_backwards) l_backwards c_backwards k_backwards, (fun_mk (st := s_backwards) l_backwards c_backwards k_backwards).binds (ps := ["first", "rules", "room"]) fun _ _ _ _ _ _ us hl => match us, hl with | [_, _, _], _ => rfl⟩,
    d_l_cell_at := ⟨_, _, PySem.W.mg_of X G a_l_cell_at, fun_mk (st := s_l_cell_at) l_l_cell_at c_l_cell_at k_l_cell_at, (fun_mk (st := s_l_cell_at) l_l_cell_at c_l_cell_at k_l_cell_at).binds (ps := ["_law_script", "_law_k"]) fun _ _ _ _ _ _ us hl => match us, hl with | [_, _], _ => rfl⟩,
    d_l_number := ⟨_, _, PySem.W.mg_of X G a_l_number, fun_mk (st := s_l_number) l_l_number c_l_number k_l_number, (fun_mk (st := s_l_number) l_l_number c_l_number k_l_number).binds (ps := ["_law_script", "_law_k"]) fun _ _ _ _ _ _ us hl => match us, hl with | [_, _], _ => rfl⟩,
    d_l_rule := ⟨_, _, PySem.W.mg_of X G a_l_rule, fun_mk (st := s_l_rule) l_l_rule c_l_rule k_l_rule, (fun_mk (st := s_l_rule) l_l_rule c_l_rule k_l_rule).binds (ps := ["_law_number_here"]) fun _ _ _ _ _ _ us hl => match us, hl with | [_], _ => rfl⟩,
    d_l_row := ⟨_, _, PySem.W.mg_of X G a_l_row, fun_mk (st := s_l_row) l_l_row c_l_row k_l_row, (fun_mk (st := s_l_row) l_l_row c_l_row k_l_row).binds (ps := ["_law_script", "_law_start", "_law_most"]) fun _ _ _ _ _ _ us hl => match us, hl with | [_, _, _], _ => rfl⟩,
    d_l_class := ⟨_, _, PySem.W.mg_of X G a_l_class, fun_mk (st := s_l_class) l_l_class c_l_class k_l_class, (fun_mk (st := s_l_class) l_l_class c_l_class k_l_class).binds (ps := ["_law_e"]) fun _ _ _ _ _ _ us hl => match us, hl with | [_], _ => rfl⟩,
    d_l_made := ⟨_, _, PySem.W.mg_of X G a_l_made, fun_mk (st := s_l_made) l_l_made c_l_made k_l_made, (fun_mk (st := s_l_made) l_l_made c_l_made k_l_made).binds (ps := ["_law_first", "_law_rules", "_law_room", "_law_way"]) fun _ _ _ _ _ _ us hl => match us, hl with | [_, _, _, _], _ => rfl⟩,
    d_l_deeds := ⟨_, _, PySem.W.mg_of X G a_l_deeds, fun_mk (st := s_l_deeds) l_l_deeds c_l_deeds k_l_deeds, (fun_mk (st := s_l_deeds) l_l_deeds c_l_deeds k_l_deeds).binds (ps := ["_law_first", "_law_rules", "_law_room", "_law_deeds_here"]) fun _ _ _ _ _ _ us hl => match us, hl with | [_, _, _, _], _ => rfl⟩,
    d_l_wrong_deeds := ⟨_, _, PySem.W.mg_of X G a_l_wrong_deeds, fun_mk (st := s_l_wrong_deeds) l_l_wrong_deeds c_l_wrong_deeds k_l_wrong_deeds, (fun_mk (st := s_l_wrong_deeds) l_l_wrong_deeds c_l_wrong_deeds k_l_wrong_deeds).binds (ps := ["_law_first", "_law_rules", "_law_cell"]) fun _ _ _ _ _ _ us hl => match us, hl with | [_, _, _], _ => rfl⟩,
    d_law := ⟨_, _, PySem.W.mg_of X G a_law, fun_mk (st := s_law) l_law c_law k_law, (fun_mk (st := s_law) l_law c_law k_law).binds (ps := ["_law_script"]) fun _ _ _ _ _ _ us hl => match us, hl with | [_], _ => rfl⟩,
    aWalker := C_Walker,
    o_Walker := ⟨⟨pgWalker, hdWalker, poWalker, saWalker⟩, PySem.W.mg_of X G aCWalker, nfrules, nfroom, nfplace, nfstate, nfdone, nfwanted, nfmarks, nfseen⟩,
    d_Walker_init := ⟨_, _, ⟨mkWalker, a_Walker_init, i_Walker_init, kcWalker⟩, fun_mk (st := s_Walker_init) l_Walker_init c_Walker_init k_Walker_init, (fun_mk (st := s_Walker_init) l_Walker_init c_Walker_init k_Walker_init).binds (ps := ["self", "first", "rules", "room"]) fun _ _ _ _ _ _ us hl => match us, hl with | [_, _, _, _], _ => rfl⟩,
    d_Walker_keep := ⟨_, _, ⟨a_Walker_keep, i_Walker_keep, k_Walker_keep⟩, fun_mk (st := s_Walker_keep) l_Walker_keep c_Walker_keep k_Walker_keep, (fun_mk (st := s_Walker_keep) l_Walker_keep c_Walker_keep k_Walker_keep).binds (ps := ["self"]) fun _ _ _ _ _ _ us hl => match us, hl with | [_], _ => rfl⟩,
    d_Walker_meet := ⟨_, _, ⟨a_Walker_meet, i_Walker_meet, k_Walker_meet⟩, fun_mk (st := s_Walker_meet) l_Walker_meet c_Walker_meet k_Walker_meet, (fun_mk (st := s_Walker_meet) l_Walker_meet c_Walker_meet k_Walker_meet).binds (ps := ["self"]) fun _ _ _ _ _ _ us hl => match us, hl with | [_], _ => rfl⟩,
    d_Walker_go := ⟨_, _, ⟨a_Walker_go, i_Walker_go, k_Walker_go⟩, fun_mk (st := s_Walker_go) l_Walker_go c_Walker_go k_Walker_go, (fun_mk (st := s_Walker_go) l_Walker_go c_Walker_go k_Walker_go).binds (ps := ["self", "many"]) fun _ _ _ _ _ _ us hl => match us, hl with | [_, _], _ => rfl⟩,
    d_Walker_do := ⟨_, _, ⟨a_Walker_do, i_Walker_do, k_Walker_do⟩, fun_mk (st := s_Walker_do) l_Walker_do c_Walker_do k_Walker_do, (fun_mk (st := s_Walker_do) l_Walker_do c_Walker_do k_Walker_do).binds (ps := ["self", "deed"]) fun _ _ _ _ _ _ us hl => match us, hl with | [_, _], _ => rfl⟩,
    d_Walker_kept := ⟨_, _, ⟨a_Walker_kept, i_Walker_kept, k_Walker_kept⟩, fun_mk (st := s_Walker_kept) l_Walker_kept c_Walker_kept k_Walker_kept, (fun_mk (st := s_Walker_kept) l_Walker_kept c_Walker_kept k_Walker_kept).binds (ps := ["self"]) fun _ _ _ _ _ _ us hl => match us, hl with | [_], _ => rfl⟩,
    d_Walker_met := ⟨_, _, ⟨a_Walker_met, i_Walker_met, k_Walker_met⟩, fun_mk (st := s_Walker_met) l_Walker_met c_Walker_met k_Walker_met, (fun_mk (st := s_Walker_met) l_Walker_met c_Walker_met k_Walker_met).binds (ps := ["self"]) fun _ _ _ _ _ _ us hl => match us, hl with | [_], _ => rfl⟩,
    c_MODULUS := ⟨_, PySem.W.mg_of X G v_MODULUS⟩,
    c_MOST_STEPS := ⟨_, PySem.W.mg_of X G v_MOST_STEPS⟩,
    c_MOST_ROOM := ⟨_, PySem.W.mg_of X G v_MOST_ROOM⟩,
    n_isinstance := PySem.W.mg_none_of X G z_isinstance,
    n_bool := PySem.W.mg_none_of X G z_bool,
    n_int := PySem.W.mg_none_of X G z_int,
    n_str := PySem.W.mg_none_of X G z_str,
    n_len := PySem.W.mg_none_of X G z_len,
    n_tuple := PySem.W.mg_none_of X G z_tuple,
    n_list := PySem.W.mg_none_of X G z_list,
    n_range := PySem.W.mg_none_of X G z_range,
    n_sorted := PySem.W.mg_none_of X G z_sorted,
    n_min := PySem.W.mg_none_of X G z_min,
    n_ValueError := PySem.W.mg_none_of X G z_ValueError,
    aBadCount := C_BadCount,
    x_BadCount := ⟨PySem.W.mg_of X G gBadCount, xBadCount, kBadCount, bBadCount, tBadCount⟩,
    aBadRule := C_BadRule,
    x_BadRule := ⟨PySem.W.mg_of X G gBadRule, xBadRule, kBadRule, bBadRule, tBadRule⟩,
    aBadDeed := C_BadDeed,
    x_BadDeed := ⟨PySem.W.mg_of X G gBadDeed, xBadDeed, kBadDeed, bBadDeed, tBadDeed⟩,
    aNotKept := C_NotKept,
    x_NotKept := ⟨PySem.W.mg_of X G gNotKept, xNotKept, kNotKept, bNotKept, tNotKept⟩,
    aTwice := C_Twice,
    x_Twice := ⟨PySem.W.mg_of X G gTwice, xTwice, kTwice, bTwice, tTwice⟩,
    aFull := C_Full,
    x_Full := ⟨PySem.W.mg_of X G gFull, xFull, kFull, bFull, tFull⟩,
    aAtEnd := C_AtEnd,
    x_AtEnd := ⟨PySem.W.mg_of X G gAtEnd, xAtEnd, kAtEnd, bAtEnd, tAtEnd⟩,
    aNotWanted := C_NotWanted,
    x_NotWanted := ⟨PySem.W.mg_of X G gNotWanted, xNotWanted, kNotWanted, bNotWanted, tNotWanted⟩,
    aMarkError := C_MarkError,
    x_MarkError := ⟨PySem.W.mg_of X G gMarkError, xMarkError, kMarkError, bMarkError, tMarkError⟩,
    q_BadCount := ⟨by decide, fun j hj => eight (P := fun j => PySem.W.kitOne K (.ref C_BadCount) (.ref ([C_BadCount, C_BadRule, C_BadDeed, C_Full, C_Twice, C_NotKept, C_AtEnd, C_NotWanted].getD j 0)) = some (decide (j = 0))) hj qBadCountBadCount qBadCountBadRule qBadCountBadDeed qBadCountFull qBadCountTwice qBadCountNotKept qBadCountAtEnd qBadCountNotWanted, qvBadCount, ⟨hgBadCount, hkBadCount, bBadCount, hdBadCount, haBadCount, spX, tkX, hmBadCount⟩⟩,
    e_BadCount := PySem.W.exm_ref bMarkError hdM tMarkError sMBadCount,
    q_BadRule := ⟨by decide, fun j hj => eight (P := fun j => PySem.W.kitOne K (.ref C_BadRule) (.ref ([C_BadCount, C_BadRule, C_BadDeed, C_Full, C_Twice, C_NotKept, C_AtEnd, C_NotWanted].getD j 0)) = some (decide (j = 1))) hj qBadRuleBadCount qBadRuleBadRule qBadRuleBadDeed qBadRuleFull qBadRuleTwice qBadRuleNotKept qBadRuleAtEnd qBadRuleNotWanted, qvBadRule, ⟨hgBadRule, hkBadRule, bBadRule, hdBadRule, haBadRule, spX, tkX, hmBadRule⟩⟩,
    e_BadRule := PySem.W.exm_ref bMarkError hdM tMarkError sMBadRule,
    q_BadDeed := ⟨by decide, fun j hj => eight (P := fun j => PySem.W.kitOne K (.ref C_BadDeed) (.ref ([C_BadCount, C_BadRule, C_BadDeed, C_Full, C_Twice, C_NotKept, C_AtEnd, C_NotWanted].getD j 0)) = some (decide (j = 2))) hj qBadDeedBadCount qBadDeedBadRule qBadDeedBadDeed qBadDeedFull qBadDeedTwice qBadDeedNotKept qBadDeedAtEnd qBadDeedNotWanted, qvBadDeed, ⟨hgBadDeed, hkBadDeed, bBadDeed, hdBadDeed, haBadDeed, spX, tkX, hmBadDeed⟩⟩,
    e_BadDeed := PySem.W.exm_ref bMarkError hdM tMarkError sMBadDeed,
    q_Full := ⟨by decide, fun j hj => eight (P := fun j => PySem.W.kitOne K (.ref C_Full) (.ref ([C_BadCount, C_BadRule, C_BadDeed, C_Full, C_Twice, C_NotKept, C_AtEnd, C_NotWanted].getD j 0)) = some (decide (j = 3))) hj qFullBadCount qFullBadRule qFullBadDeed qFullFull qFullTwice qFullNotKept qFullAtEnd qFullNotWanted, qvFull, ⟨hgFull, hkFull, bFull, hdFull, haFull, spX, tkX, hmFull⟩⟩,
    e_Full := PySem.W.exm_ref bMarkError hdM tMarkError sMFull,
    q_Twice := ⟨by decide, fun j hj => eight (P := fun j => PySem.W.kitOne K (.ref C_Twice) (.ref ([C_BadCount, C_BadRule, C_BadDeed, C_Full, C_Twice, C_NotKept, C_AtEnd, C_NotWanted].getD j 0)) = some (decide (j = 4))) hj qTwiceBadCount qTwiceBadRule qTwiceBadDeed qTwiceFull qTwiceTwice qTwiceNotKept qTwiceAtEnd qTwiceNotWanted, qvTwice, ⟨hgTwice, hkTwice, bTwice, hdTwice, haTwice, spX, tkX, hmTwice⟩⟩,
    e_Twice := PySem.W.exm_ref bMarkError hdM tMarkError sMTwice,
    q_NotKept := ⟨by decide, fun j hj => eight (P := fun j => PySem.W.kitOne K (.ref C_NotKept) (.ref ([C_BadCount, C_BadRule, C_BadDeed, C_Full, C_Twice, C_NotKept, C_AtEnd, C_NotWanted].getD j 0)) = some (decide (j = 5))) hj qNotKeptBadCount qNotKeptBadRule qNotKeptBadDeed qNotKeptFull qNotKeptTwice qNotKeptNotKept qNotKeptAtEnd qNotKeptNotWanted, qvNotKept, ⟨hgNotKept, hkNotKept, bNotKept, hdNotKept, haNotKept, spX, tkX, hmNotKept⟩⟩,
    e_NotKept := PySem.W.exm_ref bMarkError hdM tMarkError sMNotKept,
    q_AtEnd := ⟨by decide, fun j hj => eight (P := fun j => PySem.W.kitOne K (.ref C_AtEnd) (.ref ([C_BadCount, C_BadRule, C_BadDeed, C_Full, C_Twice, C_NotKept, C_AtEnd, C_NotWanted].getD j 0)) = some (decide (j = 6))) hj qAtEndBadCount qAtEndBadRule qAtEndBadDeed qAtEndFull qAtEndTwice qAtEndNotKept qAtEndAtEnd qAtEndNotWanted, qvAtEnd, ⟨hgAtEnd, hkAtEnd, bAtEnd, hdAtEnd, haAtEnd, spX, tkX, hmAtEnd⟩⟩,
    e_AtEnd := PySem.W.exm_ref bMarkError hdM tMarkError sMAtEnd,
    q_NotWanted := ⟨by decide, fun j hj => eight (P := fun j => PySem.W.kitOne K (.ref C_NotWanted) (.ref ([C_BadCount, C_BadRule, C_BadDeed, C_Full, C_Twice, C_NotKept, C_AtEnd, C_NotWanted].getD j 0)) = some (decide (j = 7))) hj qNotWantedBadCount qNotWantedBadRule qNotWantedBadDeed qNotWantedFull qNotWantedTwice qNotWantedNotKept qNotWantedAtEnd qNotWantedNotWanted, qvNotWanted, ⟨hgNotWanted, hkNotWanted, bNotWanted, hdNotWanted, haNotWanted, spX, tkX, hmNotWanted⟩⟩,
    e_NotWanted := PySem.W.exm_ref bMarkError hdM tMarkError sMNotWanted }
  refine ⟨PySem.W.fnOf "law" "law" (defArgs s_law) (defBody s_law) (defScope s_law) .none kV_law dc_law pm_law an_law cd_law ct_law, fun s v => .of_eq rfl, fun base _ _ => ?_⟩
  exact ok_law_at T (fun_mk (st := s_law) l_law c_law k_law)
theorem walk {l : PySem.W.OpenLaw} {q : Program} {loose : List Str} {XP : (Str → Option Value) → Heap → Prop} {YP : World → Heap → Prop} {d : DefRec} {K : Params → PySem.W.Frag} (hn : l.most = some 63) (hdf : d.params.defaults = [])
    (hY : ∀ (w : World) (h : Heap), YP w h → (K w.params).In h)
    (F : ∀ (w : World) (mg : Str → Option Value) (fa : Addr) (h : Heap), (K w.params).In h → h.Ns mainGlobals mg → mg d.name = some (.ref fa) →
      ∃ fd : FuncData, (∀ (s : Shared) (u : Value), BindsTo s fd ⟨[u], []⟩ [("_law_script", u)]) ∧ ∀ base : Heap, (K w.params).In base → base.Ns mainGlobals mg → FnOk l.prog w (K w.params) mg base (L2.CX l.prog w) 109 fa fd ["_law_script"] (sp_law (K w.params))) :
    PySem.W.WalkO q loose XP YP l.row.toRowW d [] (fun f vs => PySem.call f vs) :=
  L2.walk_of (n := 63) (k := 109) (x := "_law_script") (CX := fun w => L2.CX l.prog w) (sp := fun w => sp_law (K w.params)) hn (by decide) hdf ⟨rfl, by decide, by decide⟩ hY F (fun _ _ _ _ hl _ hS => law_true hS hl) fun _ _ _ _ _ z => cx0_no z
end BM
open PySem PySem.W PyProof.Rows
set_option maxRecDepth 100000 in
set_option maxHeartbeats 0 in
theorem PySem.Challenge.cw_backmarks_k06_walkers_refused_holds : PySem.Challenge.rw_backmarks_k06_walkers_refused.Holds := by
  w_on; o_law; k_head; (case hw => w_witness2)
  k_fill
  refine BM.walk (l := PySem.Challenge.rw_backmarks_k06_walkers_refused) rfl rfl (fun w h Y => PySem.W.kIn_of Y) ?F
  case F =>
    intro w mg fa h KX G hmg
    refine' BM.all_mk (l := PySem.Challenge.rw_backmarks_k06_walkers_refused) KX G hmg ?a_is_among ?l_is_among ?c_is_among ?k_is_among ?a_is_state ?l_is_state ?c_is_state ?k_is_state ?a_is_rule ?l_is_rule ?c_is_rule ?k_is_rule ?a_need_row ?l_need_row ?c_need_row ?k_need_row ?a_forth ?l_forth ?c_forth ?k_forth ?a_is_deed ?l_is_deed ?c_is_deed ?k_is_deed ?a_need_counts ?l_need_counts ?c_need_counts ?k_need_counts ?a_choices ?l_choices ?c_choices ?k_choices ?a_ways ?l_ways ?c_ways ?k_ways ?a_often ?l_often ?c_often ?k_often ?a_first_mark ?l_first_mark ?c_first_mark ?k_first_mark ?a_again_and_again ?l_again_and_again ?c_again_and_again ?k_again_and_again ?a_from_mark ?l_from_mark ?c_from_mark ?k_from_mark ?a_plan ?l_plan ?c_plan ?k_plan ?a_walked ?l_walked ?c_walked ?k_walked ?a_backwards ?l_backwards ?c_backwards ?k_backwards ?a_l_cell_at ?l_l_cell_at ?c_l_cell_at ?k_l_cell_at ?a_l_number ?l_l_number ?c_l_number ?k_l_number ?a_l_rule ?l_l_rule ?c_l_rule ?k_l_rule ?a_l_row ?l_l_row ?c_l_row ?k_l_row ?a_l_class ?l_l_class ?c_l_class ?k_l_class ?a_l_made ?l_l_made ?c_l_made ?k_l_made ?a_l_deeds ?l_l_deeds ?c_l_deeds ?k_l_deeds ?a_l_wrong_deeds ?l_l_wrong_deeds ?c_l_wrong_deeds ?k_l_wrong_deeds ?a_law ?l_law ?c_law ?k_law ?aCWalker ?pgWalker ?hdWalker ?poWalker ?saWalker ?mkWalker ?kcWalker ?nfrules ?nfroom ?nfplace ?nfstate ?nfdone ?nfwanted ?nfmarks ?nfseen ?a_Walker_init ?i_Walker_init ?l_Walker_init ?c_Walker_init ?k_Walker_init ?a_Walker_keep ?i_Walker_keep ?l_Walker_keep ?c_Walker_keep ?k_Walker_keep ?a_Walker_meet ?i_Walker_meet ?l_Walker_meet ?c_Walker_meet ?k_Walker_meet ?a_Walker_go ?i_Walker_go ?l_Walker_go ?c_Walker_go ?k_Walker_go ?a_Walker_do ?i_Walker_do ?l_Walker_do ?c_Walker_do ?k_Walker_do ?a_Walker_kept ?i_Walker_kept ?l_Walker_kept ?c_Walker_kept ?k_Walker_kept ?a_Walker_met ?i_Walker_met ?l_Walker_met ?c_Walker_met ?k_Walker_met ?v_MODULUS ?v_MOST_STEPS ?v_MOST_ROOM ?z_isinstance ?z_bool ?z_int ?z_str ?z_len ?z_tuple ?z_list ?z_range ?z_sorted ?z_min ?z_ValueError ?gBadCount ?xBadCount ?kBadCount ?bBadCount ?tBadCount ?gBadRule ?xBadRule ?kBadRule ?bBadRule ?tBadRule ?gBadDeed ?xBadDeed ?kBadDeed ?bBadDeed ?tBadDeed ?gNotKept ?xNotKept ?kNotKept ?bNotKept ?tNotKept ?gTwice ?xTwice ?kTwice ?bTwice ?tTwice ?gFull ?xFull ?kFull ?bFull ?tFull ?gAtEnd ?xAtEnd ?kAtEnd ?bAtEnd ?tAtEnd ?gNotWanted ?xNotWanted ?kNotWanted ?bNotWanted ?tNotWanted ?gMarkError ?xMarkError ?kMarkError ?bMarkError ?tMarkError ?hdM ?tkX ?spX ?sMBadCount ?qBadCountBadCount ?qBadCountBadRule ?qBadCountBadDeed ?qBadCountFull ?qBadCountTwice ?qBadCountNotKept ?qBadCountAtEnd ?qBadCountNotWanted ?qvBadCount ?hgBadCount ?hkBadCount ?hdBadCount ?haBadCount ?hmBadCount ?sMBadRule ?qBadRuleBadCount ?qBadRuleBadRule ?qBadRuleBadDeed ?qBadRuleFull ?qBadRuleTwice ?qBadRuleNotKept ?qBadRuleAtEnd ?qBadRuleNotWanted ?qvBadRule ?hgBadRule ?hkBadRule ?hdBadRule ?haBadRule ?hmBadRule ?sMBadDeed ?qBadDeedBadCount ?qBadDeedBadRule ?qBadDeedBadDeed ?qBadDeedFull ?qBadDeedTwice ?qBadDeedNotKept ?qBadDeedAtEnd ?qBadDeedNotWanted ?qvBadDeed ?hgBadDeed ?hkBadDeed ?hdBadDeed ?haBadDeed ?hmBadDeed ?sMFull ?qFullBadCount ?qFullBadRule ?qFullBadDeed ?qFullFull ?qFullTwice ?qFullNotKept ?qFullAtEnd ?qFullNotWanted ?qvFull ?hgFull ?hkFull ?hdFull ?haFull ?hmFull ?sMTwice ?qTwiceBadCount ?qTwiceBadRule ?qTwiceBadDeed ?qTwiceFull ?qTwiceTwice ?qTwiceNotKept ?qTwiceAtEnd ?qTwiceNotWanted ?qvTwice ?hgTwice ?hkTwice ?hdTwice ?haTwice ?hmTwice ?sMNotKept ?qNotKeptBadCount ?qNotKeptBadRule ?qNotKeptBadDeed ?qNotKeptFull ?qNotKeptTwice ?qNotKeptNotKept ?qNotKeptAtEnd ?qNotKeptNotWanted ?qvNotKept ?hgNotKept ?hkNotKept ?hdNotKept ?haNotKept ?hmNotKept ?sMAtEnd ?qAtEndBadCount ?qAtEndBadRule ?qAtEndBadDeed ?qAtEndFull ?qAtEndTwice ?qAtEndNotKept ?qAtEndAtEnd ?qAtEndNotWanted ?qvAtEnd ?hgAtEnd ?hkAtEnd ?hdAtEnd ?haAtEnd ?hmAtEnd ?sMNotWanted ?qNotWantedBadCount ?qNotWantedBadRule ?qNotWantedBadDeed ?qNotWantedFull ?qNotWantedTwice ?qNotWantedNotKept ?qNotWantedAtEnd ?qNotWantedNotWanted ?qvNotWanted ?hgNotWanted ?hkNotWanted ?hdNotWanted ?haNotWanted ?hmNotWanted
    (case a_is_among => k_is)
    (case l_is_among => k_is)
    (case c_is_among => k_is)
    (case k_is_among => k_is)
    (case a_is_state => k_is)
    (case l_is_state => k_is)
    (case c_is_state => k_is)
    (case k_is_state => k_is)
    (case a_is_rule => k_is)
    (case l_is_rule => k_is)
    (case c_is_rule => k_is)
    (case k_is_rule => k_is)
    (case a_need_row => k_is)
    (case l_need_row => k_is)
    (case c_need_row => k_is)
    (case k_need_row => k_is)
    (case a_forth => k_is)
    (case l_forth => k_is)
    (case c_forth => k_is)
    (case k_forth => k_is)
    (case a_is_deed => k_is)
    (case l_is_deed => k_is)
    (case c_is_deed => k_is)
    (case k_is_deed => k_is)
    (case a_need_counts => k_is)
    (case l_need_counts => k_is)
    (case c_need_counts => k_is)
    (case k_need_counts => k_is)
    (case a_choices => k_is)
    (case l_choices => k_is)
    (case c_choices => k_is)
    (case k_choices => k_is)
    (case a_ways => k_is)
    (case l_ways => k_is)
    (case c_ways => k_is)
    (case k_ways => k_is)
    (case a_often => k_is)
    (case l_often => k_is)
    (case c_often => k_is)
    (case k_often => k_is)
    (case a_first_mark => k_is)
    (case l_first_mark => k_is)
    (case c_first_mark => k_is)
    (case k_first_mark => k_is)
    (case a_again_and_again => k_is)
    (case l_again_and_again => k_is)
    (case c_again_and_again => k_is)
    (case k_again_and_again => k_is)
    (case a_from_mark => k_is)
    (case l_from_mark => k_is)
    (case c_from_mark => k_is)
    (case k_from_mark => k_is)
    (case a_plan => k_is)
    (case l_plan => k_is)
    (case c_plan => k_is)
    (case k_plan => k_is)
    (case a_walked => k_is)
    (case l_walked => k_is)
    (case c_walked => k_is)
    (case k_walked => k_is)
    (case a_backwards => k_is)
    (case l_backwards => k_is)
    (case c_backwards => k_is)
    (case k_backwards => k_is)
    (case a_l_cell_at => k_is)
    (case l_l_cell_at => k_is)
    (case c_l_cell_at => k_is)
    (case k_l_cell_at => k_is)
    (case a_l_number => k_is)
    (case l_l_number => k_is)
    (case c_l_number => k_is)
    (case k_l_number => k_is)
    (case a_l_rule => k_is)
    (case l_l_rule => k_is)
    (case c_l_rule => k_is)
    (case k_l_rule => k_is)
    (case a_l_row => k_is)
    (case l_l_row => k_is)
    (case c_l_row => k_is)
    (case k_l_row => k_is)
    (case a_l_class => k_is)
    (case l_l_class => k_is)
    (case c_l_class => k_is)
    (case k_l_class => k_is)
    (case a_l_made => k_is)
    (case l_l_made => k_is)
    (case c_l_made => k_is)
    (case k_l_made => k_is)
    (case a_l_deeds => k_is)
    (case l_l_deeds => k_is)
    (case c_l_deeds => k_is)
    (case k_l_deeds => k_is)
    (case a_l_wrong_deeds => k_is)
    (case l_l_wrong_deeds => k_is)
    (case c_l_wrong_deeds => k_is)
    (case k_l_wrong_deeds => k_is)
    (case a_law => k_is)
    (case l_law => k_is)
    (case c_law => k_is)
    (case k_law => k_is)
    (case aCWalker => k_is)
    (case pgWalker => k_is)
    (case hdWalker => k_is)
    (case poWalker => k_is)
    (case saWalker => k_is)
    (case mkWalker => k_is)
    (case kcWalker => k_is)
    (case nfrules => k_is)
    (case nfroom => k_is)
    (case nfplace => k_is)
    (case nfstate => k_is)
    (case nfdone => k_is)
    (case nfwanted => k_is)
    (case nfmarks => k_is)
    (case nfseen => k_is)
    (case a_Walker_init => k_is)
    (case i_Walker_init => k_is)
    (case l_Walker_init => k_is)
    (case c_Walker_init => k_is)
    (case k_Walker_init => k_is)
    (case a_Walker_keep => k_is)
    (case i_Walker_keep => k_is)
    (case l_Walker_keep => k_is)
    (case c_Walker_keep => k_is)
    (case k_Walker_keep => k_is)
    (case a_Walker_meet => k_is)
    (case i_Walker_meet => k_is)
    (case l_Walker_meet => k_is)
    (case c_Walker_meet => k_is)
    (case k_Walker_meet => k_is)
    (case a_Walker_go => k_is)
    (case i_Walker_go => k_is)
    (case l_Walker_go => k_is)
    (case c_Walker_go => k_is)
    (case k_Walker_go => k_is)
    (case a_Walker_do => k_is)
    (case i_Walker_do => k_is)
    (case l_Walker_do => k_is)
    (case c_Walker_do => k_is)
    (case k_Walker_do => k_is)
    (case a_Walker_kept => k_is)
    (case i_Walker_kept => k_is)
    (case l_Walker_kept => k_is)
    (case c_Walker_kept => k_is)
    (case k_Walker_kept => k_is)
    (case a_Walker_met => k_is)
    (case i_Walker_met => k_is)
    (case l_Walker_met => k_is)
    (case c_Walker_met => k_is)
    (case k_Walker_met => k_is)
    (case v_MODULUS => k_is)
    (case v_MOST_STEPS => k_is)
    (case v_MOST_ROOM => k_is)
    (case z_isinstance => k_is)
    (case z_bool => k_is)
    (case z_int => k_is)
    (case z_str => k_is)
    (case z_len => k_is)
    (case z_tuple => k_is)
    (case z_list => k_is)
    (case z_range => k_is)
    (case z_sorted => k_is)
    (case z_min => k_is)
    (case z_ValueError => k_is)
    (case gBadCount => k_is)
    (case xBadCount => k_exc)
    (case kBadCount => k_is)
    (case bBadCount => k_is)
    (case tBadCount => k_is)
    (case gBadRule => k_is)
    (case xBadRule => k_exc)
    (case kBadRule => k_is)
    (case bBadRule => k_is)
    (case tBadRule => k_is)
    (case gBadDeed => k_is)
    (case xBadDeed => k_exc)
    (case kBadDeed => k_is)
    (case bBadDeed => k_is)
    (case tBadDeed => k_is)
    (case gNotKept => k_is)
    (case xNotKept => k_exc)
    (case kNotKept => k_is)
    (case bNotKept => k_is)
    (case tNotKept => k_is)
    (case gTwice => k_is)
    (case xTwice => k_exc)
    (case kTwice => k_is)
    (case bTwice => k_is)
    (case tTwice => k_is)
    (case gFull => k_is)
    (case xFull => k_exc)
    (case kFull => k_is)
    (case bFull => k_is)
    (case tFull => k_is)
    (case gAtEnd => k_is)
    (case xAtEnd => k_exc)
    (case kAtEnd => k_is)
    (case bAtEnd => k_is)
    (case tAtEnd => k_is)
    (case gNotWanted => k_is)
    (case xNotWanted => k_exc)
    (case kNotWanted => k_is)
    (case bNotWanted => k_is)
    (case tNotWanted => k_is)
    (case gMarkError => k_is)
    (case xMarkError => k_exc)
    (case kMarkError => k_is)
    (case bMarkError => k_is)
    (case tMarkError => k_is)
    (case hdM => k_is)
    (case tkX => k_is)
    (case spX => k_is)
    (case sMBadCount => k_is)
    (case qBadCountBadCount => kit_is)
    (case qBadCountBadRule => kit_is)
    (case qBadCountBadDeed => kit_is)
    (case qBadCountFull => kit_is)
    (case qBadCountTwice => kit_is)
    (case qBadCountNotKept => kit_is)
    (case qBadCountAtEnd => kit_is)
    (case qBadCountNotWanted => kit_is)
    (case qvBadCount => kit_is)
    (case hgBadCount => k_is)
    (case hkBadCount => k_is)
    (case hdBadCount => k_is)
    (case haBadCount => k_is)
    (case hmBadCount => k_is)
    (case sMBadRule => k_is)
    (case qBadRuleBadCount => kit_is)
    (case qBadRuleBadRule => kit_is)
    (case qBadRuleBadDeed => kit_is)
    (case qBadRuleFull => kit_is)
    (case qBadRuleTwice => kit_is)
    (case qBadRuleNotKept => kit_is)
    (case qBadRuleAtEnd => kit_is)
    (case qBadRuleNotWanted => kit_is)
    (case qvBadRule => kit_is)
    (case hgBadRule => k_is)
    (case hkBadRule => k_is)
    (case hdBadRule => k_is)
    (case haBadRule => k_is)
    (case hmBadRule => k_is)
    (case sMBadDeed => k_is)
    (case qBadDeedBadCount => kit_is)
    (case qBadDeedBadRule => kit_is)
    (case qBadDeedBadDeed => kit_is)
    (case qBadDeedFull => kit_is)
    (case qBadDeedTwice => kit_is)
    (case qBadDeedNotKept => kit_is)
    (case qBadDeedAtEnd => kit_is)
    (case qBadDeedNotWanted => kit_is)
    (case qvBadDeed => kit_is)
    (case hgBadDeed => k_is)
    (case hkBadDeed => k_is)
    (case hdBadDeed => k_is)
    (case haBadDeed => k_is)
    (case hmBadDeed => k_is)
    (case sMFull => k_is)
    (case qFullBadCount => kit_is)
    (case qFullBadRule => kit_is)
    (case qFullBadDeed => kit_is)
    (case qFullFull => kit_is)
    (case qFullTwice => kit_is)
    (case qFullNotKept => kit_is)
    (case qFullAtEnd => kit_is)
    (case qFullNotWanted => kit_is)
    (case qvFull => kit_is)
    (case hgFull => k_is)
    (case hkFull => k_is)
    (case hdFull => k_is)
    (case haFull => k_is)
    (case hmFull => k_is)
    (case sMTwice => k_is)
    (case qTwiceBadCount => kit_is)
    (case qTwiceBadRule => kit_is)
    (case qTwiceBadDeed => kit_is)
    (case qTwiceFull => kit_is)
    (case qTwiceTwice => kit_is)
    (case qTwiceNotKept => kit_is)
    (case qTwiceAtEnd => kit_is)
    (case qTwiceNotWanted => kit_is)
    (case qvTwice => kit_is)
    (case hgTwice => k_is)
    (case hkTwice => k_is)
    (case hdTwice => k_is)
    (case haTwice => k_is)
    (case hmTwice => k_is)
    (case sMNotKept => k_is)
    (case qNotKeptBadCount => kit_is)
    (case qNotKeptBadRule => kit_is)
    (case qNotKeptBadDeed => kit_is)
    (case qNotKeptFull => kit_is)
    (case qNotKeptTwice => kit_is)
    (case qNotKeptNotKept => kit_is)
    (case qNotKeptAtEnd => kit_is)
    (case qNotKeptNotWanted => kit_is)
    (case qvNotKept => kit_is)
    (case hgNotKept => k_is)
    (case hkNotKept => k_is)
    (case hdNotKept => k_is)
    (case haNotKept => k_is)
    (case hmNotKept => k_is)
    (case sMAtEnd => k_is)
    (case qAtEndBadCount => kit_is)
    (case qAtEndBadRule => kit_is)
    (case qAtEndBadDeed => kit_is)
    (case qAtEndFull => kit_is)
    (case qAtEndTwice => kit_is)
    (case qAtEndNotKept => kit_is)
    (case qAtEndAtEnd => kit_is)
    (case qAtEndNotWanted => kit_is)
    (case qvAtEnd => kit_is)
    (case hgAtEnd => k_is)
    (case hkAtEnd => k_is)
    (case hdAtEnd => k_is)
    (case haAtEnd => k_is)
    (case hmAtEnd => k_is)
    (case sMNotWanted => k_is)
    (case qNotWantedBadCount => kit_is)
    (case qNotWantedBadRule => kit_is)
    (case qNotWantedBadDeed => kit_is)
    (case qNotWantedFull => kit_is)
    (case qNotWantedTwice => kit_is)
    (case qNotWantedNotKept => kit_is)
    (case qNotWantedAtEnd => kit_is)
    (case qNotWantedNotWanted => kit_is)
    (case qvNotWanted => kit_is)
    (case hgNotWanted => k_is)
    (case hkNotWanted => k_is)
    (case hdNotWanted => k_is)
    (case haNotWanted => k_is)
    (case hmNotWanted => k_is)
#print axioms PySem.Challenge.cw_backmarks_k06_walkers_refused_holds
